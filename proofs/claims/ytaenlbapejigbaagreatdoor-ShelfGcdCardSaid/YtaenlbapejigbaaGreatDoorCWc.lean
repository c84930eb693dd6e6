/- The shelf: texts of Wc. -/
import Derived.Test.YtaenlbapejigbaaGreatDoorCXu
import Derived.Test.YtaenlbapejigbaaGreatDoorCMd
import Derived.Test.YtaenlbapejigbaaGreatDoorCWb
set_option linter.unusedSimpArgs false
set_option linter.unusedVariables false
set_option linter.unusedSectionVars false
set_option maxRecDepth 100000
set_option maxHeartbeats 20000000
namespace Go.Proofs.YtaenlbapejigbaaGreatDoor
open Go.Wk Go.Xt Go.Y Tryz
variable {b1 b3 b4 b6 b9 b19 c2 c5 c12 c15 c21 c37 fu o2 o4 o5 o7 o10:Nat} {a1 a4 a11 a14 a36:Option Addr} {v1 v3 v4 v5 v24 v28 v32:Value} {cs2 cs5 cs25 cs29 cs33:List Value} {es20:List MapEntry} {μ0:M} {w0 w:World} {rsF:List Res}
theorem vf_copied_w (hg:Le Gm μ0) {p_1 r:TVs} (m3:Sl μ0 a1 c2 p_1.stack) (m6:Sl μ0 a4 c5 p_1.has) (h:vf_copied p_1=some r) (hS:Sq μ0 w0 w (rsF)):CallsV prog 79 [.agg ⟨[.slice a1 p_1.stack.length c2,.slice a4 p_1.has.length c5]⟩] w (fun v w'=>∃ (μ':M) (v7:Value) (cs8:List Value) (v10:Value) (cs11:List Value),v=.agg ⟨[v7,v10]⟩∧Le μ0 μ'∧Sq μ' w0 w' (.row v7 3 1 r.stack.length cs8::.row v10 4 1 r.has.length cs11::rsF)∧Rw μ' cs8 r.stack∧Rw μ' cs11 r.has):=by
 unfold vf_copied at h
 refine enter func79 rfl (frm:=_::u2 (u2 (u5 []))) rfl (nz ?_)
 refine wl (s_box (et d0) rfl hS ?_); clear hS; intro b13 w1 hb14 hS; refine po ?_
 refine wl (s_alloc ti171 hS ?_); clear hS; intro b15 w2 hb16 hS; refine po ?_
 refine ny ?_
 refine ccutE (rg 3 7) (by decide) (fun m w=>∃ μx l19 v17 cs18 l23 v21 cs22,m=(yK3 (yO7 3 []))∧vf_copied_j1 l19 l23=some r∧Le μ0 μx∧Sq μx w0 w (.blk b15 171 [v17,v21]::.row v17 3 1 l19.length cs18::.row v21 4 1 l23.length cs22::rsF)∧Rw μx cs18 l19∧Rw μx cs22 l23) (by rintro _ _ ⟨_,_,_,_,_,_,_,rfl,_⟩; rfl) ?_ ?_
 ·refine cdw hS ?_; clear hS; intro w3 hS
  refine cpi 0 rfl (cpi 3 rfl (cr 1 [1,2,5,6,7] rfl (u_load ti27 (et d3) ((hS.blk d1).cell d0)) p4 ?_))
  refine sc2G (i:=2) (j:=4) rfl rfl rfl rfl rfl (wn0 rfl) (wn0 rfl) ?_ ?_
  ·obtain ⟨u25,g26,h⟩:=bI h
   refine id (s_callv isfn116 ef (e1 (et d4) e0) (clone_i_c (l:=p_1.stack) (small_eq g26) (cells_sl int1 rfl m3 hS.a) hS) ?_); clear hS; intro v27 w4 hS; refine po ?_
   have m28:Rw μ0 _ p_1.stack:=rw_of_map (fun _ _=>rfl) _
   refine cr 4 [4,5,6,7] rfl (u_load ti169 (et d6) ((hS.blk d2).cell d1)) p7 ?_
   obtain ⟨u29,g30,h⟩:=bI h
   refine sc1 rfl rfl rfl (s_callv isfn117 ef (e1 (et d7) e0) (clone_b_c (l:=p_1.has) (small_eq g30) (cells_sl bool1 rfl m6 hS.a) hS) ?_); clear hS; intro v31 w5 hS; refine po ?_
   have m32:Rw μ0 _ p_1.has:=rw_of_map (fun _ _=>rfl) _
   refine cp 6 rfl (u_build ti171 pl171 (Fl.o rfl (et d5) (hS.get d1).cellV rfl p0 (Fl.o rfl (et d8) (hS.get d0).cellV rfl p1 Fl.z))) p9 (sc1 rfl rfl rfl (s_storeA ti171 (et d2) (et d9) rfl (cv_s ((hS.get d1).cellV) (cv_s ((hS.get d0).cellV) cv_z)) hS d2 rfl p2 dn ?_))
   clear hS; intro w6 hS
   refine sc_nil (xl ?_)
   replace hS:=((hS.drop (Rm.s (Rm.s (Rm.s Rm.z)))).bg Y1).bg Y2
   exact ⟨_,_,rfl,(aK3 (aO7 aZ)),_,p_1.stack,_,(p_1.stack.map (Value.int .i64)),p_1.has,_,(p_1.has.map Value.bool),rfl,h,Le.r,hS,m28,m32⟩
  ·obtain ⟨u25,g26,h⟩:=bI h
   obtain ⟨u29,g30,h⟩:=bI h
   refine id (s_load ti169 (et d6) ((hS.blk d1).cell d1) (dt p7) ?_)
   refine sc1 rfl rfl rfl (s_callv isfn116 ef (e1 (et d4) e0) (clone_i_c (l:=p_1.stack) (small_eq g26) (cells_sl int1 rfl m3 hS.a) hS) ?_); clear hS; intro v33 w7 hS; refine po ?_
   have m34:Rw μ0 _ p_1.stack:=rw_of_map (fun _ _=>rfl) _
   refine sc1 rfl rfl rfl (s_callv isfn117 ef (e1 (et d7) e0) (clone_b_c (l:=p_1.has) (small_eq g30) (cells_sl bool1 rfl m6 hS.a) hS) ?_); clear hS; intro v35 w8 hS; refine po ?_
   have m36:Rw μ0 _ p_1.has:=rw_of_map (fun _ _=>rfl) _
   refine cp 6 rfl (u_build ti171 pl171 (Fl.o rfl (et d5) (hS.get d1).cellV rfl p0 (Fl.o rfl (et d8) (hS.get d0).cellV rfl p1 Fl.z))) p9 (sc1 rfl rfl rfl (s_storeA ti171 (et d2) (et d9) rfl (cv_s ((hS.get d1).cellV) (cv_s ((hS.get d0).cellV) cv_z)) hS d2 rfl p2 dn ?_))
   clear hS; intro w9 hS
   refine sc_nil (xl ?_)
   replace hS:=((hS.drop (Rm.s (Rm.s (Rm.s Rm.z)))).bg Y1).bg Y2
   exact ⟨_,_,rfl,(aK3 (aO7 aZ)),_,p_1.stack,_,(p_1.stack.map (Value.int .i64)),p_1.has,_,(p_1.has.map Value.bool),rfl,h,Le.r,hS,m34,m36⟩
 ·rintro _ t w10 ⟨μ1,l19,v17,cs18,l23,v21,cs22,rfl,h,le37,hS,m38,m39⟩
  unfold vf_copied_j1 at h
  refine nrm (mK3 (mO7 mz)) (xn (cret ?_))
  obtain rfl:=oI h
  refine retN rfl (RVs.s (.a d2 ti171 (hS.blk d0).cells rfl) RVs.z) ?_
  replace hS:=hS.drop Rm.z
  exact ⟨_,_,_,_,_,rfl,le37,hS,m38,m39⟩
theorem vf_copiedr_w (hg:Le Gm μ0) {p_1 r:TVs} (m3:Rw μ0 cs2 p_1.stack) (m6:Rw μ0 cs5 p_1.has) (h:vf_copiedr p_1=some r) (hS:Sq μ0 w0 w (.row v1 3 1 p_1.stack.length cs2::.row v4 4 1 p_1.has.length cs5::rsF)):CallsV prog 79 [.agg ⟨[v1,v4]⟩] w (fun v w'=>∃ (μ':M) (v7:Value) (cs8:List Value) (v10:Value) (cs11:List Value),v=.agg ⟨[v7,v10]⟩∧Le μ0 μ'∧Sq μ' w0 w' (.row v7 3 1 r.stack.length cs8::.row v10 4 1 r.has.length cs11::.row v1 3 1 p_1.stack.length cs2::.row v4 4 1 p_1.has.length cs5::rsF)∧Rw μ' cs8 r.stack∧Rw μ' cs11 r.has):=by
 unfold vf_copiedr at h
 refine enter func79 rfl (frm:=_::u2 (u2 (u5 []))) rfl (nz ?_)
 refine wl (s_box (et d0) rfl hS ?_); clear hS; intro b13 w1 hb14 hS; refine po ?_
 refine wl (s_alloc ti171 hS ?_); clear hS; intro b15 w2 hb16 hS; refine po ?_
 refine ny ?_
 refine ccutE (rg 3 7) (by decide) (fun m w=>∃ μx l19 v17 cs18 l23 v21 cs22,m=(yK3 (yO7 3 []))∧vf_copiedr_j1 l19 l23=some r∧Le μ0 μx∧Sq μx w0 w (.row v1 3 1 p_1.stack.length cs2::.row v4 4 1 p_1.has.length cs5::.blk b15 171 [v17,v21]::.row v17 3 1 l19.length cs18::.row v21 4 1 l23.length cs22::rsF)∧Rw μx cs18 l19∧Rw μx cs22 l23) (by rintro _ _ ⟨_,_,_,_,_,_,_,rfl,_⟩; rfl) ?_ ?_
 ·refine cdw hS ?_; clear hS; intro w3 hS
  refine cpi 0 rfl (cpi 3 rfl (cr 1 [1,2,5,6,7] rfl (u_load ti27 (et d3) ((hS.blk d1).cell d0)) p4 ?_))
  refine sc2G (i:=2) (j:=4) rfl rfl rfl rfl rfl (wn0 rfl) (wn0 rfl) ?_ ?_
  ·obtain ⟨u25,g26,h⟩:=bI h
   refine id (s_callv isfn116 ef (e1 (et d4) e0) (clone_i_c (l:=p_1.stack) (small_eq g26) (cells_row int1 (hS.get d2) m3) hS) ?_); clear hS; intro v27 w4 hS; refine po ?_
   have m28:Rw μ0 _ p_1.stack:=rw_of_map (fun _ _=>rfl) _
   refine cr 4 [4,5,6,7] rfl (u_load ti169 (et d6) ((hS.blk d2).cell d1)) p7 ?_
   obtain ⟨u29,g30,h⟩:=bI h
   refine sc1 rfl rfl rfl (s_callv isfn117 ef (e1 (et d7) e0) (clone_b_c (l:=p_1.has) (small_eq g30) (cells_row bool1 (hS.get d4) m6) hS) ?_); clear hS; intro v31 w5 hS; refine po ?_
   have m32:Rw μ0 _ p_1.has:=rw_of_map (fun _ _=>rfl) _
   refine cp 6 rfl (u_build ti171 pl171 (Fl.o rfl (et d5) (hS.get d1).cellV rfl p0 (Fl.o rfl (et d8) (hS.get d0).cellV rfl p1 Fl.z))) p9 (sc1 rfl rfl rfl (s_storeA ti171 (et d2) (et d9) rfl (cv_s ((hS.get d1).cellV) (cv_s ((hS.get d0).cellV) cv_z)) hS d2 rfl p2 dn ?_))
   clear hS; intro w6 hS
   refine sc_nil (xl ?_)
   replace hS:=((((hS.drop (Rm.s (Rm.s (Rm.s Rm.z)))).bg Y1).bg Y2).bg Y4).bg Y4
   exact ⟨_,_,rfl,(aK3 (aO7 aZ)),_,p_1.stack,_,(p_1.stack.map (Value.int .i64)),p_1.has,_,(p_1.has.map Value.bool),rfl,h,Le.r,hS,m28,m32⟩
  ·obtain ⟨u25,g26,h⟩:=bI h
   obtain ⟨u29,g30,h⟩:=bI h
   refine id (s_load ti169 (et d6) ((hS.blk d1).cell d1) (dt p7) ?_)
   refine sc1 rfl rfl rfl (s_callv isfn116 ef (e1 (et d4) e0) (clone_i_c (l:=p_1.stack) (small_eq g26) (cells_row int1 (hS.get d2) m3) hS) ?_); clear hS; intro v33 w7 hS; refine po ?_
   have m34:Rw μ0 _ p_1.stack:=rw_of_map (fun _ _=>rfl) _
   refine sc1 rfl rfl rfl (s_callv isfn117 ef (e1 (et d7) e0) (clone_b_c (l:=p_1.has) (small_eq g30) (cells_row bool1 (hS.get d4) m6) hS) ?_); clear hS; intro v35 w8 hS; refine po ?_
   have m36:Rw μ0 _ p_1.has:=rw_of_map (fun _ _=>rfl) _
   refine cp 6 rfl (u_build ti171 pl171 (Fl.o rfl (et d5) (hS.get d1).cellV rfl p0 (Fl.o rfl (et d8) (hS.get d0).cellV rfl p1 Fl.z))) p9 (sc1 rfl rfl rfl (s_storeA ti171 (et d2) (et d9) rfl (cv_s ((hS.get d1).cellV) (cv_s ((hS.get d0).cellV) cv_z)) hS d2 rfl p2 dn ?_))
   clear hS; intro w9 hS
   refine sc_nil (xl ?_)
   replace hS:=((((hS.drop (Rm.s (Rm.s (Rm.s Rm.z)))).bg Y1).bg Y2).bg Y4).bg Y4
   exact ⟨_,_,rfl,(aK3 (aO7 aZ)),_,p_1.stack,_,(p_1.stack.map (Value.int .i64)),p_1.has,_,(p_1.has.map Value.bool),rfl,h,Le.r,hS,m34,m36⟩
 ·rintro _ t w10 ⟨μ1,l19,v17,cs18,l23,v21,cs22,rfl,h,le37,hS,m38,m39⟩
  unfold vf_copiedr_j1 at h
  refine nrm (mK3 (mO7 mz)) (xn (cret ?_))
  obtain rfl:=oI h
  refine retN rfl (RVs.s (.a d2 ti171 (hS.blk d2).cells rfl) RVs.z) ?_
  replace hS:=((((hS.drop (Rm.s (Rm.s Rm.z))).bg Y1).bg Y1).bg Y3).bg Y3
  exact ⟨_,_,_,_,_,rfl,le37,hS,m38,m39⟩
theorem sl_equal_w (hg:Le Gm μ0) {p_1 p_2:List Int} {r:Bool} (m3:Sl μ0 a1 c2 p_1) (m6:Rw μ0 cs5 p_2) (h:sl_equal p_1 p_2=some r) (hS:Sq μ0 w0 w (.row v4 3 1 p_2.length cs5::rsF)):CallsV prog 115 [.slice a1 p_1.length c2,v4] w (fun v w'=>∃ (μ':M) ,v=.bool r∧Le μ0 μ'∧Sq μ' w0 w' (.row v4 3 1 p_2.length cs5::rsF)):=by
 unfold sl_equal at h
 refine enter func115 rfl (frm:=_::_::u2 (u2 (u20 []))) rfl (nz (st (ny (nz (st (wl (su (u_lensl underlying27 (et d6)) (dt p7) (st (wl (su (u_lenv underlying27 (et d8) (hS.get d0).isSl) (dt p9) (st (nw ?_))))))))))))
 refine cifd (et (k10 d0)) (xT h) fun h7=>?_
 replace h:=iF h7 h
 refine cskip (xn (cseq (nz (st (wl (su (u_lensl underlying27 (et (k10 d1))) (dt (q10 p2)) (st (nw (cblock ?_)))))))))
 refine cloopE (rg 4 2++rg 14 12) (by decide) (fun n m w=>∃ (μx:M) ,m=(yK4 (yO2 4 (yK7 (.i (.int .i64 0)::(yO10 14 (yO2 24 []))))))∧sl_equal_l1 p_1 n =some r∧Le μ0 μx∧Sq μx w0 w (.row v4 3 1 p_2.length cs5::rsF)) (by rintro _ _ _ ⟨_,rfl,_⟩; rfl) _ _ (aK4 (aO2 (aK7 (aI (aO10 (aO2 aZ)))))) ⟨_,rfl,h,Le.r,hS⟩ ?_
 rintro n_1 _ t w1 ⟨μ1,rfl,h,le8,hS⟩
 cases n_1 with
 | zero=>cases h
 | succ n_1 =>
 unfold sl_equal_l1 at h
 refine cnrm (mK4 (mO2 (mK7 (mi (mO10 (mO2 mz)))))) (nz (st (ny ?_)))
 refine cifd (et (k10 d4)) (xT h) fun h9=>?_
 replace h:=iF h9 h
 refine cexit ?_
 refine (fun h=>xe (xe (bh h))) ?_
 refine xn (nz (st (nw (cret ?_))))
 obtain rfl:=oI h
 refine ret1 rfl d4 ?_
 exact ⟨_,rfl,le8,hS⟩
theorem vf_push_w (hg:Le Gm μ0) {chec_2:TVc} {u_8:TUnit} {at_18:List (Int×TVs)} {todo_23 stac_27:List Int} {has_31:List Bool} {err_35 p_2:Int} {r:List (Int×TVs)×List Int×List Int×List Bool×Int} (m6:Np μ0 v5 chec_2.m) (m7:At μ0 b3 o4 [v5]) (m13:Sl μ0 a11 c12 u_8.Locals) (m16:Sl μ0 a14 c15 u_8.Code) (m17:At μ0 b9 o10 [.int .i64 u_8.Kind,.int .i64 u_8.Params,.slice a11 u_8.Locals.length c12,.int .i64 u_8.Result,.int .i64 u_8.Takes,.slice a14 u_8.Code.length c15]) (m22:Mq μ0 es20 c21 at_18) (m26:Rw μ0 cs25 todo_23) (m30:Rw μ0 cs29 stac_27) (m34:Rw μ0 cs33 has_31) (h:vf_push chec_2 u_8 at_18 todo_23 stac_27 has_31 err_35 p_2=some r) (hS:Sq μ0 w0 w (.blk b1 173 [.pointer (some ⟨b3,o4,none⟩),.pointer (some ⟨b9,o10,none⟩),.map (some b19),v24,v28,v32,.int .i64 err_35]::.map b19 es20 c21::.row v24 3 1 todo_23.length cs25::.row v28 3 1 stac_27.length cs29::.row v32 4 1 has_31.length cs33::rsF)):CallsV prog 118 [.pointer (some ⟨b1,0,none⟩),.int .i64 p_2] w (fun v w'=>∃ (μ':M) (es36:List MapEntry) (c37:Nat) (v39:Value) (cs40:List Value) (v42:Value) (cs43:List Value) (v45:Value) (cs46:List Value),v=.tuple ⟨[]⟩∧Le μ0 μ'∧Sq μ' w0 w' (.blk b1 173 [.pointer (some ⟨b3,o4,none⟩),.pointer (some ⟨b9,o10,none⟩),.map (some b19),v39,v42,v45,.int .i64 r.2.2.2.2]::.map b19 es36 c37::.row v39 3 1 r.2.1.length cs40::.row v42 3 1 r.2.2.1.length cs43::.row v45 4 1 r.2.2.2.1.length cs46::rsF)∧Mq μ' es36 c37 r.1∧Rw μ' cs40 r.2.1∧Rw μ' cs43 r.2.2.1∧Rw μ' cs46 r.2.2.2.1):=by
 unfold vf_push at h
 refine enter func118 rfl (frm:=_::_::u1 (u2 (u20 []))) rfl (nz ?_)
 iterate 5 refine st ?_
 refine ld ((hS.blk d0).cell d4) (st ?_)
 refine wl (s_bsl underlying27 ti3 (Parts.s (et (k10 d0)) rfl Parts.z) rfl rfl hS ?_); clear hS; intro b48 w1 hb49 hS; refine po ?_
 obtain ⟨l52,g53,h⟩:=bI h
 have m54:Rw μ0 [.int .i64 p_2] [p_2]:=(Rw.one (α:=Int) rfl)
 have m51:=Rw.app m30 m54 g53
 refine wl (s_app1 underlying27 ti3 rfl (et d9) (et (k10 d1)) hS d4 (hS.blk d0).cells m54 rfl g53 (by decide) ?_); clear hS; intro v50 w2 rs_ hp_ hS; cases (show _=rs_ from hp_)
 replace hS:=Sep.reput hS p4; refine po ?_
 replace hS:=hS.drop Rm.z
 iterate 3 refine st ?_
 refine wl (s_store1 ti27 (et (k10 d5)) (et (k10 d2)) (hS.get d3).cellV hS d0 p4 rfl p0 dn ?_)
 clear hS; intro w3 hS
 refine nx ?_
 iterate 4 refine st ?_
 refine ld ((hS.blk d0).cell d4) (wl (su (u_lenv underlying27 (et (k20 d0)) (hS.get d3).isSl) (dt (q20 p1)) (st (nw ?_))))
 refine cifd (et (k20 d2)) (xT h) fun h55=>?_
 replace h:=iF h55 h
 refine cskip ?_
 obtain rfl:=oI h
 refine end0 rfl ?_
 exact ⟨_,es20,_,_,_,_,((cs29++[.int .i64 p_2]):List Value),_,_,rfl,Le.r,hS,m22,m26,m51,m34⟩
theorem vf_pop_w (hg:Le Gm μ0) {chec_2:TVc} {u_8:TUnit} {at_18:List (Int×TVs)} {todo_23 stac_27:List Int} {has_31:List Bool} {err_35:Int} {r:Int×List (Int×TVs)×List Int×List Int×List Bool×Int} (m6:Np μ0 v5 chec_2.m) (m7:At μ0 b3 o4 [v5]) (m13:Sl μ0 a11 c12 u_8.Locals) (m16:Sl μ0 a14 c15 u_8.Code) (m17:At μ0 b9 o10 [.int .i64 u_8.Kind,.int .i64 u_8.Params,.slice a11 u_8.Locals.length c12,.int .i64 u_8.Result,.int .i64 u_8.Takes,.slice a14 u_8.Code.length c15]) (m22:Mq μ0 es20 c21 at_18) (m26:Rw μ0 cs25 todo_23) (m30:Rw μ0 cs29 stac_27) (m34:Rw μ0 cs33 has_31) (h:vf_pop chec_2 u_8 at_18 todo_23 stac_27 has_31 err_35=some r) (hS:Sq μ0 w0 w (.blk b1 173 [.pointer (some ⟨b3,o4,none⟩),.pointer (some ⟨b9,o10,none⟩),.map (some b19),v24,v28,v32,.int .i64 err_35]::.map b19 es20 c21::.row v24 3 1 todo_23.length cs25::.row v28 3 1 stac_27.length cs29::.row v32 4 1 has_31.length cs33::rsF)):CallsV prog 120 [.pointer (some ⟨b1,0,none⟩)] w (fun v w'=>∃ (μ':M) (es36:List MapEntry) (c37:Nat) (v39:Value) (cs40:List Value) (v42:Value) (cs43:List Value) (v45:Value) (cs46:List Value),v=.int .i64 r.1∧Le μ0 μ'∧Sq μ' w0 w' (.blk b1 173 [.pointer (some ⟨b3,o4,none⟩),.pointer (some ⟨b9,o10,none⟩),.map (some b19),v39,v42,v45,.int .i64 r.2.2.2.2.2]::.map b19 es36 c37::.row v39 3 1 r.2.2.1.length cs40::.row v42 3 1 r.2.2.2.1.length cs43::.row v45 4 1 r.2.2.2.2.1.length cs46::rsF)∧Mq μ' es36 c37 r.2.1∧Rw μ' cs40 r.2.2.1∧Rw μ' cs43 r.2.2.2.1∧Rw μ' cs46 r.2.2.2.2.1):=by
 unfold vf_pop at h
 refine enter func120 rfl (frm:=_::u1 (u5 (u10 (u20 [])))) rfl (nz (st (nx ?_)))
 iterate 4 refine st ?_
 refine ld ((hS.blk d0).cell d4) (wl (su (u_lenv underlying27 (et d9) (hS.get d3).isSl) (dt (q10 p0)) (st (ny (nz ?_)))))
 iterate 2 refine st ?_
 refine nw ?_
 refine cifd (et (k10 d2)) (xT h) fun h48=>?_
 replace h:=iF h48 h
 refine cskip (xn (nz ?_))
 iterate 4 refine st ?_
 refine ld ((hS.blk d0).cell d4) (st ?_)
 obtain ⟨i49,g50,h⟩:=bI h
 refine wl (su (u_subc (et (k20 d0)) ec g50) (dt (q20 p1)) ?_)
 obtain ⟨x51,g52,h⟩:=bI h
 obtain ⟨b53,o54,pc55,cs56,sc57,ec58,e59,f60,m61,pn62,st63,m64⟩:=Row.elemS (α:=Int) (hS.get d3) m30 rfl g52
 rw [ec58] at hS
 obtain rfl:=m61
 refine wl (su (u_iax underlying27 ti3 (et (k10 d9)) (et (k20 d1)) e59) (dt (q20 p2)) (ld ((f60 _ _ _ (hS.get d3) rfl).one d0) (st (nx ?_))))
 iterate 5 refine st ?_
 refine ld ((hS.blk d0).cell d4) (st ?_)
 obtain ⟨i65,g66,h⟩:=bI h
 refine wl (su (u_subc (et (k30 d0)) ec g66) (dt (q30 p1)) ?_)
 obtain ⟨l67,g68,h⟩:=bI h
 obtain ⟨v69,cs74,e70,hb71,hr72,m73⟩:=Row.cutT (α:=Int) (hS.get d3) m64 g68
 replace hS:=hS.reRow d3 hb71 hr72 p3
 refine wl (su (u_slc underlying27 ti3 (et (k20 d9)) .n (.s (et (k30 d1))) e70) (dt (q30 p2)) ?_)
 iterate 3 refine st ?_
 refine wl (s_store1 ti27 (et (k30 d5)) (et (k30 d2)) (hS.get d3).cellV hS d0 p4 rfl p0 dn ?_)
 clear hS; intro w1 hS
 refine nx ?_
 iterate 2 refine st ?_
 refine nw (cret ?_)
 obtain rfl:=oI h
 refine ret1 rfl d2 ?_
 exact ⟨_,es20,_,_,_,_,_,_,_,rfl,Le.r,hS,m22,m26,m73,m34⟩
theorem vf_want_w (hg:Le Gm μ0) {chec_2:TVc} {u_8:TUnit} {at_18:List (Int×TVs)} {todo_23 stac_27:List Int} {has_31:List Bool} {err_35:Int} {p_2:List Int} {r:List (Int×TVs)×List Int×List Int×List Bool×Int} (m6:Np μ0 v5 chec_2.m) (m7:At μ0 b3 o4 [v5]) (m13:Sl μ0 a11 c12 u_8.Locals) (m16:Sl μ0 a14 c15 u_8.Code) (m17:At μ0 b9 o10 [.int .i64 u_8.Kind,.int .i64 u_8.Params,.slice a11 u_8.Locals.length c12,.int .i64 u_8.Result,.int .i64 u_8.Takes,.slice a14 u_8.Code.length c15]) (m22:Mq μ0 es20 c21 at_18) (m26:Rw μ0 cs25 todo_23) (m30:Rw μ0 cs29 stac_27) (m34:Rw μ0 cs33 has_31) (m38:Sl μ0 a36 c37 p_2) (h:vf_want fu chec_2 u_8 at_18 todo_23 stac_27 has_31 err_35 p_2=some r) (hS:Sq μ0 w0 w (.blk b1 173 [.pointer (some ⟨b3,o4,none⟩),.pointer (some ⟨b9,o10,none⟩),.map (some b19),v24,v28,v32,.int .i64 err_35]::.map b19 es20 c21::.row v24 3 1 todo_23.length cs25::.row v28 3 1 stac_27.length cs29::.row v32 4 1 has_31.length cs33::rsF)):CallsV prog 119 [.pointer (some ⟨b1,0,none⟩),.slice a36 p_2.length c37] w (fun v w'=>∃ (μ':M) (es39:List MapEntry) (c40:Nat) (v42:Value) (cs43:List Value) (v45:Value) (cs46:List Value) (v48:Value) (cs49:List Value),v=.tuple ⟨[]⟩∧Le μ0 μ'∧Sq μ' w0 w' (.blk b1 173 [.pointer (some ⟨b3,o4,none⟩),.pointer (some ⟨b9,o10,none⟩),.map (some b19),v42,v45,v48,.int .i64 r.2.2.2.2]::.map b19 es39 c40::.row v42 3 1 r.2.1.length cs43::.row v45 3 1 r.2.2.1.length cs46::.row v48 4 1 r.2.2.2.1.length cs49::rsF)∧Mq μ' es39 c40 r.1∧Rw μ' cs43 r.2.1∧Rw μ' cs46 r.2.2.1∧Rw μ' cs49 r.2.2.2.1):=by
 unfold vf_want at h
 refine enter func119 rfl (frm:=_::_::u1 (u20 [])) rfl (nz (st (wl (su (u_lensl underlying27 (et d6)) (dt p7) ?_))))
 obtain ⟨i51,g52,h⟩:=bI h
 refine wl (su (u_subc (et d7) ec g52) (dt p8) (st (nw (cblock ?_))))
 refine cloopE ([5]++rg 9 14) (by decide) (fun n m w=>∃ μx i78 i79 l82 es80 c81 l86 v84 cs85 l90 v88 cs89 l94 v92 cs93,m=(yK4 (.i (.int .i64 i78)::(yO1 5 (yK3 (yO10 9 (yO4 19 []))))))∧vf_want_l1 chec_2 p_2 u_8 n i78 i79 l82 l86 l90 l94=some r∧Le μ0 μx∧Sq μx w0 w (.blk b1 173 [.pointer (some ⟨b3,o4,none⟩),.pointer (some ⟨b9,o10,none⟩),.map (some b19),v84,v88,v92,.int .i64 i79]::.map b19 es80 c81::.row v84 3 1 l86.length cs85::.row v88 3 1 l90.length cs89::.row v92 4 1 l94.length cs93::rsF)∧Mq μx es80 c81 l82∧Rw μx cs85 l86∧Rw μx cs89 l90∧Rw μx cs93 l94) (by rintro _ _ _ ⟨_,_,_,_,_,_,_,_,_,_,_,_,_,_,_,rfl,_⟩; rfl) _ _ (aK4 (aI (aO1 (aK3 (aO10 (aO4 aZ)))))) ⟨_,i51,err_35,at_18,es20,c21,todo_23,v24,cs25,stac_27,v28,cs29,has_31,v32,cs33,rfl,h,Le.r,hS,m22,m26,m30,m34⟩ ?_
 rintro n_1 _ t w1 ⟨μ1,i78,i79,l82,es80,c81,l86,v84,cs85,l90,v88,cs89,l94,v92,cs93,rfl,h,le121,hS,m122,m123,m124,m125⟩
 cases n_1 with
 | zero=>cases h
 | succ n_1 =>
 unfold vf_want_l1 at h
 refine cnrm (mK4 (mi (mO1 (mK3 (mO10 (mO4 mz)))))) (cseq (nz ?_))
 iterate 2 refine st ?_
 refine nw ?_
 refine cifd (et (k10 d0)) (fun h126=>?_) (fun h126=>?_)
 ·replace h:=iT h126 h
  refine cskip (xn (cseq (cblock (nz (st ?_)))))
  obtain ⟨r127,g128,h⟩:=bI h
  replace hS:=((((hS.bg Y4).bg Y4).bg Y4).bg Y4).bg Y4
  refine ca (vf_pop_w (hg.t le121) (m6.up le121) (m7.up le121) (m13.up le121) (m16.up le121) (m17.up le121) m122 m123 m124 m125 g128 hS) ?_
  rintro _ w2 ⟨μ2,es130,c131,v133,cs134,v136,cs137,v139,cs140,rfl,le129,hS,m132,m135,m138,m141⟩
  refine po (st (nx ?_))
  iterate 3 refine st ?_
  obtain ⟨x142,g143,h⟩:=bI h
  obtain ⟨b144,o145,cs146,e147,f148,m149⟩:=SlR.elem (m38.up (le121.t le129)) g143
  obtain rfl:=m149
  refine wl (su (u_iax underlying27 ti3 (et (k10 d6)) (et (k10 d7)) e147) (dt (q10 p8)) (ld ((f148 _ hS.a).one d0) (st (nw ?_))))
  refine cifd (et (k20 d0)) (xT h) fun h150=>?_
  replace h:=iF h150 h
  refine cskip ?_
  refine (fun h=>bn (xn h)) ?_
  refine creg (st ?_)
  obtain ⟨i151,g152,h⟩:=bI h
  refine wl (su (u_subc (et (k10 d1)) ec g152) (dt (q10 p2)) (st (wnil (xl ?_))))
  exact ⟨n_1,_,_,rfl,(aK4 (aI (aO1 (aK3 (aO10 (aO4 aZ)))))),⟨_,i151,r127.2.2.2.2.2,r127.2.1,es130,c131,r127.2.2.1,v133,cs134,r127.2.2.2.1,v136,cs137,r127.2.2.2.2.1,v139,cs140,rfl,h,(le121.t le129),hS,m132,m135,m138,m141⟩,Nat.lt_succ_self _⟩
 ·replace h:=iF h126 h
  refine cexit ?_
  refine (fun h=>xe (xe (bh h))) ?_
  obtain rfl:=oI h
  refine end0 rfl ?_
  exact ⟨_,es80,_,_,_,_,_,_,_,rfl,le121,hS,m122,m123,m124,m125⟩
theorem vf_to_w (hg:Le Gm μ0) {chec_2:TVc} {u_8:TUnit} {at_18:List (Int×TVs)} {todo_23 stac_27:List Int} {has_31:List Bool} {err_35 p_2:Int} {r:List (Int×TVs)×List Int×List Int×List Bool×Int} (m6:Np μ0 v5 chec_2.m) (m7:At μ0 b3 o4 [v5]) (m13:Sl μ0 a11 c12 u_8.Locals) (m16:Sl μ0 a14 c15 u_8.Code) (m17:At μ0 b9 o10 [.int .i64 u_8.Kind,.int .i64 u_8.Params,.slice a11 u_8.Locals.length c12,.int .i64 u_8.Result,.int .i64 u_8.Takes,.slice a14 u_8.Code.length c15]) (m22:Mq μ0 es20 c21 at_18) (m26:Rw μ0 cs25 todo_23) (m30:Rw μ0 cs29 stac_27) (m34:Rw μ0 cs33 has_31) (h:vf_to chec_2 u_8 at_18 todo_23 stac_27 has_31 err_35 p_2=some r) (hS:Sq μ0 w0 w (.blk b1 173 [.pointer (some ⟨b3,o4,none⟩),.pointer (some ⟨b9,o10,none⟩),.map (some b19),v24,v28,v32,.int .i64 err_35]::.map b19 es20 c21::.row v24 3 1 todo_23.length cs25::.row v28 3 1 stac_27.length cs29::.row v32 4 1 has_31.length cs33::rsF)):CallsV prog 78 [.pointer (some ⟨b1,0,none⟩),.int .i64 p_2] w (fun v w'=>∃ (μ':M) (es36:List MapEntry) (c37:Nat) (v39:Value) (cs40:List Value) (v42:Value) (cs43:List Value) (v45:Value) (cs46:List Value),v=.tuple ⟨[]⟩∧Le μ0 μ'∧Sq μ' w0 w' (.blk b1 173 [.pointer (some ⟨b3,o4,none⟩),.pointer (some ⟨b9,o10,none⟩),.map (some b19),v39,v42,v45,.int .i64 r.2.2.2.2]::.map b19 es36 c37::.row v39 3 1 r.2.1.length cs40::.row v42 3 1 r.2.2.1.length cs43::.row v45 4 1 r.2.2.2.1.length cs46::rsF)∧Mq μ' es36 c37 r.1∧Rw μ' cs40 r.2.1∧Rw μ' cs43 r.2.2.1∧Rw μ' cs46 r.2.2.2.1):=by
 unfold vf_to at h
 refine enter func78 rfl (frm:=_::_::u1 (u2 (u50 (u50 [])))) rfl (cseq (nz ?_))
 iterate 3 refine st ?_
 refine ld ((hS.blk d0).cell d6) (st (nw ?_))
 refine cifd (et (k10 d2)) (xT h) fun h48=>?_
 replace h:=iF h48 h
 refine cskip (xn (cseq (nz ?_)))
 iterate 4 refine st ?_
 refine ld ((hS.blk d0).cell d1) ?_
 iterate 2 refine st ?_
 refine ld ((m17 _ hS.a).one d5) (wl (su (u_lensl underlying101 (et (k20 d0))) (dt (q20 p1)) (st (nw ?_))))
 refine cifd (et (k20 d2)) (xT h) fun h49=>?_
 replace h:=iF h49 h
 refine cskip (xn (nz ?_))
 iterate 3 refine st ?_
 refine ld ((hS.blk d0).cell d2) (st ?_)
 refine wl (s_mget2 (κ:=Int) (k:=p_2) (β:=TVs) (zx:=(TVs.mk ([]:List Int) ([]:List Bool))) underlying168 underlying3 (et (k20 d9)) (et (k30 d0)) zv171 ⟨_,rfl,(TVs.i ⟨none,0,none,0,rfl,Sl.nil,Sl.nil⟩)⟩ (hS.get d1) m22 ?_); rintro _ ⟨_,rfl,⟨a54,c55,a57,c58,rfl,m56,m59⟩⟩; refine po ?_
 iterate 3 refine st ?_
 refine wl (s_alloc ti171 hS ?_); clear hS; intro b60 w1 hb61 hS; refine po ?_
 refine wl (s_storeA ti171 (et d4) (et (k30 d2)) rfl rfl hS d0 rfl p0 dn ?_)
 clear hS; intro w2 hS
 refine st (ny (nz ?_))
 iterate 2 refine st ?_
 refine nw ?_
 refine cifnb (et (k30 d5)) (fun h62=>?_) (fun h62=>?_)
 ·replace h:=iF h62 h
  refine cseq ?_
  refine ccutE (rg 36 10) (by decide) (fun m w=>∃ μx l65 es63 c64,m=(yK20 (yK10 (yK6 (yO10 36 []))))∧vf_to_j1 p_2 todo_23 stac_27 has_31 err_35 l65=some r∧Le μ0 μx∧Sq μx w0 w (.blk b1 173 [.pointer (some ⟨b3,o4,none⟩),.pointer (some ⟨b9,o10,none⟩),.map (some b19),v24,v28,v32,.int .i64 err_35]::.map b19 es63 c64::.row v24 3 1 todo_23.length cs25::.row v28 3 1 stac_27.length cs29::.row v32 4 1 has_31.length cs33::rsF)∧Mq μx es63 c64 l65) (by rintro _ _ ⟨_,_,_,_,rfl,_⟩; rfl) ?_ ?_
  ·refine cdw hS ?_; clear hS; intro w3 hS
   refine sf_start (fpi 0 [0,1,2,3,10] rfl (fpi 1 [1,2,3,10] rfl (fpi 2 [2,3,10] rfl (fr_ 3 [3,10] rfl (u_load ti168 (et (k30 d8)) ((hS.blk d1).cell d2)) (q30 p9) (fpi 4 [4,10] rfl (fpi 5 [5,6,7,8,9,10] rfl (fpi 6 [6,7,8,9,10] rfl (fpi 7 [7,8,9,10] rfl (fr_ 8 [8,9,10] rfl (u_loads ti171 (et (k40 d3)) ((hS.blk d1).cellsAt (Sb.s d4 (Sb.s d5 Sb.z))) rfl) (q40 p4) ?_)))))))))
   obtain ⟨r67,g68,h⟩:=bI h
   replace hS:=(hS.bg Y5).bg Y5
   refine sf1 rfl rfl rfl rfl (wn0 rfl) (s_callv isfn79 ef (e1 (et (k40 d4)) e0) (vf_copiedr_w (p_1:=(TVs.mk stac_27 has_31)) hg m30 m34 g68 hS) ?_)
   rintro _ w4 ⟨μ1,v70,cs71,v73,cs74,rfl,le69,hS,m72,m75⟩
   refine po ?_
   refine ⟨(Mons.s (u_load ti168 (et (k30 d8)) ((hS.blk d5).cell d2)) Mons.z),?_⟩
   obtain ⟨μ2,a76,c77,e80,le79,m78,hq_⟩:=Sep.frzRow hS m72 rfl; clear hS
   subst e80; have hS:=hq_; clear hq_
   obtain ⟨μ3,a81,c82,e85,le84,m83,hq_⟩:=Sep.frzRow hS (m75.up le79) rfl; clear hS
   subst e85; have hS:=hq_; clear hq_
   refine sf1 rfl rfl rfl rfl (wn0 rfl) (s_mputM (κ:=Int) (β:=TVs) (kk:=p_2) (xx:=r67) underlying168 underlying3 (et (k30 d9)) (et (k40 d0)) (et (k40 d5)) ⟨_,rfl,(TVs.i ⟨a76,c77,a81,c82,rfl,(m78.up le84),m83⟩)⟩ hS d4 (m22.up (le69.t (le79.t le84))) dn ?_); clear hS; intro es86 c87 w5 rs_ m88 hp_ hS; cases (show _=rs_ from hp_)
   replace hS:=Sep.reput hS p4
   refine ⟨Mons.z,?_⟩
   refine sf_nil (xl ?_)
   replace hS:=(((((hS.drop (Rm.s (Rm.s Rm.z))).bg Y1).bg Y1).bg Y4).bg Y4).bg Y4
   exact ⟨_,_,rfl,(aK20 (aK10 (aK6 (aO10 aZ)))),_,(mput at_18 p_2 r67),es86,_,rfl,h,(le69.t (le79.t le84)),hS,m88⟩
  ·rintro _ t w6 ⟨μ4,l65,es63,c64,rfl,h,le89,hS,m90⟩
   unfold vf_to_j1 at h
   refine nrm (mK20 (mK10 (mK6 (mO10 mz)))) (xn (nz ?_))
   iterate 4 refine st ?_
   refine ld ((hS.blk d0).cell d3) (st ?_)
   refine wl (s_bsl underlying27 ti3 (Parts.s (et (k50 d1)) rfl Parts.z) rfl rfl hS ?_); clear hS; intro b91 w7 hb92 hS; refine po ?_
   obtain ⟨l95,g96,h⟩:=bI h
   have m97:Rw μ4 [.int .i64 p_2] [p_2]:=(Rw.one (α:=Int) rfl)
   have m94:=Rw.app (m26.up le89) m97 g96
   refine wl (s_app1 underlying27 ti3 rfl (et (k50 d0)) (et (k50 d2)) hS d3 (hS.blk d0).cells m97 rfl g96 (by decide) ?_); clear hS; intro v93 w8 rs_ hp_ hS; cases (show _=rs_ from hp_)
   replace hS:=Sep.reput hS p3; refine po ?_
   replace hS:=hS.drop Rm.z
   iterate 2 refine st ?_
   refine wl (s_store1 ti27 (et (k50 d5)) (et (k50 d3)) (hS.get d2).cellV hS d0 p3 rfl p0 dn ?_)
   clear hS; intro w9 hS
   refine nw (cret (xr ?_))
   obtain rfl:=oI h
   refine ret0 rfl ?_
   exact ⟨_,es63,_,_,((cs25++[.int .i64 p_2]):List Value),_,_,_,_,rfl,le89,hS,m90,m94,(m30.up le89),(m34.up le89)⟩
 ·replace h:=iT h62 h
  refine cskip (xn (cseq (cseq ?_)))
  refine cdw hS ?_; clear hS; intro w10 hS
  refine sf_start (fpi 0 [0,1,7,8] rfl (fr_ 1 [1,7,8] rfl (u_load ti27 (et (k50 d6)) ((hS.blk d0).cell d0)) (q50 p7) (fpi 2 [2,3,4,5,6,7,8] rfl (fpi 3 [3,4,5,6,7,8] rfl (fpi 4 [4,5,6,7,8] rfl (fpi 5 [5,6,7,8] rfl (fr_ 6 [6,7,8] rfl (u_load ti27 (et (k60 d1)) ((hS.blk d1).cell d4)) (q60 p2) ?_)))))))
  obtain ⟨r98,g99,h⟩:=bI h
  replace hS:=hS.bg Y4
  refine sf1 rfl rfl rfl rfl (wn0 rfl) (s_callv isfn115 ef (e1 (et (k50 d7)) (e1 (et (k60 d2)) e0)) (sl_equal_w hg m56 m30 g99 hS) ?_)
  rintro _ w11 ⟨μ5,rfl,le100,hS⟩
  refine po ?_
  refine ⟨Mons.z,?_⟩
  refine fpi 8 [8] rfl (sf_nil (xn ?_))
  refine cifnb (et (k60 d4)) (xF h) fun h101=>?_
  replace h:=iT h101 h
  refine cskip (xn (nz (st (ny (nz (st (ld ((hS.blk d1).cell d1) (wl (su (u_lensl underlying169 (et (k60 d8))) (dt (q60 p9)) (st (nw (cblock ?_))))))))))))
  replace hS:=(((((hS.bg Y1).bg Y5).bg Y2).bg Y5).bg Y5).bg Y5
  refine cloopE ([7]++rg 71 23) (by decide +kernel) (fun n m w=>∃ μx i128,m=(yK6 (.i (.bool false)::(yO1 7 (yK50 (yK10 (yK2 (.i (.int .i64 i128)::(yO20 71 (yO3 91 [])))))))))∧vf_to_l1 p_2 at_18 todo_23 stac_27 has_31 err_35 n i128=some r∧Le μ5 μx∧Sq μx w0 w (.blk b1 173 [.pointer (some ⟨b3,o4,none⟩),.pointer (some ⟨b9,o10,none⟩),.map (some b19),v24,v28,v32,.int .i64 err_35]::.map b19 es20 c21::.row v24 3 1 todo_23.length cs25::.row v28 3 1 stac_27.length cs29::.row v32 4 1 has_31.length cs33::.blk b60 171 [.slice a54 (((mget at_18 p_2).getD (TVs.mk ([]:List Int) ([]:List Bool))).stack).length c55,.slice a57 (((mget at_18 p_2).getD (TVs.mk ([]:List Int) ([]:List Bool))).has).length c58]::rsF)) (by rintro _ _ _ ⟨_,_,rfl,_⟩; rfl) _ _ (aK6 (aI (aO1 (aK50 (aK10 (aK2 (aI (aO20 (aO3 aZ))))))))) ⟨_,0,rfl,h,Le.r,hS⟩ ?_
  rintro n_1 _ t w12 ⟨μ6,i128,rfl,h,le155,hS⟩
  cases n_1 with
  | zero=>cases h
  | succ n_1 =>
  unfold vf_to_l1 at h
  refine cnrm (mK6 (mi (mO1 (mK50 (mK10 (mK2 (mi (mO20 (mO3 mz))))))))) (nz (st (ny ?_)))
  refine cifd (et (k70 d1)) (fun h156=>?_) (fun h156=>?_)
  ·replace h:=iT h156 h
   refine cskip (xn (cseq (cblock (nz ?_))))
   iterate 2 refine st ?_
   refine ny ?_
   refine ccutE (rg 73 15) (by decide) (fun m w=>∃ μx b157,m=(yK50 (yK20 (yK3 (yO10 73 (yO5 83 (.i (.bool b157)::[]))))))∧vf_to_j2 i128 (vf_to_l1 p_2 at_18 todo_23 stac_27 has_31 err_35 n_1) b157=some r∧Le μ6 μx∧Sq μx w0 w (.blk b1 173 [.pointer (some ⟨b3,o4,none⟩),.pointer (some ⟨b9,o10,none⟩),.map (some b19),v24,v28,v32,.int .i64 err_35]::.map b19 es20 c21::.row v24 3 1 todo_23.length cs25::.row v28 3 1 stac_27.length cs29::.row v32 4 1 has_31.length cs33::.blk b60 171 [.slice a54 (((mget at_18 p_2).getD (TVs.mk ([]:List Int) ([]:List Bool))).stack).length c55,.slice a57 (((mget at_18 p_2).getD (TVs.mk ([]:List Int) ([]:List Bool))).has).length c58]::rsF)) (by rintro _ _ ⟨_,_,rfl,_⟩; rfl) ?_ ?_
   ·refine creg (st (ld ((hS.blk d5).cell d1) (st ?_)))
    obtain ⟨x158,g159,h⟩:=bI h
    obtain ⟨b160,o161,cs162,e163,f164,m165⟩:=SlR.elem (m59.up (le100.t le155)) g159
    obtain rfl:=m165
    refine wl (su (u_iax underlying169 ti4 (et (k70 d4)) (et (k70 d5)) e163) (dt (q70 p6)) (ld ((f164 _ hS.a).one d0) (st ?_)))
    refine wspb (k70 d8) (q70 p8) (q70 p8) (fun h166=>?_) (fun h166=>?_)
    ·replace h:=iT h166 h
     refine sy rfl (sy rfl (sy rfl (sy rfl (wy rfl (k70 d8) (s_load ti169 (et (k80 d2)) ((hS.blk d0).cell d5) (dt (q80 p3)) (sy rfl ?_))))))
     obtain ⟨x167,g168,h⟩:=bI h
     obtain ⟨b169,o170,pc171,cs172,sc173,ec174,e175,f176,m177,pn178,st179,m180⟩:=Row.elemS (α:=Bool) (hS.get d4) (m34.up (le100.t le155)) rfl g168
     rw [ec174] at hS
     obtain rfl:=m177
     refine wy rfl (k70 d8) (su (u_iax underlying169 ti4 (et (k80 d3)) (et (k80 d4)) e175) (dt (q80 p5)) (wy rfl (k70 d8) (s_load ti4 (et (k80 d5)) ((f176 _ _ _ (hS.get d4) rfl).one d0) (dt (q80 p6)) (sy rfl (st (wnil (xl ?_)))))))
     rw [← ec174] at hS
     exact ⟨_,_,rfl,(aK50 (aK20 (aK3 (aO10 (aO5 (aI aZ)))))),_,(!x167),rfl,h,Le.r,hS⟩
    ·replace h:=iF h166 h
     refine sn rfl rfl (sn rfl rfl (sn rfl rfl (sn rfl rfl (sn rfl rfl (sn rfl rfl (sn rfl rfl (sn rfl rfl (sn rfl rfl (st (wnil (xl ?_)))))))))))
     exact ⟨_,_,rfl,(aK50 (aK20 (aK3 (aO10 (aO5 (aI aZ)))))),_,false,rfl,h,Le.r,hS⟩
   ·rintro _ t w13 ⟨μ7,b157,rfl,h,le181,hS⟩
    unfold vf_to_j2 at h
    refine nrm (mK50 (mK20 (mK3 (mO10 (mO5 (mi mz)))))) (xn ?_)
    refine cifb (et (k80 d8)) (xT h) fun h182=>?_
    replace h:=iF h182 h
    refine cskip ?_
    refine (fun h=>bn (xn h)) ?_
    refine creg ?_
    obtain ⟨i183,g184,h⟩:=bI h
    refine wl (su (u_addc (et (k70 d0)) ec g184) (dt (q90 p3)) (st (wnil (xl ?_))))
    exact ⟨n_1,_,_,rfl,(aK6 (aI (aO1 (aK50 (aK10 (aK2 (aI (aO20 (aO3 aZ))))))))),⟨_,i183,rfl,h,(le155.t le181),hS⟩,Nat.lt_succ_self _⟩
  ·replace h:=iF h156 h
   refine cexit ?_
   refine (fun h=>xe (xe (bh h))) ?_
   refine xn (nz (st (nw (ciff (et (k90 d4)) (cskip ?_)))))
   obtain rfl:=oI h
   refine end0 rfl ?_
   replace hS:=hS.drop (Rm.s (Rm.s (Rm.s (Rm.s (Rm.s Rm.z)))))
   exact ⟨_,es20,_,_,_,_,_,_,_,rfl,(le100.t le155),hS,(m22.up (le100.t le155)),(m26.up (le100.t le155)),(m30.up (le100.t le155)),(m34.up (le100.t le155))⟩
theorem vf_args_w (hg:Le Gm μ0) {chec_2:TVc} {u_8:TUnit} {at_18:List (Int×TVs)} {todo_23 stac_27:List Int} {has_31:List Bool} {err_35 p_2:Int} {r:TUnit×List (Int×TVs)×List Int×List Int×List Bool×Int} (m6:Np μ0 v5 chec_2.m) (m7:At μ0 b3 o4 [v5]) (m13:Sl μ0 a11 c12 u_8.Locals) (m16:Sl μ0 a14 c15 u_8.Code) (m17:At μ0 b9 o10 [.int .i64 u_8.Kind,.int .i64 u_8.Params,.slice a11 u_8.Locals.length c12,.int .i64 u_8.Result,.int .i64 u_8.Takes,.slice a14 u_8.Code.length c15]) (m22:Mq μ0 es20 c21 at_18) (m26:Rw μ0 cs25 todo_23) (m30:Rw μ0 cs29 stac_27) (m34:Rw μ0 cs33 has_31) (h:vf_args fu chec_2 u_8 at_18 todo_23 stac_27 has_31 err_35 p_2=some r) (hS:Sq μ0 w0 w (.blk b1 173 [.pointer (some ⟨b3,o4,none⟩),.pointer (some ⟨b9,o10,none⟩),.map (some b19),v24,v28,v32,.int .i64 err_35]::.map b19 es20 c21::.row v24 3 1 todo_23.length cs25::.row v28 3 1 stac_27.length cs29::.row v32 4 1 has_31.length cs33::rsF)):CallsV prog 145 [.pointer (some ⟨b1,0,none⟩),.int .i64 p_2] w (fun v w'=>∃ (μ':M) (b36:Nat) (o37:Nat) (a38:Option Addr) (c39:Nat) (a41:Option Addr) (c42:Nat) (es45:List MapEntry) (c46:Nat) (v48:Value) (cs49:List Value) (v51:Value) (cs52:List Value) (v54:Value) (cs55:List Value),v=.pointer (some ⟨b36,o37,none⟩)∧Le μ0 μ'∧Sq μ' w0 w' (.blk b1 173 [.pointer (some ⟨b3,o4,none⟩),.pointer (some ⟨b9,o10,none⟩),.map (some b19),v48,v51,v54,.int .i64 r.2.2.2.2.2]::.map b19 es45 c46::.row v48 3 1 r.2.2.1.length cs49::.row v51 3 1 r.2.2.2.1.length cs52::.row v54 4 1 r.2.2.2.2.1.length cs55::rsF)∧Sl μ' a38 c39 r.1.Locals∧Sl μ' a41 c42 r.1.Code∧At μ' b36 o37 [.int .i64 r.1.Kind,.int .i64 r.1.Params,.slice a38 r.1.Locals.length c39,.int .i64 r.1.Result,.int .i64 r.1.Takes,.slice a41 r.1.Code.length c42]∧Mq μ' es45 c46 r.2.1∧Rw μ' cs49 r.2.2.1∧Rw μ' cs52 r.2.2.2.1∧Rw μ' cs55 r.2.2.2.2.1):=by
 unfold vf_args at h
 refine enter func145 rfl (frm:=_::_::u1 (u2 (u5 (u20 [])))) rfl (nz (st (nx ?_)))
 iterate 3 refine st ?_
 refine ld ((hS.blk d0).cell d0) ?_
 iterate 2 refine st ?_
 refine ld ((m7 _ hS.a).one d0) ?_
 obtain ⟨x57,g58,h⟩:=bI h
 obtain ⟨b59,o60,cs61,rfl,f62,m63⟩:=Np.get m6 g58
 obtain ⟨a64,c65,a67,c68,rfl,m66,m69⟩:=m63
 iterate 2 refine st ?_
 refine ld ((f62 _ hS.a).one d1) (st ?_)
 obtain ⟨x70,g71,h⟩:=bI h
 obtain ⟨b72,o73,cs74,e75,f76,m77⟩:=SlR.elem m69 g71
 obtain ⟨a78,c79,a81,c82,rfl,m80,m83⟩:=m77
 refine wl (su (u_iax underlying35 ti103 (et (k10 d5)) (et (k10 d6)) e75) (dt (q10 p7)) (st (ny ?_)))
 refine cdw hS ?_; clear hS; intro w1 hS
 refine cpi 0 rfl (cpi 1 rfl (cpi 2 rfl (cpi 3 rfl (cpi 5 rfl (cpi 6 rfl (cpi 7 rfl (cr 4 [4,9,10] rfl (u_load ti27 (et (k20 d1)) ((f76 _ hS.a).one d2)) (q20 p2) (cr 8 [8,9,10] rfl (u_load ti3 (et (k20 d5)) ((f76 _ hS.a).one d1)) (q20 p6) ?_))))))))
 obtain ⟨l84,g85,h⟩:=bI h
 obtain ⟨a86,c87,e88,m89⟩:=Sl.slc (i:=none) (j:=some x70.Params) m80 g85
 refine cp 9 rfl (u_slc underlying27 ti3 (et (k20 d2)) .n (.s (et (k20 d6))) e88) (q20 p7) ?_
 obtain ⟨r90,g91,h⟩:=bI h
 replace hS:=((((hS.bg Y4).bg Y4).bg Y4).bg Y4).bg Y4
 refine sc1 rfl rfl rfl (s_callv isfn119 ef (e1 (et (k10 d8)) (e1 (et (k20 d7)) e0)) (vf_want_w hg m6 m7 m13 m16 m17 m22 m26 m30 m34 m89 g91 hS) ?_)
 rintro _ w2 ⟨μ1,es93,c94,v96,cs97,v99,cs100,v102,cs103,rfl,le92,hS,m95,m98,m101,m104⟩
 refine po (nu (nz ?_))
 iterate 2 refine st ?_
 refine nw (cret ?_)
 obtain rfl:=oI h
 refine ret1 rfl d4 ?_
 exact ⟨_,_,_,_,_,_,_,es93,_,_,_,_,_,_,_,rfl,le92,hS,(m80.up le92),(m83.up le92),(f76.up le92),m95,m98,m101,m104⟩
theorem vf_done_w (hg:Le Gm μ0) {chec_2:TVc} {u_8:TUnit} {at_18:List (Int×TVs)} {todo_23 stac_27:List Int} {has_31:List Bool} {err_35:Int} {r:Bool×List (Int×TVs)×List Int×List Int×List Bool×Int} (m6:Np μ0 v5 chec_2.m) (m7:At μ0 b3 o4 [v5]) (m13:Sl μ0 a11 c12 u_8.Locals) (m16:Sl μ0 a14 c15 u_8.Code) (m17:At μ0 b9 o10 [.int .i64 u_8.Kind,.int .i64 u_8.Params,.slice a11 u_8.Locals.length c12,.int .i64 u_8.Result,.int .i64 u_8.Takes,.slice a14 u_8.Code.length c15]) (m22:Mq μ0 es20 c21 at_18) (m26:Rw μ0 cs25 todo_23) (m30:Rw μ0 cs29 stac_27) (m34:Rw μ0 cs33 has_31) (h:vf_done chec_2 u_8 at_18 todo_23 stac_27 has_31 err_35=some r) (hS:Sq μ0 w0 w (.blk b1 173 [.pointer (some ⟨b3,o4,none⟩),.pointer (some ⟨b9,o10,none⟩),.map (some b19),v24,v28,v32,.int .i64 err_35]::.map b19 es20 c21::.row v24 3 1 todo_23.length cs25::.row v28 3 1 stac_27.length cs29::.row v32 4 1 has_31.length cs33::rsF)):CallsV prog 146 [.pointer (some ⟨b1,0,none⟩)] w (fun v w'=>∃ (μ':M) (es36:List MapEntry) (c37:Nat) (v39:Value) (cs40:List Value) (v42:Value) (cs43:List Value) (v45:Value) (cs46:List Value),v=.bool r.1∧Le μ0 μ'∧Sq μ' w0 w' (.blk b1 173 [.pointer (some ⟨b3,o4,none⟩),.pointer (some ⟨b9,o10,none⟩),.map (some b19),v39,v42,v45,.int .i64 r.2.2.2.2.2]::.map b19 es36 c37::.row v39 3 1 r.2.2.1.length cs40::.row v42 3 1 r.2.2.2.1.length cs43::.row v45 4 1 r.2.2.2.2.1.length cs46::rsF)∧Mq μ' es36 c37 r.2.1∧Rw μ' cs40 r.2.2.1∧Rw μ' cs43 r.2.2.2.1∧Rw μ' cs46 r.2.2.2.2.1):=by
 unfold vf_done at h
 refine enter func146 rfl (frm:=_::u1 (u10 [])) rfl (nz (st (ny (nz ?_))))
 iterate 4 refine st ?_
 refine ld ((hS.blk d0).cell d4) (wl (su (u_lenv underlying27 (et d7) (hS.get d3).isSl) (dt p8) (st (nw ?_))))
 refine cifd (et d9) (xT h) fun h48=>?_
 replace h:=iF h48 h
 refine cskip (xn (nz (st (nw (cret ?_)))))
 obtain rfl:=oI h
 refine ret1 rfl d2 ?_
 exact ⟨_,es20,_,_,_,_,_,_,_,rfl,Le.r,hS,m22,m26,m30,m34⟩
theorem vf_special_w (hg:Le Gm μ0) {chec_2:TVc} {u_8:TUnit} {at_18:List (Int×TVs)} {todo_23 stac_27:List Int} {has_31:List Bool} {err_35:Int} {p_2:TInstr} {r:Bool×List (Int×TVs)×List Int×List Int×List Bool×Int} (m6:Np μ0 v5 chec_2.m) (m7:At μ0 b3 o4 [v5]) (m13:Sl μ0 a11 c12 u_8.Locals) (m16:Sl μ0 a14 c15 u_8.Code) (m17:At μ0 b9 o10 [.int .i64 u_8.Kind,.int .i64 u_8.Params,.slice a11 u_8.Locals.length c12,.int .i64 u_8.Result,.int .i64 u_8.Takes,.slice a14 u_8.Code.length c15]) (m22:Mq μ0 es20 c21 at_18) (m26:Rw μ0 cs25 todo_23) (m30:Rw μ0 cs29 stac_27) (m34:Rw μ0 cs33 has_31) (h:vf_special fu chec_2 u_8 at_18 todo_23 stac_27 has_31 err_35 p_2=some r) (hS:Sq μ0 w0 w (.blk b1 173 [.pointer (some ⟨b3,o4,none⟩),.pointer (some ⟨b9,o10,none⟩),.map (some b19),v24,v28,v32,.int .i64 err_35]::.map b19 es20 c21::.row v24 3 1 todo_23.length cs25::.row v28 3 1 stac_27.length cs29::.row v32 4 1 has_31.length cs33::rsF)):CallsV prog 121 [.pointer (some ⟨b1,0,none⟩),.agg ⟨[.int .i64 p_2.Op,.int .i64 p_2.A,.int .i64 p_2.N]⟩] w (fun v w'=>∃ (μ':M) (es36:List MapEntry) (c37:Nat) (v39:Value) (cs40:List Value) (v42:Value) (cs43:List Value) (v45:Value) (cs46:List Value),v=.bool r.1∧Le μ0 μ'∧Sq μ' w0 w' (.blk b1 173 [.pointer (some ⟨b3,o4,none⟩),.pointer (some ⟨b9,o10,none⟩),.map (some b19),v39,v42,v45,.int .i64 r.2.2.2.2.2]::.map b19 es36 c37::.row v39 3 1 r.2.2.1.length cs40::.row v42 3 1 r.2.2.2.1.length cs43::.row v45 4 1 r.2.2.2.2.1.length cs46::rsF)∧Mq μ' es36 c37 r.2.1∧Rw μ' cs40 r.2.2.1∧Rw μ' cs43 r.2.2.2.1∧Rw μ' cs46 r.2.2.2.2.1):=by
 unfold vf_special at h
 refine enter func121 rfl (frm:=_::_::u2 (u10 (u20 (u50 (u50 (u50 [])))))) rfl (nz ?_)
 refine wl (s_box (et d1) rfl hS ?_); clear hS; intro b48 w1 hb49 hS; refine po ?_
 refine st (ny (nz (st (ld ((hS.blk d0).cell d0) (nw ?_)))))
 refine ccutE (rg 4 4++rg 10 174) (by decide +kernel) (fun m w=>∃ μx i50 l53 es51 c52 l57 v55 cs56 l61 v59 cs60 l65 v63 cs64,m=(yK4 (yO4 4 (yK2 (yO50 10 (yO50 60 (yO50 110 (yO20 160 (yO4 180 []))))))))∧vf_special_j1 i50 l53 l57 l61 l65=some r∧Le μ0 μx∧Sq μx w0 w (.blk b1 173 [.pointer (some ⟨b3,o4,none⟩),.pointer (some ⟨b9,o10,none⟩),.map (some b19),v55,v59,v63,.int .i64 i50]::.map b19 es51 c52::.row v55 3 1 l57.length cs56::.row v59 3 1 l61.length cs60::.row v63 4 1 l65.length cs64::rsF)∧Mq μx es51 c52 l53∧Rw μx cs56 l57∧Rw μx cs60 l61∧Rw μx cs64 l65) (by rintro _ _ ⟨_,_,_,_,_,_,_,_,_,_,_,_,_,_,rfl,_⟩; rfl) ?_ ?_
 ·refine cblock (nz ?_)
  iterate 2 refine st ?_
  refine nw ?_
  refine cifd (et (k10 d0)) (fun h67=>?_) (fun h67=>?_)
  ·replace h:=iT h67 h
   refine creg ?_
   iterate 3 refine st ?_
   refine ld ((hS.blk d0).cell d1) ?_
   obtain ⟨r68,g69,h⟩:=bI h
   replace hS:=((((hS.bg Y5).bg Y5).bg Y5).bg Y5).bg Y5
   refine ca (vf_args_w hg m6 m7 m13 m16 m17 m22 m26 m30 m34 g69 hS) ?_
   rintro _ w2 ⟨μ1,b71,o72,a73,c74,a76,c77,es80,c81,v83,cs84,v86,cs87,v89,cs90,rfl,le70,hS,m75,m78,m79,m82,m85,m88,m91⟩
   refine po ?_
   iterate 2 refine st ?_
   refine ld ((m79 _ hS.a).one d3) ?_
   obtain ⟨r92,g93,h⟩:=bI h
   replace hS:=((((hS.bg Y4).bg Y4).bg Y4).bg Y4).bg Y4
   refine ca (vf_push_w (hg.t le70) (m6.up le70) (m7.up le70) (m13.up le70) (m16.up le70) (m17.up le70) m82 m85 m88 m91 g93 hS) ?_
   rintro _ w3 ⟨μ2,es95,c96,v98,cs99,v101,cs102,v104,cs105,rfl,le94,hS,m97,m100,m103,m106⟩
   refine po (wnil ?_)
   refine (fun h=>bn (xl h)) ?_
   replace hS:=hS.drop (Rm.s (Rm.s (Rm.s (Rm.s (Rm.s Rm.z)))))
   exact ⟨_,_,rfl,(aK4 (aO4 (aK2 (aO50 (aO50 (aO50 (aO20 (aO4 aZ)))))))),_,r92.2.2.2.2,r92.1,es95,_,r92.2.1,_,_,r92.2.2.1,_,_,r92.2.2.2.1,_,_,rfl,h,(le70.t le94),hS,m97,m100,m103,m106⟩
  ·replace h:=iF h67 h
   refine nz ?_
   iterate 2 refine st ?_
   refine nw ?_
   refine cifd (et (k20 d1)) (xT h) fun h107=>?_
   replace h:=iF h107 h
   refine nz ?_
   iterate 2 refine st ?_
   refine nw ?_
   refine cifd (et (k30 d2)) (fun h108=>?_) (fun h108=>?_)
   ·replace h:=iT h108 h
    refine cseq (nz ?_)
    iterate 3 refine st ?_
    refine ld ((hS.blk d1).cell d1) ?_
    iterate 2 refine st ?_
    refine ld ((m17 _ hS.a).one d0) (st (nw ?_))
    refine cifd (et (k40 d1)) (xT h) fun h109=>?_
    replace h:=iF h109 h
    refine cskip (xn (nz ?_))
    iterate 4 refine st ?_
    refine ld ((hS.blk d1).cell d1) ?_
    iterate 2 refine st ?_
    refine ld ((m17 _ hS.a).one d3) ?_
    refine wl (s_bsl underlying27 ti3 (Parts.s (et (k50 d1)) rfl Parts.z) rfl rfl hS ?_); clear hS; intro b110 w4 hb111 hS; refine po ?_
    obtain ⟨μ3,le113,m112,hS⟩:=Sep.frzBlk (l:=([u_8.Result]:List Int)) hS (Rw.one (α:=Int) rfl) (Nat.le_of_ble_eq_true rfl)
    obtain ⟨r114,g115,h⟩:=bI h
    replace hS:=((((hS.bg Y5).bg Y5).bg Y5).bg Y5).bg Y5
    refine ca (vf_want_w (hg.t le113) (m6.up le113) (m7.up le113) (m13.up le113) (m16.up le113) (m17.up le113) (m22.up le113) (m26.up le113) (m30.up le113) (m34.up le113) m112 g115 hS) ?_
    rintro _ w5 ⟨μ4,es117,c118,v120,cs121,v123,cs124,v126,cs127,rfl,le116,hS,m119,m122,m125,m128⟩
    refine po (nx (st ?_))
    obtain ⟨r129,g130,h⟩:=bI h
    replace hS:=((((hS.bg Y4).bg Y4).bg Y4).bg Y4).bg Y4
    refine ca (vf_done_w (hg.t (le113.t le116)) (m6.up (le113.t le116)) (m7.up (le113.t le116)) (m13.up (le113.t le116)) (m16.up (le113.t le116)) (m17.up (le113.t le116)) m119 m122 m125 m128 g130 hS) ?_
    rintro _ w6 ⟨μ5,es132,c133,v135,cs136,v138,cs139,v141,cs142,rfl,le131,hS,m134,m137,m140,m143⟩
    refine po (st (nw (cret ?_)))
    refine (fun h=>br (xr (xr h))) ?_
    obtain rfl:=oI h
    refine ret1 rfl d4 ?_
    replace hS:=hS.drop (Rm.s (Rm.s (Rm.s (Rm.s (Rm.s Rm.z)))))
    exact ⟨_,es132,_,_,_,_,_,_,_,rfl,(le113.t (le116.t le131)),hS,m134,m137,m140,m143⟩
   ·replace h:=iF h108 h
    refine nz ?_
    iterate 2 refine st ?_
    refine nw ?_
    refine cifd (et (k50 d6)) (fun h144=>?_) (fun h144=>?_)
    ·replace h:=iT h144 h
     refine cseq (nz ?_)
     iterate 3 refine st ?_
     refine ld ((hS.blk d1).cell d1) ?_
     iterate 2 refine st ?_
     refine ld ((m17 _ hS.a).one d0) (st (nw ?_))
     refine cifd (et (k60 d5)) (xT h) fun h145=>?_
     replace h:=iF h145 h
     refine cskip (xn (nz (st ?_)))
     obtain ⟨r146,g147,h⟩:=bI h
     replace hS:=((((hS.bg Y5).bg Y5).bg Y5).bg Y5).bg Y5
     refine ca (vf_done_w hg m6 m7 m13 m16 m17 m22 m26 m30 m34 g147 hS) ?_
     rintro _ w7 ⟨μ6,es149,c150,v152,cs153,v155,cs156,v158,cs159,rfl,le148,hS,m151,m154,m157,m160⟩
     refine po (st (nw (cret ?_)))
     refine (fun h=>br (xr (xr h))) ?_
     obtain rfl:=oI h
     refine ret1 rfl d4 ?_
     replace hS:=hS.drop (Rm.s (Rm.s (Rm.s (Rm.s (Rm.s Rm.z)))))
     exact ⟨_,es149,_,_,_,_,_,_,_,rfl,le148,hS,m151,m154,m157,m160⟩
    ·replace h:=iF h144 h
     refine nz ?_
     iterate 2 refine st ?_
     refine nw ?_
     refine cifd (et (k70 d0)) (xT h) fun h161=>?_
     replace h:=iF h161 h
     refine nz ?_
     iterate 2 refine st ?_
     refine nw ?_
     refine cifd (et (k90 d0)) (fun h162=>?_) (fun h162=>?_)
     ·replace h:=iT h162 h
      refine cdw hS ?_; clear hS; intro w8 hS
      refine sf_start (fpi 0 [0,16] rfl (fpi 1 [1,2,3,4,5,6,7,8,9,10,13,14,15,16] rfl (fpi 2 [2,3,4,5,6,7,8,9,10,13,14,15,16] rfl (fpi 3 [3,4,5,6,7,8,9,10,13,14,15,16] rfl (fr_ 4 [4,5,6,7,8,9,10,13,14,15,16] rfl (u_load ti105 (et (k90 d5)) ((hS.blk d1).cell d0)) (q90 p6) (fpi 5 [5,6,7,8,9,10,13,14,15,16] rfl (fpi 6 [6,7,8,9,10,13,14,15,16] rfl (fr_ 7 [7,8,9,10,13,14,15,16] rfl (u_load ti54 (et (k90 d8)) ((m7 _ hS.a).one d0)) (q90 p9) ?_))))))))
      obtain ⟨x163,g164,h⟩:=bI h
      obtain ⟨b165,o166,cs167,rfl,f168,m169⟩:=Np.get m6 g164
      obtain ⟨a170,c171,a173,c174,rfl,m172,m175⟩:=m169
      refine fpi 8 [8,9,10,13,14,15,16] rfl (fpi 9 [9,10,13,14,15,16] rfl (fr_ 10 [10,13,14,15,16] rfl (u_load ti34 (et (k100 d1)) ((f168 _ hS.a).one d0)) (q100 p2) (fpi 11 [11,12,13,14,15,16] rfl (fr_ 12 [12,13,14,15,16] rfl (u_load ti3 (et (k100 d3)) ((hS.blk d0).cell d1)) (q100 p4) ?_))))
      obtain ⟨x176,g177,h⟩:=bI h
      obtain ⟨b178,o179,cs180,e181,f182,m183⟩:=SlR.elem m172 g177
      obtain rfl:=m183
      refine fp 13 [13,14,15,16] rfl (u_iax underlying34 ti56 (et (k100 d2)) (et (k100 d4)) e181) (q100 p5) (fpi 14 [14,15,16] rfl (fr_ 15 [15,16] rfl (u_load ti3 (et (k100 d6)) ((f182 _ hS.a).one d0)) (q100 p7) ?_))
      obtain ⟨r184,g185,h⟩:=bI h
      replace hS:=((((hS.bg Y5).bg Y5).bg Y5).bg Y5).bg Y5
      refine sf1 rfl rfl rfl rfl (wn0 rfl) (s_callv isfn118 ef (e1 (et (k90 d2)) (e1 (et (k100 d7)) e0)) (vf_push_w hg m6 m7 m13 m16 m17 m22 m26 m30 m34 g185 hS) ?_)
      rintro _ w9 ⟨μ7,es187,c188,v190,cs191,v193,cs194,v196,cs197,rfl,le186,hS,m189,m192,m195,m198⟩
      refine po ?_
      refine ⟨Mons.z,?_⟩
      refine sf_nil ?_
      refine (fun h=>bn (xl h)) ?_
      replace hS:=hS.drop (Rm.s (Rm.s (Rm.s (Rm.s (Rm.s Rm.z)))))
      exact ⟨_,_,rfl,(aK4 (aO4 (aK2 (aO50 (aO50 (aO50 (aO20 (aO4 aZ)))))))),_,r184.2.2.2.2,r184.1,es187,_,r184.2.1,_,_,r184.2.2.1,_,_,r184.2.2.2.1,_,_,rfl,h,le186,hS,m189,m192,m195,m198⟩
     ·replace h:=iF h162 h
      refine nz ?_
      iterate 2 refine st ?_
      refine nw ?_
      refine cifd (et (k100 d9)) (fun h199=>?_) (xF h)
      replace h:=iT h199 h
      refine nz (st ?_)
      obtain ⟨r200,g201,h⟩:=bI h
      replace hS:=((((hS.bg Y5).bg Y5).bg Y5).bg Y5).bg Y5
      refine ca (vf_pop_w hg m6 m7 m13 m16 m17 m22 m26 m30 m34 g201 hS) ?_
      rintro _ w10 ⟨μ8,es203,c204,v206,cs207,v209,cs210,v212,cs213,rfl,le202,hS,m205,m208,m211,m214⟩
      refine po (st (nx ?_))
      iterate 3 refine st ?_
      refine ld ((hS.blk d0).cell d6) ?_
      iterate 2 refine st ?_
      refine wspd (k100 (k10 d8)) (q100 (q10 p8)) (q100 (q10 p8)) (fun h215=>?_) (xF h)
      replace h:=iT h215 h
      refine sy rfl ?_
      obtain ⟨r216,g217,h⟩:=bI h
      refine wy rfl (k100 (k10 d8)) (s_callv isfn75 ef (e1 (et (k100 (k10 d9))) e0) (vf_plain_w (hg.t le202) g217 hS) ?_)
      rintro _ w11 ⟨μ9,rfl,le218,hS⟩
      refine po (sy rfl (st (nw ?_)))
      refine cifnb (et (k100 (k20 d2))) (xF h) fun h219=>?_
      replace h:=iT h219 h
      refine cskip ?_
      refine (fun h=>bn (xl h)) ?_
      replace hS:=hS.drop (Rm.s (Rm.s (Rm.s (Rm.s (Rm.s Rm.z)))))
      exact ⟨_,_,rfl,(aK4 (aO4 (aK2 (aO50 (aO50 (aO50 (aO20 (aO4 aZ)))))))),_,r200.2.2.2.2.2,r200.2.1,es203,_,r200.2.2.1,_,_,r200.2.2.2.1,_,_,r200.2.2.2.2.1,_,_,rfl,h,(le202.t le218),hS,(m205.up le218),(m208.up le218),(m211.up le218),(m214.up le218)⟩
 ·rintro _ t w12 ⟨μ10,i50,l53,es51,c52,l57,v55,cs56,l61,v59,cs60,l65,v63,cs64,rfl,h,le220,hS,m221,m222,m223,m224⟩
  unfold vf_special_j1 at h
  refine nrm (mK4 (mO4 (mK2 (mO50 (mO50 (mO50 (mO20 (mO4 mz)))))))) (xn (nz (st (nw (cret ?_)))))
  obtain rfl:=oI h
  refine ret1 rfl d4 ?_
  exact ⟨_,es51,_,_,_,_,_,_,_,rfl,le220,hS,m221,m222,m223,m224⟩
theorem vf_step_w (hg:Le Gm μ0) {chec_2:TVc} {u_8:TUnit} {at_18:List (Int×TVs)} {todo_23 stac_27:List Int} {has_31:List Bool} {err_35:Int} {p_2:TInstr} {r:Bool×List (Int×TVs)×List Int×List Int×List Bool×Int} (m6:Np μ0 v5 chec_2.m) (m7:At μ0 b3 o4 [v5]) (m13:Sl μ0 a11 c12 u_8.Locals) (m16:Sl μ0 a14 c15 u_8.Code) (m17:At μ0 b9 o10 [.int .i64 u_8.Kind,.int .i64 u_8.Params,.slice a11 u_8.Locals.length c12,.int .i64 u_8.Result,.int .i64 u_8.Takes,.slice a14 u_8.Code.length c15]) (m22:Mq μ0 es20 c21 at_18) (m26:Rw μ0 cs25 todo_23) (m30:Rw μ0 cs29 stac_27) (m34:Rw μ0 cs33 has_31) (h:vf_step fu chec_2 u_8 at_18 todo_23 stac_27 has_31 err_35 p_2=some r) (hS:Sq μ0 w0 w (.blk b1 173 [.pointer (some ⟨b3,o4,none⟩),.pointer (some ⟨b9,o10,none⟩),.map (some b19),v24,v28,v32,.int .i64 err_35]::.map b19 es20 c21::.row v24 3 1 todo_23.length cs25::.row v28 3 1 stac_27.length cs29::.row v32 4 1 has_31.length cs33::rsF)):CallsV prog 80 [.pointer (some ⟨b1,0,none⟩),.agg ⟨[.int .i64 p_2.Op,.int .i64 p_2.A,.int .i64 p_2.N]⟩] w (fun v w'=>∃ (μ':M) (es36:List MapEntry) (c37:Nat) (v39:Value) (cs40:List Value) (v42:Value) (cs43:List Value) (v45:Value) (cs46:List Value),v=.bool r.1∧Le μ0 μ'∧Sq μ' w0 w' (.blk b1 173 [.pointer (some ⟨b3,o4,none⟩),.pointer (some ⟨b9,o10,none⟩),.map (some b19),v39,v42,v45,.int .i64 r.2.2.2.2.2]::.map b19 es36 c37::.row v39 3 1 r.2.2.1.length cs40::.row v42 3 1 r.2.2.2.1.length cs43::.row v45 4 1 r.2.2.2.2.1.length cs46::rsF)∧Mq μ' es36 c37 r.2.1∧Rw μ' cs40 r.2.2.1∧Rw μ' cs43 r.2.2.2.1∧Rw μ' cs46 r.2.2.2.2.1):=by
 unfold vf_step at h
 refine enter func80 rfl (frm:=_::_::u1 (u20 (u20 (u50 (u50 (u50 [])))))) rfl (nz ?_)
 refine wl (s_box (et d1) rfl hS ?_); clear hS; intro b48 w1 hb49 hS; refine po ?_
 refine st (nx ?_)
 iterate 2 refine st ?_
 refine ny (nz (st (ld ((hS.blk d0).cell d0) (st (nw ?_)))))
 refine ccutE ([4]++[8]++rg 11 182) (by decide +kernel) (fun m w=>∃ μx i50 l53 es51 c52 l57 v55 cs56 l61 v59 cs60 l65 v63 cs64,m=(yK4 (yO1 4 (yK3 (yO1 8 (yK2 (yO50 11 (yO50 61 (yO50 111 (yO20 161 (yO10 181 (yO2 191 [])))))))))))∧vf_step_j1 i50 l53 l57 l61 l65=some r∧Le μ0 μx∧Sq μx w0 w (.blk b1 173 [.pointer (some ⟨b3,o4,none⟩),.pointer (some ⟨b9,o10,none⟩),.map (some b19),v55,v59,v63,.int .i64 i50]::.map b19 es51 c52::.row v55 3 1 l57.length cs56::.row v59 3 1 l61.length cs60::.row v63 4 1 l65.length cs64::rsF)∧Mq μx es51 c52 l53∧Rw μx cs56 l57∧Rw μx cs60 l61∧Rw μx cs64 l65) (by rintro _ _ ⟨_,_,_,_,_,_,_,_,_,_,_,_,_,_,rfl,_⟩; rfl) ?_ ?_
 ·refine cblock (nz ?_)
  iterate 3 refine st ?_
  refine nw ?_
  refine cifd (et (k10 d4)) (fun h67=>?_) (fun h67=>?_)
  ·replace h:=iT h67 h
   refine creg ?_
   iterate 2 refine st ?_
   obtain ⟨r68,g69,h⟩:=bI h
   replace hS:=((((hS.bg Y5).bg Y5).bg Y5).bg Y5).bg Y5
   refine ca (vf_push_w hg m6 m7 m13 m16 m17 m22 m26 m30 m34 g69 hS) ?_
   rintro _ w2 ⟨μ1,es71,c72,v74,cs75,v77,cs78,v80,cs81,rfl,le70,hS,m73,m76,m79,m82⟩
   refine po (wnil ?_)
   refine (fun h=>bn (xl h)) ?_
   replace hS:=hS.drop (Rm.s (Rm.s (Rm.s (Rm.s (Rm.s Rm.z)))))
   exact ⟨_,_,rfl,(aK4 (aO1 (aK3 (aO1 (aK2 (aO50 (aO50 (aO50 (aO20 (aO10 (aO2 aZ))))))))))),_,r68.2.2.2.2,r68.1,es71,_,r68.2.1,_,_,r68.2.2.1,_,_,r68.2.2.2.1,_,_,rfl,h,le70,hS,m73,m76,m79,m82⟩
  ·replace h:=iF h67 h
   refine nz ?_
   iterate 3 refine st ?_
   refine nw ?_
   refine cifd (et (k20 d0)) (fun h83=>?_) (fun h83=>?_)
   ·replace h:=iT h83 h
    refine creg ?_
    iterate 2 refine st ?_
    obtain ⟨r84,g85,h⟩:=bI h
    replace hS:=((((hS.bg Y5).bg Y5).bg Y5).bg Y5).bg Y5
    refine ca (vf_push_w hg m6 m7 m13 m16 m17 m22 m26 m30 m34 g85 hS) ?_
    rintro _ w3 ⟨μ2,es87,c88,v90,cs91,v93,cs94,v96,cs97,rfl,le86,hS,m89,m92,m95,m98⟩
    refine po (wnil ?_)
    refine (fun h=>bn (xl h)) ?_
    replace hS:=hS.drop (Rm.s (Rm.s (Rm.s (Rm.s (Rm.s Rm.z)))))
    exact ⟨_,_,rfl,(aK4 (aO1 (aK3 (aO1 (aK2 (aO50 (aO50 (aO50 (aO20 (aO10 (aO2 aZ))))))))))),_,r84.2.2.2.2,r84.1,es87,_,r84.2.1,_,_,r84.2.2.1,_,_,r84.2.2.2.1,_,_,rfl,h,le86,hS,m89,m92,m95,m98⟩
   ·replace h:=iF h83 h
    refine nz ?_
    iterate 3 refine st ?_
    refine nw ?_
    refine cifd (et (k20 d6)) (fun h99=>?_) (fun h99=>?_)
    ·replace h:=iT h99 h
     refine cseq (cseq ?_)
     refine cdw hS ?_; clear hS; intro w4 hS
     refine sf_start (fpi 0 [0,1,2,3,4,7,8,9] rfl (fpi 1 [1,2,3,4,7,8,9] rfl (fpi 2 [2,3,4,7,8,9] rfl (fpi 3 [3,4,7,8,9] rfl (fr_ 4 [4,7,8,9] rfl (u_load ti169 (et (k30 d2)) ((hS.blk d1).cell d5)) (q30 p3) (fpi 5 [5,6,7,8,9] rfl (fr_ 6 [6,7,8,9] rfl (u_load ti3 (et (k30 d4)) ((hS.blk d0).cell d1)) (q30 p5) ?_)))))))
     obtain ⟨x100,g101,h⟩:=bI h
     obtain ⟨b102,o103,pc104,cs105,sc106,ec107,e108,f109,m110,pn111,st112,m113⟩:=Row.elemS (α:=Bool) (hS.get d5) m34 rfl g101
     rw [ec107] at hS
     obtain rfl:=m110
     refine fp 7 [7,8,9] rfl (u_iax underlying169 ti4 (et (k30 d3)) (et (k30 d5)) e108) (q30 p6) (fr_ 8 [8,9] rfl (u_load ti4 (et (k30 d6)) ((f109 _ _ _ (hS.get d5) rfl).one d0)) (q30 p7) (fpi 9 [9] rfl (sf_nil (xn ?_))))
     refine cifnb (et (k30 d8)) (xF h) fun h114=>?_
     replace h:=iT h114 h
     refine cskip (xn ?_)
     refine cdw hS ?_; clear hS; intro w5 hS
     refine sf_start (fpi 0 [0,12] rfl (fpi 1 [1,2,3,4,5,6,7,10,11,12] rfl (fpi 2 [2,3,4,5,6,7,10,11,12] rfl (fpi 3 [3,4,5,6,7,10,11,12] rfl (fr_ 4 [4,5,6,7,10,11,12] rfl (u_load ti164 (et (k40 d4)) ((hS.blk d1).cell d1)) (q40 p5) (fpi 5 [5,6,7,10,11,12] rfl (fpi 6 [6,7,10,11,12] rfl (fr_ 7 [7,10,11,12] rfl (u_load ti27 (et (k40 d7)) ((m17 _ hS.a).one d2)) (q40 p8) (fpi 8 [8,9,10,11,12] rfl (fr_ 9 [9,10,11,12] rfl (u_load ti3 (et (k40 d9)) ((hS.blk d0).cell d1)) (q50 p0) ?_))))))))))
     obtain ⟨x115,g116,h⟩:=bI h
     obtain ⟨b117,o118,cs119,e120,f121,m122⟩:=SlR.elem m13 g116
     obtain rfl:=m122
     refine fp 10 [10,11,12] rfl (u_iax underlying27 ti3 (et (k40 d8)) (et (k50 d0)) e120) (q50 p1) (fr_ 11 [11,12] rfl (u_load ti3 (et (k50 d1)) ((f121 _ hS.a).one d0)) (q50 p2) ?_)
     obtain ⟨r123,g124,h⟩:=bI h
     replace hS:=((((hS.bg Y5).bg Y5).bg Y5).bg Y5).bg Y5
     refine sf1 rfl rfl rfl rfl (wn0 rfl) (s_callv isfn118 ef (e1 (et (k40 d1)) (e1 (et (k50 d2)) e0)) (vf_push_w hg m6 m7 m13 m16 m17 m22 m26 m30 m113 g124 hS) ?_)
     rintro _ w6 ⟨μ3,es126,c127,v129,cs130,v132,cs133,v135,cs136,rfl,le125,hS,m128,m131,m134,m137⟩
     refine po ?_
     refine ⟨Mons.z,?_⟩
     refine sf_nil ?_
     refine (fun h=>bn (xl h)) ?_
     replace hS:=hS.drop (Rm.s (Rm.s (Rm.s (Rm.s (Rm.s Rm.z)))))
     exact ⟨_,_,rfl,(aK4 (aO1 (aK3 (aO1 (aK2 (aO50 (aO50 (aO50 (aO20 (aO10 (aO2 aZ))))))))))),_,r123.2.2.2.2,r123.1,es126,_,r123.2.1,_,_,r123.2.2.1,_,_,r123.2.2.2.1,_,_,rfl,h,le125,hS,m128,m131,m134,m137⟩
    ·replace h:=iF h99 h
     refine nz ?_
     iterate 3 refine st ?_
     refine nw ?_
     refine cifd (et (k50 d4)) (fun h138=>?_) (fun h138=>?_)
     ·replace h:=iT h138 h
      refine cseq ?_
      refine cdw hS ?_; clear hS; intro w7 hS
      refine sf_start (fpi 0 [0,13] rfl (fpi 1 [1,2,3,4,5,6,7,10,11,12,13] rfl (fpi 2 [2,3,4,5,6,7,10,11,12,13] rfl (fpi 3 [3,4,5,6,7,10,11,12,13] rfl (fr_ 4 [4,5,6,7,10,11,12,13] rfl (u_load ti164 (et (k60 d0)) ((hS.blk d1).cell d1)) (q60 p1) (fpi 5 [5,6,7,10,11,12,13] rfl (fpi 6 [6,7,10,11,12,13] rfl (fr_ 7 [7,10,11,12,13] rfl (u_load ti27 (et (k60 d3)) ((m17 _ hS.a).one d2)) (q60 p4) (fpi 8 [8,9,10,11,12,13] rfl (fr_ 9 [9,10,11,12,13] rfl (u_load ti3 (et (k60 d5)) ((hS.blk d0).cell d1)) (q60 p6) ?_))))))))))
      obtain ⟨x139,g140,h⟩:=bI h
      obtain ⟨b141,o142,cs143,e144,f145,m146⟩:=SlR.elem m13 g140
      obtain rfl:=m146
      refine fp 10 [10,11,12,13] rfl (u_iax underlying27 ti3 (et (k60 d4)) (et (k60 d6)) e144) (q60 p7) (fr_ 11 [11,12,13] rfl (u_load ti3 (et (k60 d7)) ((f145 _ hS.a).one d0)) (q60 p8) ?_)
      refine sf1 rfl rfl rfl rfl (wn0 rfl) (s_bsl underlying27 ti3 (Parts.s (et (k60 d8)) rfl Parts.z) rfl rfl hS ?_); clear hS; intro b147 w8 hb148 hS; refine po ?_
      refine ⟨Mons.z,?_⟩
      obtain ⟨μ4,le150,m149,hS⟩:=Sep.frzBlk (l:=([x139]:List Int)) hS (Rw.one (α:=Int) rfl) (Nat.le_of_ble_eq_true rfl)
      obtain ⟨r151,g152,h⟩:=bI h
      replace hS:=((((hS.bg Y5).bg Y5).bg Y5).bg Y5).bg Y5
      refine sf1 rfl rfl rfl rfl (wn0 rfl) (s_callv isfn119 ef (e1 (et (k50 d7)) (e1 (et (k60 d9)) e0)) (vf_want_w (hg.t le150) (m6.up le150) (m7.up le150) (m13.up le150) (m16.up le150) (m17.up le150) (m22.up le150) (m26.up le150) (m30.up le150) (m34.up le150) m149 g152 hS) ?_)
      rintro _ w9 ⟨μ5,es154,c155,v157,cs158,v160,cs161,v163,cs164,rfl,le153,hS,m156,m159,m162,m165⟩
      refine po ?_
      refine ⟨Mons.z,?_⟩
      refine sf_nil (xn ?_)
      refine cdw hS ?_; clear hS; intro w10 hS
      refine sf_start (fpi 0 [0,1,2,3,4,7,8] rfl (fpi 1 [1,2,3,4,7,8] rfl (fpi 2 [2,3,4,7,8] rfl (fpi 3 [3,4,7,8] rfl (fr_ 4 [4,7,8] rfl (u_load ti169 (et (k70 d4)) ((hS.blk d0).cell d5)) (q70 p5) (fpi 5 [5,6,7,8] rfl (fr_ 6 [6,7,8] rfl (u_load ti3 (et (k70 d6)) ((hS.blk d5).cell d1)) (q70 p7) ?_)))))))
      obtain ⟨x166,g167,h⟩:=bI h
      obtain ⟨b168,o169,pc170,cs171,sc172,ec173,e174,f175,m176,pn177,st178,m179⟩:=Row.elemS (α:=Bool) (hS.get d4) m165 rfl g167
      rw [ec173] at hS
      obtain rfl:=m176
      refine fp 7 [7,8] rfl (u_iax underlying169 ti4 (et (k70 d5)) (et (k70 d7)) e174) (q70 p8) ?_
      have m180:=st178 _ [.bool true] true Le.r rfl
      refine sf1 rfl rfl rfl rfl (wn0 rfl) (s_storeR (off:=0) ti4 (et (k70 d8)) ec rfl rfl rfl hS d4 e174 (Nat.le_of_ble_eq_true rfl) (open_store pn177 rfl (Nat.le_of_ble_eq_true rfl)) p4 dn ?_); clear hS; intro w11 hS
      replace hS:Sq μ5 w0 w11 (.blk b1 173 [.pointer (some ⟨b3,o4,none⟩),.pointer (some ⟨b9,o10,none⟩),.map (some b19),v157,v160,v163,.int .i64 r151.2.2.2.2]::.map b19 es154 c155::.row v157 3 1 r151.2.1.length cs158::.row v160 3 1 r151.2.2.1.length cs161::.row v163 4 1 (r151.2.2.2.1.set p_2.A.toNat true).length (pc170++([.bool true]++sc172))::.blk b48 120 [.int .i64 p_2.Op,.int .i64 p_2.A,.int .i64 p_2.N]::rsF):=by rw [List.length_set]; exact hS
      refine ⟨Mons.z,?_⟩
      refine sf_nil ?_
      refine (fun h=>bn (xl h)) ?_
      replace hS:=hS.drop (Rm.s (Rm.s (Rm.s (Rm.s (Rm.s Rm.z)))))
      exact ⟨_,_,rfl,(aK4 (aO1 (aK3 (aO1 (aK2 (aO50 (aO50 (aO50 (aO20 (aO10 (aO2 aZ))))))))))),_,r151.2.2.2.2,r151.1,es154,_,r151.2.1,_,_,r151.2.2.1,_,_,(r151.2.2.2.1.set p_2.A.toNat true),_,(pc170++([.bool true]++sc172)),rfl,h,(le150.t le153),hS,m156,m159,m162,m180⟩
     ·replace h:=iF h138 h
      refine nz ?_
      iterate 3 refine st ?_
      refine nw ?_
      refine cifd (et (k70 d9)) (xT h) fun h181=>?_
      replace h:=iF h181 h
      refine nz ?_
      iterate 3 refine st ?_
      refine nw ?_
      refine cifd (et (k80 d4)) (xT h) fun h182=>?_
      replace h:=iF h182 h
      refine nz ?_
      iterate 3 refine st ?_
      refine nw ?_
      refine cifd (et (k90 d4)) (xT h) fun h183=>?_
      replace h:=iF h183 h
      refine nz ?_
      iterate 3 refine st ?_
      refine wspd (k100 d7) (q100 p7) (q100 p7) (fun h184=>?_) (xF h)
      replace h:=iT h184 h
      refine sy rfl (sy rfl ?_)
      iterate 2 refine st ?_
      refine nw ?_
      refine cifd (et (k100 d4)) (fun h185=>?_) (fun h185=>?_)
      ·replace h:=iT h185 h
       refine nz ?_
       iterate 3 refine st ?_
       refine wl (s_bsl underlying27 ti3 (Parts.s (et (k100 (k10 d2))) rfl (Parts.s (et (k100 (k10 d3))) rfl Parts.z)) rfl rfl hS ?_); clear hS; intro b186 w12 hb187 hS; refine po ?_
       obtain ⟨μ6,le189,m188,hS⟩:=Sep.frzBlk (l:=([1,1]:List Int)) hS (Rw.cons (α:=Int) (cs:=[.int .i64 1]) rfl (Rw.cons (α:=Int) (cs:=[.int .i64 1]) rfl Rw.nil)) (Nat.le_of_ble_eq_true rfl)
       obtain ⟨r190,g191,h⟩:=bI h
       replace hS:=((((hS.bg Y5).bg Y5).bg Y5).bg Y5).bg Y5
       refine ca (vf_want_w (hg.t le189) (m6.up le189) (m7.up le189) (m13.up le189) (m16.up le189) (m17.up le189) (m22.up le189) (m26.up le189) (m30.up le189) (m34.up le189) m188 g191 hS) ?_
       rintro _ w13 ⟨μ7,es193,c194,v196,cs197,v199,cs200,v202,cs203,rfl,le192,hS,m195,m198,m201,m204⟩
       refine po (nw (creg ?_))
       iterate 2 refine st ?_
       obtain ⟨r205,g206,h⟩:=bI h
       replace hS:=((((hS.bg Y4).bg Y4).bg Y4).bg Y4).bg Y4
       refine ca (vf_push_w (hg.t (le189.t le192)) (m6.up (le189.t le192)) (m7.up (le189.t le192)) (m13.up (le189.t le192)) (m16.up (le189.t le192)) (m17.up (le189.t le192)) m195 m198 m201 m204 g206 hS) ?_
       rintro _ w14 ⟨μ8,es208,c209,v211,cs212,v214,cs215,v217,cs218,rfl,le207,hS,m210,m213,m216,m219⟩
       refine po (wnil ?_)
       refine (fun h=>bn (xl h)) ?_
       replace hS:=hS.drop (Rm.s (Rm.s (Rm.s (Rm.s (Rm.s Rm.z)))))
       exact ⟨_,_,rfl,(aK4 (aO1 (aK3 (aO1 (aK2 (aO50 (aO50 (aO50 (aO20 (aO10 (aO2 aZ))))))))))),_,r205.2.2.2.2,r205.1,es208,_,r205.2.1,_,_,r205.2.2.1,_,_,r205.2.2.2.1,_,_,rfl,h,(le189.t (le192.t le207)),hS,m210,m213,m216,m219⟩
      ·replace h:=iF h185 h
       refine cseq ?_
       refine ccutE (rg 120 6) (by decide) (fun m w=>∃ μx b220,m=(yK50 (yK50 (yK10 (yK9 (.i (.bool b220)::(yO6 120 []))))))∧vf_step_j2 fu chec_2 p_2 u_8 at_18 todo_23 stac_27 has_31 err_35 b220=some r∧Le μ0 μx∧Sq μx w0 w (.blk b1 173 [.pointer (some ⟨b3,o4,none⟩),.pointer (some ⟨b9,o10,none⟩),.map (some b19),v24,v28,v32,.int .i64 err_35]::.map b19 es20 c21::.row v24 3 1 todo_23.length cs25::.row v28 3 1 stac_27.length cs29::.row v32 4 1 has_31.length cs33::.blk b48 120 [.int .i64 p_2.Op,.int .i64 p_2.A,.int .i64 p_2.N]::rsF)) (by rintro _ _ ⟨_,_,rfl,_⟩; rfl) ?_ ?_
       ·refine creg ?_
        iterate 3 refine st ?_
        refine wspd (k100 (k20 d2)) (q100 (q20 p2)) (q100 (q20 p2)) (fun h221=>?_) (fun h221=>?_)
        ·replace h:=iT h221 h
         refine sn rfl rfl (sn rfl rfl ?_)
         iterate 2 refine st ?_
         refine wnil (xl ?_)
         replace hS:=((((hS.bg Y5).bg Y5).bg Y5).bg Y5).bg Y5
         exact ⟨_,_,rfl,(aK50 (aK50 (aK10 (aK9 (aI (aO6 aZ)))))),_,true,rfl,h,Le.r,hS⟩
        ·replace h:=iF h221 h
         refine sy rfl (sy rfl ?_)
         iterate 2 refine st ?_
         refine wnil (xl ?_)
         replace hS:=((((hS.bg Y5).bg Y5).bg Y5).bg Y5).bg Y5
         exact ⟨_,_,rfl,(aK50 (aK50 (aK10 (aK9 (aI (aO6 aZ)))))),_,(decide (p_2.Op=14)),rfl,h,Le.r,hS⟩
       ·rintro _ t w15 ⟨μ9,b220,rfl,h,le222,hS⟩
        unfold vf_step_j2 at h
        refine nrm (mK50 (mK50 (mK10 (mK9 (mi (mO6 mz)))))) (xn ?_)
        refine cifb (et (k100 (k10 d9))) (fun h223=>?_) (fun h223=>?_)
        ·replace h:=iT h223 h
         refine nz (st ?_)
         obtain ⟨r224,g225,h⟩:=bI h
         replace hS:=((((hS.bg Y4).bg Y4).bg Y4).bg Y4).bg Y4
         refine ca (vf_pop_w (hg.t le222) (m6.up le222) (m7.up le222) (m13.up le222) (m16.up le222) (m17.up le222) (m22.up le222) (m26.up le222) (m30.up le222) (m34.up le222) g225 hS) ?_
         rintro _ w16 ⟨μ10,es227,c228,v230,cs231,v233,cs234,v236,cs237,rfl,le226,hS,m229,m232,m235,m238⟩
         refine po (st (ny (nz ?_)))
         iterate 4 refine st ?_
         refine wspd (k100 (k30 d1)) (q100 (q30 p1)) (q100 (q30 p1)) (xT h) fun h239=>?_
         replace h:=iF h239 h
         refine sn rfl rfl (sn rfl rfl (sn rfl rfl (st (nw (ciff (et (k100 (k30 d5))) (cskip (xn (nz ?_))))))))
         iterate 2 refine st ?_
         refine wl (s_bsl underlying27 ti3 (Parts.s (et (k100 (k30 d9))) rfl Parts.z) rfl rfl hS ?_); clear hS; intro b240 w17 hb241 hS; refine po ?_
         obtain ⟨μ11,le243,m242,hS⟩:=Sep.frzBlk (l:=([r224.1]:List Int)) hS (Rw.one (α:=Int) rfl) (Nat.le_of_ble_eq_true rfl)
         obtain ⟨r244,g245,h⟩:=bI h
         replace hS:=((((hS.bg Y4).bg Y4).bg Y4).bg Y4).bg Y4
         refine ca (vf_want_w (hg.t (le222.t (le226.t le243))) (m6.up (le222.t (le226.t le243))) (m7.up (le222.t (le226.t le243))) (m13.up (le222.t (le226.t le243))) (m16.up (le222.t (le226.t le243))) (m17.up (le222.t (le226.t le243))) (m229.up le243) (m232.up le243) (m235.up le243) (m238.up le243) m242 g245 hS) ?_
         rintro _ w18 ⟨μ12,es247,c248,v250,cs251,v253,cs254,v256,cs257,rfl,le246,hS,m249,m252,m255,m258⟩
         refine po (nw (creg ?_))
         iterate 2 refine st ?_
         obtain ⟨r259,g260,h⟩:=bI h
         replace hS:=((((hS.bg Y4).bg Y4).bg Y4).bg Y4).bg Y4
         refine ca (vf_push_w (hg.t (le222.t (le226.t (le243.t le246)))) (m6.up (le222.t (le226.t (le243.t le246)))) (m7.up (le222.t (le226.t (le243.t le246)))) (m13.up (le222.t (le226.t (le243.t le246)))) (m16.up (le222.t (le226.t (le243.t le246)))) (m17.up (le222.t (le226.t (le243.t le246)))) m249 m252 m255 m258 g260 hS) ?_
         rintro _ w19 ⟨μ13,es262,c263,v265,cs266,v268,cs269,v271,cs272,rfl,le261,hS,m264,m267,m270,m273⟩
         refine po (wnil ?_)
         refine (fun h=>bn (xl h)) ?_
         replace hS:=hS.drop (Rm.s (Rm.s (Rm.s (Rm.s (Rm.s Rm.z)))))
         exact ⟨_,_,rfl,(aK4 (aO1 (aK3 (aO1 (aK2 (aO50 (aO50 (aO50 (aO20 (aO10 (aO2 aZ))))))))))),_,r259.2.2.2.2,r259.1,es262,_,r259.2.1,_,_,r259.2.2.1,_,_,r259.2.2.2.1,_,_,rfl,h,(le222.t (le226.t (le243.t (le246.t le261)))),hS,m264,m267,m270,m273⟩
        ·replace h:=iF h223 h
         refine nz ?_
         iterate 3 refine st ?_
         refine wspd (k100 (k40 d8)) (q100 (q40 p8)) (q100 (q40 p8)) (fun h274=>?_) (xF h)
         replace h:=iT h274 h
         refine sy rfl (sy rfl ?_)
         iterate 2 refine st ?_
         refine nw ?_
         refine cifd (et (k100 (k40 d5))) (fun h275=>?_) (fun h275=>?_)
         ·replace h:=iT h275 h
          refine nz ?_
          iterate 3 refine st ?_
          refine wl (s_bsl underlying27 ti3 (Parts.s (et (k100 (k50 d3))) rfl (Parts.s (et (k100 (k50 d4))) rfl Parts.z)) rfl rfl hS ?_); clear hS; intro b276 w20 hb277 hS; refine po ?_
          obtain ⟨μ14,le279,m278,hS⟩:=Sep.frzBlk (l:=([1,1]:List Int)) hS (Rw.cons (α:=Int) (cs:=[.int .i64 1]) rfl (Rw.cons (α:=Int) (cs:=[.int .i64 1]) rfl Rw.nil)) (Nat.le_of_ble_eq_true rfl)
          obtain ⟨r280,g281,h⟩:=bI h
          replace hS:=((((hS.bg Y4).bg Y4).bg Y4).bg Y4).bg Y4
          refine ca (vf_want_w (hg.t (le222.t le279)) (m6.up (le222.t le279)) (m7.up (le222.t le279)) (m13.up (le222.t le279)) (m16.up (le222.t le279)) (m17.up (le222.t le279)) (m22.up (le222.t le279)) (m26.up (le222.t le279)) (m30.up (le222.t le279)) (m34.up (le222.t le279)) m278 g281 hS) ?_
          rintro _ w21 ⟨μ15,es283,c284,v286,cs287,v289,cs290,v292,cs293,rfl,le282,hS,m285,m288,m291,m294⟩
          refine po (nw (creg ?_))
          iterate 2 refine st ?_
          obtain ⟨r295,g296,h⟩:=bI h
          replace hS:=((((hS.bg Y4).bg Y4).bg Y4).bg Y4).bg Y4
          refine ca (vf_push_w (hg.t (le222.t (le279.t le282))) (m6.up (le222.t (le279.t le282))) (m7.up (le222.t (le279.t le282))) (m13.up (le222.t (le279.t le282))) (m16.up (le222.t (le279.t le282))) (m17.up (le222.t (le279.t le282))) m285 m288 m291 m294 g296 hS) ?_
          rintro _ w22 ⟨μ16,es298,c299,v301,cs302,v304,cs305,v307,cs308,rfl,le297,hS,m300,m303,m306,m309⟩
          refine po (wnil ?_)
          refine (fun h=>bn (xl h)) ?_
          replace hS:=hS.drop (Rm.s (Rm.s (Rm.s (Rm.s (Rm.s Rm.z)))))
          exact ⟨_,_,rfl,(aK4 (aO1 (aK3 (aO1 (aK2 (aO50 (aO50 (aO50 (aO20 (aO10 (aO2 aZ))))))))))),_,r295.2.2.2.2,r295.1,es298,_,r295.2.1,_,_,r295.2.2.1,_,_,r295.2.2.2.1,_,_,rfl,h,(le222.t (le279.t (le282.t le297))),hS,m300,m303,m306,m309⟩
         ·replace h:=iF h275 h
          refine nz ?_
          iterate 3 refine st ?_
          refine wspd (k100 (k60 d3)) (q100 (q60 p3)) (q100 (q60 p3)) (xT h) fun h310=>?_
          replace h:=iF h310 h
          refine sy rfl (sy rfl ?_)
          iterate 2 refine st ?_
          refine nw ?_
          refine cifd (et (k100 (k60 d0))) (xT h) fun h311=>?_
          replace h:=iF h311 h
          refine nz ?_
          iterate 3 refine st ?_
          refine nw ?_
          refine cifd (et (k100 (k70 d5))) (fun h312=>?_) (fun h312=>?_)
          ·replace h:=iT h312 h
           refine nz ?_
           iterate 2 refine st ?_
           refine ld ((hS.blk d5).cell d1) ?_
           obtain ⟨r313,g314,h⟩:=bI h
           replace hS:=((((hS.bg Y4).bg Y4).bg Y4).bg Y4).bg Y4
           refine ca (vf_to_w (hg.t le222) (m6.up le222) (m7.up le222) (m13.up le222) (m16.up le222) (m17.up le222) (m22.up le222) (m26.up le222) (m30.up le222) (m34.up le222) g314 hS) ?_
           rintro _ w23 ⟨μ17,es316,c317,v319,cs320,v322,cs323,v325,cs326,rfl,le315,hS,m318,m321,m324,m327⟩
           refine po (nx (st (nw (cret ?_))))
           refine (fun h=>br (xr (xr h))) ?_
           obtain rfl:=oI h
           refine ret1 rfl d4 ?_
           replace hS:=hS.drop (Rm.s (Rm.s (Rm.s (Rm.s (Rm.s Rm.z)))))
           exact ⟨_,es316,_,_,_,_,_,_,_,rfl,(le222.t le315),hS,m318,m321,m324,m327⟩
          ·replace h:=iF h312 h
           refine nz ?_
           iterate 3 refine st ?_
           refine nw ?_
           refine cifd (et (k100 (k80 d2))) (fun h328=>?_) (fun h328=>?_)
           ·replace h:=iT h328 h
            refine nz ?_
            iterate 2 refine st ?_
            refine wl (s_bsl underlying27 ti3 (Parts.s (et (k100 (k80 d6))) rfl Parts.z) rfl rfl hS ?_); clear hS; intro b329 w24 hb330 hS; refine po ?_
            obtain ⟨μ18,le332,m331,hS⟩:=Sep.frzBlk (l:=([2]:List Int)) hS (Rw.one (α:=Int) rfl) (Nat.le_of_ble_eq_true rfl)
            obtain ⟨r333,g334,h⟩:=bI h
            replace hS:=((((hS.bg Y4).bg Y4).bg Y4).bg Y4).bg Y4
            refine ca (vf_want_w (hg.t (le222.t le332)) (m6.up (le222.t le332)) (m7.up (le222.t le332)) (m13.up (le222.t le332)) (m16.up (le222.t le332)) (m17.up (le222.t le332)) (m22.up (le222.t le332)) (m26.up (le222.t le332)) (m30.up (le222.t le332)) (m34.up (le222.t le332)) m331 g334 hS) ?_
            rintro _ w25 ⟨μ19,es336,c337,v339,cs340,v342,cs343,v345,cs346,rfl,le335,hS,m338,m341,m344,m347⟩
            refine po (nw (creg ?_))
            iterate 2 refine st ?_
            refine ld ((hS.blk d5).cell d1) ?_
            obtain ⟨r348,g349,h⟩:=bI h
            replace hS:=((((hS.bg Y4).bg Y4).bg Y4).bg Y4).bg Y4
            refine ca (vf_to_w (hg.t (le222.t (le332.t le335))) (m6.up (le222.t (le332.t le335))) (m7.up (le222.t (le332.t le335))) (m13.up (le222.t (le332.t le335))) (m16.up (le222.t (le332.t le335))) (m17.up (le222.t (le332.t le335))) m338 m341 m344 m347 g349 hS) ?_
            rintro _ w26 ⟨μ20,es351,c352,v354,cs355,v357,cs358,v360,cs361,rfl,le350,hS,m353,m356,m359,m362⟩
            refine po (wnil ?_)
            refine (fun h=>bn (xl h)) ?_
            replace hS:=hS.drop (Rm.s (Rm.s (Rm.s (Rm.s (Rm.s Rm.z)))))
            exact ⟨_,_,rfl,(aK4 (aO1 (aK3 (aO1 (aK2 (aO50 (aO50 (aO50 (aO20 (aO10 (aO2 aZ))))))))))),_,r348.2.2.2.2,r348.1,es351,_,r348.2.1,_,_,r348.2.2.1,_,_,r348.2.2.2.1,_,_,rfl,h,(le222.t (le332.t (le335.t le350))),hS,m353,m356,m359,m362⟩
           ·replace h:=iF h328 h
            refine nz (st (lds (hS.blk d5).cells rfl ?_))
            obtain ⟨r363,g364,h⟩:=bI h
            replace hS:=((((hS.bg Y4).bg Y4).bg Y4).bg Y4).bg Y4
            refine ca (vf_special_w (hg.t le222) (m6.up le222) (m7.up le222) (m13.up le222) (m16.up le222) (m17.up le222) (m22.up le222) (m26.up le222) (m30.up le222) (m34.up le222) g364 hS) ?_
            rintro _ w27 ⟨μ21,es366,c367,v369,cs370,v372,cs373,v375,cs376,rfl,le365,hS,m368,m371,m374,m377⟩
            refine po (st (nw (cret ?_)))
            refine (fun h=>br (xr (xr h))) ?_
            obtain rfl:=oI h
            refine ret1 rfl d4 ?_
            replace hS:=hS.drop (Rm.s (Rm.s (Rm.s (Rm.s (Rm.s Rm.z)))))
            exact ⟨_,es366,_,_,_,_,_,_,_,rfl,(le222.t le365),hS,m368,m371,m374,m377⟩
 ·rintro _ t w28 ⟨μ22,i50,l53,es51,c52,l57,v55,cs56,l61,v59,cs60,l65,v63,cs64,rfl,h,le378,hS,m379,m380,m381,m382⟩
  unfold vf_step_j1 at h
  refine nrm (mK4 (mO1 (mK3 (mO1 (mK2 (mO50 (mO50 (mO50 (mO20 (mO10 (mO2 mz))))))))))) (xn (nz (st (nw (cret ?_)))))
  obtain rfl:=oI h
  refine ret1 rfl d4 ?_
  exact ⟨_,es51,_,_,_,_,_,_,_,rfl,le378,hS,m379,m380,m381,m382⟩
theorem vf_code_w (hg:Le Gm μ0) {p_1:TVc} {p_2:Int} {r:TWhere} (m4:Np μ0 v3 p_1.m) (m5:At μ0 b1 o2 [v3]) (h:vf_code fu p_1 p_2=some r) (hS:Sq μ0 w0 w (rsF)):CallsV prog 41 [.pointer (some ⟨b1,o2,none⟩),.int .i64 p_2] w (fun v w'=>∃ (μ':M) ,v=.agg ⟨[.int .i64 r.Err,.int .i64 r.Unit,.int .i64 r.At]⟩∧Le μ0 μ'∧Sq μ' w0 w' (rsF)):=by
 unfold vf_code at h
 refine enter func41 rfl (frm:=_::_::u2 (u2 (u50 (u50 [])))) rfl (nz ?_)
 refine wl (s_alloc ti51 hS ?_); clear hS; intro b6 w1 hb7 hS; refine po ?_
 refine nx ?_
 iterate 3 refine st ?_
 refine ld ((m5 _ hS.a).one d0) ?_
 obtain ⟨x8,g9,h⟩:=bI h
 obtain ⟨b10,o11,cs12,rfl,f13,m14⟩:=Np.get m4 g9
 obtain ⟨a15,c16,a18,c19,rfl,m17,m20⟩:=m14
 iterate 2 refine st ?_
 refine ld ((f13 _ hS.a).one d1) (st ?_)
 obtain ⟨x21,g22,h⟩:=bI h
 obtain ⟨b23,o24,cs25,e26,f27,m28⟩:=SlR.elem m20 g22
 obtain ⟨a29,c30,a32,c33,rfl,m31,m34⟩:=m28
 refine wl (su (u_iax underlying35 ti103 (et (k10 d5)) (et (k10 d6)) e26) (dt (q10 p7)) (st (nx ?_)))
 iterate 2 refine st ?_
 refine wl (s_mkmap hS ?_); clear hS; intro b35 w2 hb36 hS; refine po ?_
 refine wl (s_build ti173 pl173 (Fl.o rfl (et (k10 d8)) rfl rfl p0 (Fl.o rfl (et (k10 d9)) rfl rfl p1 (Fl.o rfl (et (k20 d0)) rfl rfl p2 Fl.z))) (dt (q20 p1)) ?_)
 refine wl (s_box (et (k20 d1)) rfl hS ?_); clear hS; intro b37 w3 hb38 hS; refine po ?_
 refine st (nx ?_)
 iterate 4 refine st ?_
 refine ld ((f27 _ hS.a).one d2) (wl (su (u_lensl underlying27 (et (k20 d7))) (dt (q20 p8)) ?_))
 obtain ⟨k39,g40,h⟩:=bI h
 have m42:Rw μ0 (List.replicate k39 (.bool false)) ((List.replicate k39 (false:Bool)):List Bool):=rw_rep (α:=Bool) (by intro; exact rfl) k39
 refine wl (s_mkslice underlying169 ti4 (by decide) (et (k20 d8)) (et (k20 d8)) g40 hS ?_); clear hS; intro b41 w4 hS; refine po ?_
 replace hS:Sq μ0 w0 w4 (.row (.slice (some ⟨b41,0,none⟩) k39 k39) 4 1 (List.replicate k39 (false:Bool)).length (List.replicate k39 (.bool false))::.blk b37 173 [.pointer (some ⟨b1,o2,none⟩),.pointer (some ⟨b23,o24,none⟩),.map (some b35),.slice none 0 0,.slice none 0 0,.slice none 0 0,.int .i64 0]::.map b35 [] 0::.blk b6 51 [.int .i64 0,.int .i64 0,.int .i64 0]::rsF):=by rw [List.length_replicate]; exact hS
 iterate 3 refine st ?_
 refine wl (s_store1 ti169 (et (k30 d2)) (et (k20 d9)) rfl hS d1 p5 rfl p1 dn ?_)
 clear hS; intro w5 hS
 refine ny (nz ?_)
 iterate 3 refine st ?_
 refine ld ((f27 _ hS.a).one d1) (st (nw (cblock ?_)))
 replace hS:=((hS.bg Y1).bg Y2).bg Y3
 refine cloopE ([7]++rg 38 10) (by decide) (fun n m w=>∃ μx i60 l63 v61 cs62,m=(yK7 (yO1 7 (yK20 (yK9 (.i (.int .i64 i60)::(yO10 38 []))))))∧vf_code_l1 fu p_1 x21 n i60 l63=some r∧Le μ0 μx∧Sq μx w0 w (.blk b6 51 [.int .i64 0,.int .i64 0,.int .i64 0]::.map b35 [] 0::.blk b37 173 [.pointer (some ⟨b1,o2,none⟩),.pointer (some ⟨b23,o24,none⟩),.map (some b35),.slice none 0 0,.slice none 0 0,v61,.int .i64 0]::.row v61 4 1 l63.length cs62::rsF)∧Rw μx cs62 l63) (by rintro _ _ _ ⟨_,_,_,_,_,rfl,_⟩; rfl) _ _ (aK7 (aO1 (aK20 (aK9 (aI (aO10 aZ)))))) ⟨_,0,(List.replicate k39 (false:Bool)),(.slice (some ⟨b41,0,none⟩) k39 k39),(List.replicate k39 (.bool false)),rfl,h,Le.r,hS,m42⟩ ?_
 rintro n_1 _ t w6 ⟨μ1,i60,l63,v61,cs62,rfl,h,le82,hS,m83⟩
 cases n_1 with
 | zero=>cases h
 | succ n_1 =>
 unfold vf_code_l1 at h
 refine cnrm (mK7 (mO1 (mK20 (mK9 (mi (mO10 mz)))))) (nz (st (ny ?_)))
 refine cifd (et (k30 d8)) (fun h84=>?_) (fun h84=>?_)
 ·replace h:=iT h84 h
  refine cskip (xn (cseq (cblock (nz ?_))))
  iterate 2 refine st ?_
  refine nw (creg ?_)
  iterate 4 refine st ?_
  refine ld ((hS.blk d2).cell d5) (st ?_)
  obtain ⟨x85,g86,h⟩:=bI h
  obtain ⟨b87,o88,pc89,cs90,sc91,ec92,e93,f94,m95,pn96,st97,m98⟩:=Row.elemS (α:=Bool) (hS.get d3) m83 rfl g86
  rw [ec92] at hS
  obtain rfl:=m95
  refine wl (su (u_iax underlying169 ti4 (et (k40 d4)) (et (k40 d5)) e93) (dt (q40 p6)) ?_)
  have m99:=st97 _ [.bool true] true Le.r rfl
  refine wl (s_storeR (off:=0) ti4 (et (k40 d6)) ec rfl rfl rfl hS d3 e93 (Nat.le_of_ble_eq_true rfl) (open_store pn96 rfl (Nat.le_of_ble_eq_true rfl)) p3 dn ?_); clear hS; intro w7 hS
  replace hS:Sq μ1 w0 w7 (.blk b6 51 [.int .i64 0,.int .i64 0,.int .i64 0]::.map b35 [] 0::.blk b37 173 [.pointer (some ⟨b1,o2,none⟩),.pointer (some ⟨b23,o24,none⟩),.map (some b35),.slice none 0 0,.slice none 0 0,v61,.int .i64 0]::.row v61 4 1 (l63.set i60.toNat true).length (pc89++([.bool true]++sc91))::rsF):=by rw [List.length_set]; exact hS
  refine wnil ?_
  refine (fun h=>bn (xn h)) ?_
  refine creg ?_
  obtain ⟨i100,g101,h⟩:=bI h
  refine wl (su (u_addc (et (k30 d7)) ec g101) (dt (q40 p7)) (st (wnil (xl ?_))))
  exact ⟨n_1,_,_,rfl,(aK7 (aO1 (aK20 (aK9 (aI (aO10 aZ)))))),⟨_,i100,(l63.set i60.toNat true),v61,(pc89++([.bool true]++sc91)),rfl,h,le82,hS,m99⟩,Nat.lt_succ_self _⟩
 ·replace h:=iF h84 h
  refine cexit ?_
  refine (fun h=>xe (xe (bh h))) ?_
  refine xn (nz (st ?_))
  replace hS:=hS.nilRow 3 (Mo.sz Int)
  replace hS:=hS.nilRow 3 (Mo.sz Int)
  obtain ⟨r104,g105,h⟩:=bI h
  replace hS:=((((hS.bg Y5).bg Y1).bg Y2).bg Y4).bg Y5
  refine ca (vf_to_w (hg.t le82) (m4.up le82) (m5.up le82) (m31.up le82) (m34.up le82) (f27.up le82) ((Mq.nil (κ:=Int) (β:=TVs) (μ:=μ0) (c:=0)).up le82) (Rw.nil (α:=Int) (μ:=μ1)) (Rw.nil (α:=Int) (μ:=μ1)) m83 g105 hS) ?_
  rintro _ w8 ⟨μ2,es107,c108,v110,cs111,v113,cs114,v116,cs117,rfl,le106,hS,m109,m112,m115,m118⟩
  refine po (ny (cblock ?_))
  replace hS:=(((((hS.bg Y3).bg Y3).bg Y4).bg Y3).bg Y4).bg Y5
  refine cloopE ([8]++rg 50 55) (by decide +kernel) (fun n m w=>∃ μx l220 es218 c219 i222 l225 v223 cs224 l229 v227 cs228 l233 v231 cs232,m=(yK8 (yO1 8 (yK20 (yK20 (yK1 (yO50 50 (yO5 100 [])))))))∧vf_code_l2 fu p_1 x21 n l220 i222 l225 l229 l233=some r∧Le μ2 μx∧Sq μx w0 w (.blk b6 51 [.int .i64 0,.int .i64 0,.int .i64 0]::.map b35 es218 c219::.blk b37 173 [.pointer (some ⟨b1,o2,none⟩),.pointer (some ⟨b23,o24,none⟩),.map (some b35),v227,v231,v223,.int .i64 i222]::.row v223 4 1 l225.length cs224::.row v227 3 1 l229.length cs228::.row v231 3 1 l233.length cs232::rsF)∧Mq μx es218 c219 l220∧Rw μx cs224 l225∧Rw μx cs228 l229∧Rw μx cs232 l233) (by rintro _ _ _ ⟨_,_,_,_,_,_,_,_,_,_,_,_,_,_,rfl,_⟩; rfl) _ _ (aK8 (aO1 (aK20 (aK20 (aK1 (aO50 (aO5 aZ))))))) ⟨_,r104.1,es107,c108,r104.2.2.2.2,r104.2.2.2.1,v116,cs117,r104.2.1,v110,cs111,r104.2.2.1,v113,cs114,rfl,h,Le.r,hS,m109,m118,m112,m115⟩ ?_
  rintro n_2 _ t w9 ⟨μ3,l220,es218,c219,i222,l225,v223,cs224,l229,v227,cs228,l233,v231,cs232,rfl,h,le334,hS,m335,m336,m337,m338⟩
  cases n_2 with
  | zero=>cases h
  | succ n_2 =>
  unfold vf_code_l2 at h
  refine cnrm (mK8 (mO1 (mK20 (mK20 (mK1 (mO50 (mO5 mz))))))) (cseq (nz ?_))
  iterate 3 refine st ?_
  refine ld ((hS.blk d2).cell d3) (wl (su (u_lenv underlying27 (et (k50 d3)) (hS.get d4).isSl) (dt (q50 p4)) (st (nw ?_))))
  refine cifd (et (k50 d5)) (fun h339=>?_) (fun h339=>?_)
  ·replace h:=iT h339 h
   refine cskip (xn (cblock (nz ?_)))
   iterate 3 refine st ?_
   refine ld ((hS.blk d2).cell d3) ?_
   obtain ⟨x340,g341,h⟩:=bI h
   obtain ⟨b342,o343,pc344,cs345,sc346,ec347,e348,f349,m350,pn351,st352,m353⟩:=Row.elemS (α:=Int) (hS.get d4) m337 rfl g341
   rw [ec347] at hS
   obtain rfl:=m350
   refine wl (su (u_iax underlying27 ti3 (et (k50 d9)) ec e348) (dt (q60 p0)) (ld ((f349 _ _ _ (hS.get d4) rfl).one d0) (st (nx ?_))))
   iterate 4 refine st ?_
   refine ld ((hS.blk d2).cell d3) ?_
   obtain ⟨l354,g355,h⟩:=bI h
   obtain ⟨v356,cs361,e357,hb358,hr359,m360⟩:=Row.cutQ (hS.get d4) m353 g355
   replace hS:=hS.reRow d4 hb358 hr359 p4
   refine wl (su (u_slc underlying27 ti3 (et (k60 d6)) (.s ec) .n e357) (dt (q60 p7)) ?_)
   iterate 2 refine st ?_
   refine wl (s_store1 ti27 (et (k60 d9)) (et (k60 d7)) (hS.get d4).cellV hS d2 p3 rfl p2 dn ?_)
   clear hS; intro w10 hS
   refine nx ?_
   iterate 4 refine st ?_
   refine ld ((hS.blk d2).cell d2) (st ?_)
   refine wl (s_mget1 (κ:=Int) (k:=x340) (β:=TVs) (zx:=(TVs.mk ([]:List Int) ([]:List Bool))) underlying168 underlying3 (et (k70 d4)) (et (k70 d5)) zv171 ⟨_,rfl,(TVs.i ⟨none,0,none,0,rfl,Sl.nil,Sl.nil⟩)⟩ (hS.get d1) m335 ?_); rintro _ ⟨_,rfl,⟨a367,c368,a370,c371,rfl,m369,m372⟩⟩; refine po ?_
   obtain ⟨r373,g374,h⟩:=bI h
   refine ca (vf_copied_w (hg.t (le82.t (le106.t le334))) m369 m372 g374 hS) ?_
   rintro _ w11 ⟨μ4,v376,cs377,v379,cs380,rfl,le375,hS,m378,m381⟩
   refine po ?_
   iterate 2 refine st ?_
   refine wl (s_store ti171 (et (k70 d9)) (et (k70 d7)) rfl rfl (cv_s ((hS.get d0).cellV) (cv_s ((hS.get d1).cellV) cv_z)) hS d4 (Spl.s p4 (of_decide_eq_true rfl) (Spl.s p5 (of_decide_eq_true rfl) Spl.z)) rfl p4 dn ?_)
   clear hS; intro w12 hS
   replace hS:=(hS.drop (Rm.s (Rm.s (Rm.s (Rm.s (Rm.s (Rm.s (Rm.s Rm.z)))))))).drop (Rm.s (Rm.s (Rm.s (Rm.s (Rm.s Rm.z)))))
   refine ny (nz ?_)
   iterate 4 refine st ?_
   refine ld ((f27 _ ((le82.t (le106.t (le334.t le375))) _ hS.a)).one d5) (st ?_)
   obtain ⟨x382,g383,h⟩:=bI h
   obtain ⟨b384,o385,cs386,e387,f388,m389⟩:=SlR.elem (m34.up (le82.t (le106.t (le334.t le375)))) g383
   obtain rfl:=m389
   refine wl (su (u_iax underlying101 ti120 (et (k80 d4)) (et (k80 d5)) e387) (dt (q80 p6)) (lds (f388 _ hS.a) rfl ?_))
   obtain ⟨r390,g391,h⟩:=bI h
   replace hS:=((((hS.bg Y1).bg Y1).bg Y5).bg Y4).bg Y5
   refine ca (vf_step_w (hg.t (le82.t (le106.t (le334.t le375)))) (m4.up (le82.t (le106.t (le334.t le375)))) (m5.up (le82.t (le106.t (le334.t le375)))) (m31.up (le82.t (le106.t (le334.t le375)))) (m34.up (le82.t (le106.t (le334.t le375)))) (f27.up (le82.t (le106.t (le334.t le375)))) (m335.up le375) (m360.up le375) m378 m381 g391 hS) ?_
   rintro _ w13 ⟨μ5,es393,c394,v396,cs397,v399,cs400,v402,cs403,rfl,le392,hS,m395,m398,m401,m404⟩
   refine po (nw ?_)
   refine ccutE (rg 89 4) (by decide) (fun m w=>∃ μx l407 es405 c406 i409 l412 v410 cs411 l416 v414 cs415 l420 v418 cs419,m=(yK50 (yK20 (yK10 (yK9 (yO4 89 [])))))∧vf_code_j1 (vf_code_l2 fu p_1 x21 n_2) l407 i409 l412 l416 l420=some r∧Le μ5 μx∧Sq μx w0 w (.blk b6 51 [.int .i64 0,.int .i64 0,.int .i64 0]::.map b35 es405 c406::.blk b37 173 [.pointer (some ⟨b1,o2,none⟩),.pointer (some ⟨b23,o24,none⟩),.map (some b35),v414,v418,v410,.int .i64 i409]::.row v410 4 1 l412.length cs411::.row v414 3 1 l416.length cs415::.row v418 3 1 l420.length cs419::rsF)∧Mq μx es405 c406 l407∧Rw μx cs411 l412∧Rw μx cs415 l416∧Rw μx cs419 l420) (by rintro _ _ ⟨_,_,_,_,_,_,_,_,_,_,_,_,_,_,rfl,_⟩; rfl) ?_ ?_
   ·refine cifb (et (k80 d8)) (fun h422=>?_) (fun h422=>?_)
    ·replace h:=iT h422 h
     refine creg ?_
     iterate 2 refine st ?_
     obtain ⟨i423,g424,h⟩:=bI h
     refine wl (su (u_addc (et (k90 d0)) ec g424) (dt (q90 p1)) ?_)
     obtain ⟨r425,g426,h⟩:=bI h
     replace hS:=((((hS.bg Y4).bg Y4).bg Y4).bg Y4).bg Y4
     refine ca (vf_to_w (hg.t (le82.t (le106.t (le334.t (le375.t le392))))) (m4.up (le82.t (le106.t (le334.t (le375.t le392))))) (m5.up (le82.t (le106.t (le334.t (le375.t le392))))) (m31.up (le82.t (le106.t (le334.t (le375.t le392))))) (m34.up (le82.t (le106.t (le334.t (le375.t le392))))) (f27.up (le82.t (le106.t (le334.t (le375.t le392))))) m395 m398 m401 m404 g426 hS) ?_
     rintro _ w14 ⟨μ6,es428,c429,v431,cs432,v434,cs435,v437,cs438,rfl,le427,hS,m430,m433,m436,m439⟩
     refine po (wnil (xl ?_))
     replace hS:=(((((hS.bg Y3).bg Y3).bg Y4).bg Y3).bg Y4).bg Y5
     exact ⟨_,_,rfl,(aK50 (aK20 (aK10 (aK9 (aO4 aZ))))),_,r425.1,es428,_,r425.2.2.2.2,r425.2.2.2.1,_,_,r425.2.1,_,_,r425.2.2.1,_,_,rfl,h,le427,hS,m430,m439,m433,m436⟩
    ·replace h:=iF h422 h
     refine cskip (xl ?_)
     replace hS:=(((((hS.bg Y3).bg Y3).bg Y4).bg Y3).bg Y4).bg Y5
     exact ⟨_,_,rfl,(aK50 (aK20 (aK10 (aK9 (aO4 aZ))))),_,r390.2.1,es393,_,r390.2.2.2.2.2,r390.2.2.2.2.1,_,_,r390.2.2.1,_,_,r390.2.2.2.1,_,_,rfl,h,Le.r,hS,m395,m404,m398,m401⟩
   ·rintro _ t w15 ⟨μ7,l407,es405,c406,i409,l412,v410,cs411,l416,v414,cs415,l420,v418,cs419,rfl,h,le440,hS,m441,m442,m443,m444⟩
    unfold vf_code_j1 at h
    refine nrm (mK50 (mK20 (mK10 (mK9 (mO4 mz))))) (xn (nz ?_))
    iterate 3 refine st ?_
    refine ld ((hS.blk d2).cell d6) (st (nw ?_))
    refine cifd (et (k90 d7)) (xT h) fun h445=>?_
    replace h:=iF h445 h
    refine cskip ?_
    refine (fun h=>bn (xl h)) ?_
    exact ⟨n_2,_,_,rfl,(aK8 (aO1 (aK20 (aK20 (aK1 (aO50 (aO5 aZ))))))),⟨_,l407,es405,c406,i409,l412,v410,cs411,l416,v414,cs415,l420,v418,cs419,rfl,h,(le334.t (le375.t (le392.t le440))),hS,m441,m442,m443,m444⟩,Nat.lt_succ_self _⟩
  ·replace h:=iF h339 h
   refine cexit ?_
   refine (fun h=>xe (xe (bh h))) ?_
   refine xn (nz (wl (s_build ti51 pl51 Fl.z (dt (q100 p5)) (wl (s_storeA ti51 (et d4) (et (k100 d5)) rfl rfl hS d0 rfl p0 dn ?_)))))
   clear hS; intro w16 hS
   refine nw (cret ?_)
   obtain rfl:=oI h
   refine retN rfl (RVs.s (.a d4 ti51 (hS.blk d0).cells rfl) RVs.z) ?_
   replace hS:=(((((hS.drop Rm.z).drop Rm.z).drop Rm.z).drop Rm.z).drop Rm.z).drop Rm.z
   exact ⟨_,rfl,(le82.t (le106.t le334)),hS⟩
theorem vf_reach_w (hg:Le Gm μ0) {p_1:TVc} {p_2:Int} {r:List Int} (m4:Np μ0 v3 p_1.m) (m5:At μ0 b1 o2 [v3]) (h:vf_reach fu p_1 p_2=some r) (hS:Sq μ0 w0 w (rsF)):CallsV prog 82 [.pointer (some ⟨b1,o2,none⟩),.int .i64 p_2] w (fun v w'=>∃ (μ':M) (a6:Option Addr) (c7:Nat),v=.slice a6 r.length c7∧Le μ0 μ'∧Sq μ' w0 w' (rsF)∧Sl μ' a6 c7 r):=by
 unfold vf_reach at h
 refine enter func82 rfl (frm:=_::_::u1 (u5 (u50 []))) rfl (nz (st (nx (st ?_))))
 refine wl (s_bsl underlying27 ti3 (Parts.s (et d9) rfl Parts.z) rfl rfl hS ?_); clear hS; intro b9 w1 hb10 hS; refine po ?_
 refine st (ny (nz (st (nw (cblock ?_)))))
 replace hS:=hS.blkRow (n:=1) (sz:=Mo.sz Int) d0 rfl (by decide) p0
 have m11:Rw μ0 [.int .i64 p_2] ([p_2]:List Int):=(Rw.one (α:=Int) rfl)
 refine cloopE ([8]++rg 11 46) (by decide +kernel) (fun n m w=>∃ μx i141 l144 v142 cs143,m=(yK5 (.i (v142)::(.i (.int .i64 i141)::(yK1 (yO1 8 (yK2 (yO20 11 (yO20 31 (yO6 51 [])))))))))∧vf_reach_l1 p_1 n i141 l144=some r∧Le μ0 μx∧Sq μx w0 w (.row v142 3 1 l144.length cs143::rsF)∧Rw μx cs143 l144) (by rintro _ _ _ ⟨_,_,_,_,_,rfl,_⟩; rfl) _ _ (aK5 (aI (aI (aK1 (aO1 (aK2 (aO20 (aO20 (aO6 aZ))))))))) ⟨_,0,([p_2]:List Int),(.slice (some ⟨b9,0,none⟩) 1 1),[.int .i64 p_2],rfl,h,Le.r,hS,m11⟩ ?_
 rintro n_1 _ t w2 ⟨μ1,i141,l144,v142,cs143,rfl,h,le275,hS,m276⟩
 cases n_1 with
 | zero=>cases h
 | succ n_1 =>
 unfold vf_reach_l1 at h
 refine cnrm (mK5 (mi (mi (mK1 (mO1 (mK2 (mO20 (mO20 (mO6 mz))))))))) (cseq (nz ?_))
 iterate 2 refine st ?_
 refine wl (su (u_lenv underlying27 (et (k10 d2)) (hS.get d0).isSl) (dt (q10 p3)) (st (nw ?_)))
 refine cifd (et (k10 d4)) (fun h277=>?_) (fun h277=>?_)
 ·replace h:=iT h277 h
  refine cskip (xn (cseq (cblock (cseq ?_))))
  refine cdw hS ?_; clear hS; intro w3 hS
  refine cpi 0 rfl (cpi 1 rfl (cpi 2 rfl (cpi 7 rfl (cpi 8 rfl ?_))))
  obtain ⟨x278,g279,h⟩:=bI h
  obtain ⟨b280,o281,pc282,cs283,sc284,ec285,e286,f287,m288,pn289,st290,m291⟩:=Row.elemS (α:=Int) (hS.get d0) m276 rfl g279
  rw [ec285] at hS
  obtain rfl:=m288
  refine cp 9 rfl (u_iax underlying27 ti3 (et (k20 d4)) (et (k20 d5)) e286) (q20 p6) (cpi 15 rfl (cr 3 [3,4,5,6,11,12,13,14] rfl (u_load ti54 (et (k10 d9)) ((m5 _ (le275 _ hS.a)).one d0)) (q20 p0) ?_))
  obtain ⟨x292,g293,h⟩:=bI h
  obtain ⟨b294,o295,cs296,rfl,f297,m298⟩:=Np.get (m4.up le275) g293
  obtain ⟨a299,c300,a302,c303,rfl,m301,m304⟩:=m298
  refine cpi 4 rfl (cpi 5 rfl (cr 6 [6,11,12,13,14] rfl (u_load ti35 (et (k20 d2)) ((f297 _ hS.a).one d1)) (q20 p3) (cr 10 [10,11,12,13,14] rfl (u_load ti3 (et (k20 d6)) ((f287 _ _ _ (hS.get d0) rfl).one d0)) (q20 p7) ?_)))
  obtain ⟨x305,g306,h⟩:=bI h
  obtain ⟨b307,o308,cs309,e310,f311,m312⟩:=SlR.elem m304 g306
  obtain ⟨a313,c314,a316,c317,rfl,m315,m318⟩:=m312
  refine cp 11 rfl (u_iax underlying35 ti103 (et (k20 d3)) (et (k20 d7)) e310) (q20 p8) (cpi 12 rfl (cr 13 [13,14] rfl (u_load ti101 (et (k20 d9)) ((f311 _ hS.a).one d5)) (q30 p0) (cp 14 rfl (u_lensl underlying101 (et (k30 d0))) (q30 p1) (nu (cblock ?_)))))
  rw [← ec285] at hS
  refine cloopE ([8]++rg 33 24) (by decide +kernel) (fun n m w=>∃ μx i346 l349 v347 cs348,m=(yK5 (.i (v347)::(yK2 (yO1 8 (yK20 (yK3 (.i (.int .i64 i346)::(yO20 33 (yO4 53 [])))))))))∧vf_reach_l2 i141 x305 (vf_reach_l1 p_1 n_1) n i346 l349=some r∧Le μ1 μx∧Sq μx w0 w (.row v347 3 1 l349.length cs348::rsF)∧Rw μx cs348 l349) (by rintro _ _ _ ⟨_,_,_,_,_,rfl,_⟩; rfl) _ _ (aK5 (aI (aK2 (aO1 (aK20 (aK3 (aI (aO20 (aO4 aZ))))))))) ⟨_,0,l144,v142,cs143,rfl,h,Le.r,hS,m276⟩ ?_
  rintro n_2 _ t w4 ⟨μ2,i346,l349,v347,cs348,rfl,h,le378,hS,m379⟩
  cases n_2 with
  | zero=>cases h
  | succ n_2 =>
  unfold vf_reach_l2 at h
  refine cnrm (mK5 (mi (mK2 (mO1 (mK20 (mK3 (mi (mO20 (mO4 mz))))))))) (nz (st (ny ?_)))
  refine cifd (et (k30 d3)) (fun h380=>?_) (fun h380=>?_)
  ·replace h:=iT h380 h
   refine cskip (xn (cseq (cblock (nz ?_))))
   obtain ⟨x381,g382,h⟩:=bI h
   obtain ⟨b383,o384,cs385,e386,f387,m388⟩:=SlR.elem (m318.up le378) g382
   obtain rfl:=m388
   refine wl (su (u_iax underlying101 ti120 (et (k30 d0)) (et (k30 d2)) e386) (dt (q30 p4)) (lds (f387 _ hS.a) rfl ?_))
   refine wl (s_alloc ti120 hS ?_); clear hS; intro b389 w5 hb390 hS; refine po ?_
   refine wl (s_storeA ti120 (et d8) (et (k30 d5)) rfl rfl hS d0 rfl p0 dn ?_)
   clear hS; intro w6 hS
   refine ny ?_
   refine ccutE (rg 36 14) (by decide) (fun m w=>∃ μx b391,m=(yK20 (yK10 (yK6 (yO10 36 (yO4 46 (.i (.bool b391)::[]))))))∧vf_reach_j1 i346 l349 x381 (vf_reach_l2 i141 x305 (vf_reach_l1 p_1 n_1) n_2) b391=some r∧Le μ2 μx∧Sq μx w0 w (.row v347 3 1 l349.length cs348::.blk b389 120 [.int .i64 x381.Op,.int .i64 x381.A,.int .i64 x381.N]::rsF)) (by rintro _ _ ⟨_,_,rfl,_⟩; rfl) ?_ ?_
   ·refine creg (st (ld ((hS.blk d0).cell d0) ?_))
    iterate 2 refine st ?_
    refine wspd (k30 d9) (q30 p9) (q30 p9) (fun h392=>?_) (fun h392=>?_)
    ·replace h:=iT h392 h
     refine sn rfl rfl (sn rfl rfl (sn rfl rfl ?_))
     iterate 2 refine st ?_
     refine sy rfl (sy rfl (wy rfl (k40 d4) (s_load ti3 (et (k40 d6)) ((hS.blk d0).cell d1) (dt (q40 p7)) ?_)))
     refine wy rfl (k40 d4) (s_callv isfn123 ef (e1 (et (k40 d5)) (e1 (et (k40 d7)) e0)) (contains_i_c (l:=l349) (cells_row int1 (hS.get d1) m379)) ?_); rintro _ w7 ⟨rfl,hw_⟩; replace hS:=hw_ ▸ hS; clear hw_; refine po ?_
     refine sy rfl (st (wnil (xl ?_)))
     replace hS:=hS.bg Y1
     exact ⟨_,_,rfl,(aK20 (aK10 (aK6 (aO10 (aO4 (aI aZ)))))),_,(!(l349.contains x381.A)),rfl,h,Le.r,hS⟩
    ·replace h:=iF h392 h
     refine sy rfl (wy rfl (k30 d9) (s_load ti3 (et (k40 d0)) ((hS.blk d0).cell d0) (dt (q40 p1)) (sy rfl ?_)))
     iterate 2 refine st ?_
     refine wspd (k40 d4) (q40 p4) (q40 p4) (xT h) fun h394=>?_
     replace h:=iF h394 h
     refine sn rfl rfl (sn rfl rfl (sn rfl rfl (sn rfl rfl (sn rfl rfl (st (wnil (xl ?_)))))))
     replace hS:=hS.bg Y1
     exact ⟨_,_,rfl,(aK20 (aK10 (aK6 (aO10 (aO4 (aI aZ)))))),_,false,rfl,h,Le.r,hS⟩
   ·rintro _ t w8 ⟨μ3,b391,rfl,h,le395,hS⟩
    unfold vf_reach_j1 at h
    refine nrm (mK20 (mK10 (mK6 (mO10 (mO4 (mi mz)))))) (xn ?_)
    refine cifb (et (k50 d0)) (fun h396=>?_) (fun h396=>?_)
    ·replace h:=iT h396 h
     refine creg ?_
     iterate 2 refine st ?_
     refine ld ((hS.blk d1).cell d1) ?_
     refine wl (s_bsl underlying27 ti3 (Parts.s (et (k50 d3)) rfl Parts.z) rfl rfl hS ?_); clear hS; intro b397 w9 hb398 hS; refine po ?_
     obtain ⟨l401,g402,h⟩:=bI h
     have m403:Rw μ3 [.int .i64 x381.A] [x381.A]:=(Rw.one (α:=Int) rfl)
     have m400:=Rw.app (m379.up le395) m403 g402
     refine wl (s_app1 underlying27 ti3 rfl (et (k50 d1)) (et (k50 d4)) hS d1 (hS.blk d0).cells m403 rfl g402 (by decide) ?_); clear hS; intro v399 w10 rs_ hp_ hS; cases (show _=rs_ from hp_)
     replace hS:=Sep.reput hS p1; refine po ?_
     replace hS:=hS.drop Rm.z
     refine st (wnil ?_)
     refine (fun h=>bn (xn h)) ?_
     refine creg ?_
     obtain ⟨i404,g405,h⟩:=bI h
     refine wl (su (u_addc (et (k30 d2)) ec g405) (dt (q50 p6)) (st (wnil (xl ?_))))
     replace hS:=hS.drop (Rm.s Rm.z)
     exact ⟨n_2,_,_,rfl,(aK5 (aI (aK2 (aO1 (aK20 (aK3 (aI (aO20 (aO4 aZ))))))))),⟨_,i404,l401,v399,(cs348++[.int .i64 x381.A]),rfl,h,(le378.t le395),hS,m400⟩,Nat.lt_succ_self _⟩
    ·replace h:=iF h396 h
     refine cskip ?_
     refine (fun h=>bn (xn h)) ?_
     refine creg ?_
     obtain ⟨i406,g407,h⟩:=bI h
     refine wl (su (u_addc (et (k30 d2)) ec g407) (dt (q50 p6)) (st (wnil (xl ?_))))
     replace hS:=hS.drop (Rm.s Rm.z)
     exact ⟨n_2,_,_,rfl,(aK5 (aI (aK2 (aO1 (aK20 (aK3 (aI (aO20 (aO4 aZ))))))))),⟨_,i406,l349,v347,cs348,rfl,h,(le378.t le395),hS,(m379.up le395)⟩,Nat.lt_succ_self _⟩
  ·replace h:=iF h380 h
   refine cexit ?_
   refine (fun h=>xe (xe (bh h))) ?_
   refine (fun h=>bn (xn h)) ?_
   refine creg (st ?_)
   obtain ⟨i408,g409,h⟩:=bI h
   refine wl (su (u_addc (et (k10 d5)) ec g409) (dt (q10 p6)) (st (wnil (xl ?_))))
   exact ⟨n_1,_,_,rfl,(aK5 (aI (aI (aK1 (aO1 (aK2 (aO20 (aO20 (aO6 aZ))))))))),⟨_,i408,l349,v347,cs348,rfl,h,(le275.t le378),hS,m379⟩,Nat.lt_succ_self _⟩
 ·replace h:=iF h277 h
  refine cexit ?_
  refine (fun h=>xe (xe (bh h))) ?_
  refine xn (nz ?_)
  iterate 2 refine st ?_
  refine nw (cret ?_)
  obtain ⟨μ4,a410,c411,e414,le413,m412,hq_⟩:=Sep.frzRow hS m276 rfl; clear hS
  subst e414; have hS:=hq_; clear hq_
  obtain rfl:=oI h
  refine ret1 rfl d4 ?_
  exact ⟨_,_,_,rfl,(le275.t le413),hS,m412⟩
theorem vf_owned11_w (hg:Le Gm μ0) {p_1:TInstr} {p_2 p_3:Int} {r:Bool} (m3:At μ0 b1 o2 [.int .i64 p_2]) (m6:At μ0 b4 o5 [.int .i64 p_3]) (h:vf_owned11 p_1 p_2 p_3=some r) (hS:Sq μ0 w0 w (rsF)):CallsV prog 85 [.agg ⟨[.int .i64 p_1.Op,.int .i64 p_1.A,.int .i64 p_1.N]⟩,.pointer (some ⟨b1,o2,none⟩),.pointer (some ⟨b4,o5,none⟩)] w (fun v w'=>∃ (μ':M) ,v=.bool r∧Le μ0 μ'∧Sq μ' w0 w' (rsF)):=by
 unfold vf_owned11 at h
 refine enter func85 rfl (frm:=_::_::_::u2 (u10 [])) rfl (nz ?_)
 refine wl (s_box (et d0) rfl hS ?_); clear hS; intro b7 w1 hb8 hS; refine po ?_
 refine st (nx (st (ld ((hS.blk d0).cell d0) (ld ((m3 _ hS.a).one d0) ?_))))
 iterate 2 refine st ?_
 refine wspd d9 p9 p9 (fun h9=>?_) (fun h9=>?_)
 ·replace h:=iT h9 h
  refine sy rfl (wy rfl d9 (s_load ti3 (et (k10 d0)) ((hS.blk d0).cell d1) (dt (q10 p1)) (wy rfl d9 (s_load ti3 (et d2) ((m6 _ hS.a).one d0) (dt (q10 p2)) (sy rfl ?_)))))
  iterate 2 refine st ?_
  refine nw (cret ?_)
  obtain rfl:=oI h
  refine ret1 rfl d4 ?_
  replace hS:=hS.drop Rm.z
  exact ⟨_,rfl,Le.r,hS⟩
 ·replace h:=iF h9 h
  refine sn rfl rfl (sn rfl rfl (sn rfl rfl (sn rfl rfl ?_)))
  iterate 2 refine st ?_
  refine nw (cret ?_)
  obtain rfl:=oI h
  refine ret1 rfl d4 ?_
  replace hS:=hS.drop Rm.z
  exact ⟨_,rfl,Le.r,hS⟩
theorem vf_owned1_w (hg:Le Gm μ0) {p_1:Int} {p_2:Option TVc} {p_3 p_4:Int} {r:Bool} (m5:Np μ0 v4 p_2) (m3:At μ0 b1 o2 [v4]) (m8:At μ0 b6 o7 [.int .i64 p_3]) (m11:At μ0 b9 o10 [.int .i64 p_4]) (h:vf_owned1 p_1 p_2 p_3 p_4=some r) (hS:Sq μ0 w0 w (rsF)):CallsV prog 83 [.int .i64 p_1,.pointer (some ⟨b1,o2,none⟩),.pointer (some ⟨b6,o7,none⟩),.pointer (some ⟨b9,o10,none⟩)] w (fun v w'=>∃ (μ':M) ,v=.bool r∧Le μ0 μ'∧Sq μ' w0 w' (rsF)):=by
 unfold vf_owned1 at h
 refine enter func83 rfl (frm:=_::_::_::_::u5 (u10 [])) rfl (nz (st (nx (ld ((m3 _ hS.a).one d0) ?_))))
 obtain ⟨x12,g13,h⟩:=bI h
 obtain ⟨b14,o15,cs16,rfl,f17,m18⟩:=Np.get m5 g13
 obtain ⟨v19,rfl,m20⟩:=m18
 iterate 2 refine st ?_
 refine ld ((f17 _ hS.a).one d0) ?_
 obtain ⟨x21,g22,h⟩:=bI h
 obtain ⟨b23,o24,cs25,rfl,f26,m27⟩:=Np.get m20 g22
 obtain ⟨a28,c29,a31,c32,rfl,m30,m33⟩:=m27
 iterate 2 refine st ?_
 refine ld ((f26 _ hS.a).one d1) (st ?_)
 obtain ⟨x34,g35,h⟩:=bI h
 obtain ⟨b36,o37,cs38,e39,f40,m41⟩:=SlR.elem m33 g35
 obtain ⟨a42,c43,a45,c46,rfl,m44,m47⟩:=m41
 refine wl (su (u_iax underlying35 ti103 (et (k10 d2)) (et (k10 d3)) e39) (dt (q10 p4)) (st (ld ((f40 _ hS.a).one d5) (wl (su (u_mkfn e0 (e1 (et d2) (e1 (et d3) e0))) (dt (q10 p7)) ?_)))))
 obtain ⟨r48,g49,h⟩:=bI h
 refine wl (s_callv isfn84 ef (e1 (et (k10 d6)) (e1 (et (k10 d7)) e0)) (conf_n_w hg m47 (⟨isfn85,fun hle_ hm_ g_ hS_=>by obtain rfl:=hm_; exact vf_owned11_w (hg.t hle_) (m8.up hle_) (m11.up hle_) g_ hS_⟩) g49 hS) ?_)
 rintro _ w1 ⟨μ1,rfl,le50,hS⟩
 refine po (st (nw (cret ?_)))
 obtain rfl:=oI h
 refine ret1 rfl d5 ?_
 exact ⟨_,rfl,le50,hS⟩
theorem vf_owned_w (hg:Le Gm μ0) {p_1:TVc} {r:TWhere} (m4:Np μ0 v3 p_1.m) (m5:At μ0 b1 o2 [v3]) (h:vf_owned fu p_1=some r) (hS:Sq μ0 w0 w (rsF)):CallsV prog 42 [.pointer (some ⟨b1,o2,none⟩)] w (fun v w'=>∃ (μ':M) ,v=.agg ⟨[.int .i64 r.Err,.int .i64 r.Unit,.int .i64 r.At]⟩∧Le μ0 μ'∧Sq μ' w0 w' (rsF)):=by
 unfold vf_owned at h
 refine enter func42 rfl (frm:=_::u1 (u2 (u5 (u50 [])))) rfl (nz ?_)
 refine wl (s_box (et d0) rfl hS ?_); clear hS; intro b6 w1 hb7 hS; refine po ?_
 refine wl (s_alloc ti51 hS ?_); clear hS; intro b8 w2 hb9 hS; refine po ?_
 refine ny (nz (ld ((hS.blk d1).cell d0) ?_))
 iterate 2 refine st ?_
 refine ld ((m5 _ hS.a).one d0) ?_
 obtain ⟨x10,g11,h⟩:=bI h
 obtain ⟨b12,o13,cs14,rfl,f15,m16⟩:=Np.get m4 g11
 obtain ⟨a17,c18,a20,c21,rfl,m19,m22⟩:=m16
 iterate 2 refine st ?_
 refine ld ((f15 _ hS.a).one d0) (wl (su (u_lensl underlying34 (et (k10 d5))) (dt (q10 p6)) (st (nw (cblock ?_)))))
 replace hS:=hS.bg Y1
 obtain ⟨μ1,le24,m23,hS⟩:=Sep.frzAt hS
 refine cloopE ([3]++rg 5 4++rg 18 40) (by decide +kernel) (fun n m w=>∃ μx i372,m=(yK3 (yO1 3 (yK1 (yO4 5 (yK8 (.i (.int .i64 i372)::(yO20 18 (yO20 38 []))))))))∧vf_owned_l1 fu p_1 x10 n i372=some r∧Le μ1 μx∧Sq μx w0 w (.blk b8 51 [.int .i64 0,.int .i64 0,.int .i64 0]::rsF)) (by rintro _ _ _ ⟨_,_,rfl,_⟩; rfl) _ _ (aK3 (aO1 (aK1 (aO4 (aK8 (aI (aO20 (aO20 aZ)))))))) ⟨_,0,rfl,h,Le.r,hS⟩ ?_
 rintro n_1 _ t w3 ⟨μ2,i372,rfl,h,le720,hS⟩
 cases n_1 with
 | zero=>cases h
 | succ n_1 =>
 unfold vf_owned_l1 at h
 refine cnrm (mK3 (mO1 (mK1 (mO4 (mK8 (mi (mO20 (mO20 mz)))))))) (nz (st (ny ?_)))
 refine cifd (et (k10 d8)) (fun h721=>?_) (fun h721=>?_)
 ·replace h:=iT h721 h
  refine cskip (xn (cseq (cblock (nz (st ?_)))))
  refine wl (s_alloc ti3 hS ?_); clear hS; intro b722 w4 hb723 hS; refine po ?_
  refine wl (s_store1 ti3 (et d3) (et (k10 d9)) rfl hS d0 p0 rfl p0 dn ?_)
  clear hS; intro w5 hS
  refine nx ?_
  refine wl (s_bsl underlying27 ti3 (Parts.s ec rfl (Parts.s ec rfl Parts.z)) rfl rfl hS ?_); clear hS; intro b724 w6 hb725 hS; refine po ?_
  refine wl (su (u_lensl underlying27 (et (k20 d0))) (dt (q20 p1)) (st (nw (cblock ?_))))
  replace hS:=hS.bg Y1
  obtain ⟨μ3,le727,m726,hS⟩:=Sep.frzAt hS
  obtain ⟨μ4,le729,m728,hS⟩:=Sep.frzBlk (l:=([26,27]:List Int)) hS (Rw.cons (α:=Int) (cs:=[.int .i64 26]) rfl (Rw.cons (α:=Int) (cs:=[.int .i64 27]) rfl Rw.nil)) (Nat.le_of_ble_eq_true rfl)
  refine cloopE (rg 5 4++rg 23 34) (by decide +kernel) (fun n m w=>∃ μx i842,m=(yK5 (yO4 5 (yK10 (yK3 (.i (.int .i64 i842)::(yO20 23 (yO10 43 (yO4 53 []))))))))∧vf_owned_l2 fu p_1 x10 i372 (vf_owned_l1 fu p_1 x10 n_1) n i842=some r∧Le μ4 μx∧Sq μx w0 w (.blk b8 51 [.int .i64 0,.int .i64 0,.int .i64 0]::rsF)) (by rintro _ _ _ ⟨_,_,rfl,_⟩; rfl) _ _ (aK5 (aO4 (aK10 (aK3 (aI (aO20 (aO10 (aO4 aZ)))))))) ⟨_,0,rfl,h,Le.r,hS⟩ ?_
  rintro n_2 _ t w7 ⟨μ5,i842,rfl,h,le955,hS⟩
  cases n_2 with
  | zero=>cases h
  | succ n_2 =>
  unfold vf_owned_l2 at h
  refine cnrm (mK5 (mO4 (mK10 (mK3 (mi (mO20 (mO10 (mO4 mz)))))))) (nz (st (ny ?_)))
  refine cifd (et (k20 d3)) (fun h956=>?_) (fun h956=>?_)
  ·replace h:=iT h956 h
   refine cskip (xn (cseq (cblock (nz ?_))))
   obtain ⟨x957,g958,h⟩:=bI h
   obtain ⟨b959,o960,cs961,e962,f963,m964⟩:=SlR.elem (m728.up le955) g958
   obtain rfl:=m964
   refine wl (su (u_iax underlying27 ti3 (et (k20 d0)) (et (k20 d2)) e962) (dt (q20 p4)) (ld ((f963 _ hS.a).one d0) ?_))
   refine wl (s_alloc ti3 hS ?_); clear hS; intro b965 w8 hb966 hS; refine po ?_
   refine wl (s_store1 ti3 (et d5) (et (k20 d5)) rfl hS d0 p0 rfl p0 dn ?_)
   clear hS; intro w9 hS
   refine nx (st (ny (nz (ld ((m23 _ ((le720.t (le727.t (le729.t le955))) _ hS.a)).one d0) ?_))))
   iterate 2 refine st ?_
   refine ld ((m5 _ ((le24.t (le720.t (le727.t (le729.t le955)))) _ hS.a)).one d0) ?_
   iterate 2 refine st ?_
   refine ld ((f15 _ ((le24.t (le720.t (le727.t (le729.t le955)))) _ hS.a)).one d1) (wl (su (u_lensl underlying35 (et (k30 d2))) (dt (q30 p3)) (st (nw (cblock ?_)))))
   obtain ⟨μ6,le968,m967,hS⟩:=Sep.frzAt hS
   refine cloopE (rg 7 2++rg 35 17) (by decide) (fun n m w=>∃ μx i1001 i1002,m=(yK6 (.i (.int .i64 i1001)::(yO2 7 (yK20 (yK5 (.i (.int .i64 i1002)::(yO10 35 (yO7 45 []))))))))∧vf_owned_l3 fu p_1 x10 i372 i842 x957 (vf_owned_l2 fu p_1 x10 i372 (vf_owned_l1 fu p_1 x10 n_1) n_2) n i1001 i1002=some r∧Le μ6 μx∧Sq μx w0 w (.blk b8 51 [.int .i64 0,.int .i64 0,.int .i64 0]::rsF)) (by rintro _ _ _ ⟨_,_,_,rfl,_⟩; rfl) _ _ (aK6 (aI (aO2 (aK20 (aK5 (aI (aO10 (aO7 aZ)))))))) ⟨_,0,0,rfl,h,Le.r,hS⟩ ?_
   rintro n_3 _ t w10 ⟨μ7,i1001,i1002,rfl,h,le1035,hS⟩
   cases n_3 with
   | zero=>cases h
   | succ n_3 =>
   unfold vf_owned_l3 at h
   refine cnrm (mK6 (mi (mO2 (mK20 (mK5 (mi (mO10 (mO7 mz)))))))) (nz (st (ny ?_)))
   refine cifd (et (k30 d5)) (fun h1036=>?_) (fun h1036=>?_)
   ·replace h:=iT h1036 h
    refine cskip (xn (cseq (cblock (nz (st ?_)))))
    obtain ⟨x1037,g1038,h⟩:=bI h
    obtain ⟨b1039,o1040,cs1041,e1042,f1043,m1044⟩:=SlR.elem (m22.up (le24.t (le720.t (le727.t (le729.t (le955.t (le968.t le1035))))))) g1038
    obtain ⟨a1045,c1046,a1048,c1049,rfl,m1047,m1050⟩:=m1044
    refine wl (su (u_iax underlying35 ti103 (et (k30 d2)) (et (k30 d4)) e1042) (dt (q30 p7)) (lds (f1043 _ hS.a) rfl ?_))
    refine wl (s_alloc ti103 hS ?_); clear hS; intro b1051 w11 hb1052 hS; refine po ?_
    refine st (wl (s_storeA ti103 (et d8) (et (k30 d8)) rfl rfl hS d0 rfl p0 dn ?_))
    clear hS; intro w12 hS
    refine ny ?_
    refine ccutE (rg 39 9) (by decide) (fun m w=>∃ μx b1053,m=(yK20 (yK10 (yK9 (yO9 39 (.i (.bool b1053)::[])))))∧vf_owned_j1 i1001 i1002 (vf_owned_l3 fu p_1 x10 i372 i842 x957 (vf_owned_l2 fu p_1 x10 i372 (vf_owned_l1 fu p_1 x10 n_1) n_2) n_3) b1053=some r∧Le μ7 μx∧Sq μx w0 w (.blk b8 51 [.int .i64 0,.int .i64 0,.int .i64 0]::rsF)) (by rintro _ _ ⟨_,_,rfl,_⟩; rfl) ?_ ?_
    ·refine creg (st (ld ((hS.blk d0).cell d0) ?_))
     iterate 2 refine st ?_
     refine wspd (k40 d2) (q40 p2) (q40 p2) (fun h1054=>?_) (fun h1054=>?_)
     ·replace h:=iT h1054 h
      refine wy rfl (k40 d2) (s_load ti105 (et d1) ((m23 _ ((le720.t (le727.t (le729.t (le955.t (le968.t le1035))))) _ hS.a)).one d0) (dt (q40 p3)) (sy rfl ?_))
      obtain ⟨r1055,g1056,h⟩:=bI h
      refine wy rfl (k40 d2) (s_callv isfn82 ef (e1 (et (k40 d3)) (e1 (et (k40 d4)) e0)) (vf_reach_w (hg.t (le24.t (le720.t (le727.t (le729.t (le955.t (le968.t le1035))))))) (m4.up (le24.t (le720.t (le727.t (le729.t (le955.t (le968.t le1035))))))) (m5.up (le24.t (le720.t (le727.t (le729.t (le955.t (le968.t le1035))))))) g1056 hS) ?_)
      rintro _ w13 ⟨μ8,a1058,c1059,rfl,le1057,hS,m1060⟩
      refine po (wy rfl (k40 d2) (su (u_mkfn e0 (e1 (et d1) (e1 (et d5) (e1 (et d3) e0)))) (dt (q40 p6)) ?_))
      obtain ⟨r1061,g1062,h⟩:=bI h
      refine wy rfl (k40 d2) (s_callv isfn81 ef (e1 (et (k40 d5)) (e1 (et (k40 d6)) e0)) (conf_i_w (hg.t (le24.t (le720.t (le727.t (le729.t (le955.t (le968.t (le1035.t le1057)))))))) m1060 (⟨isfn83,fun hle_ hm_ g_ hS_=>by obtain rfl:=hm_; exact vf_owned1_w ((hg.t (le24.t (le720.t (le727.t (le729.t (le955.t (le968.t (le1035.t le1057)))))))).t hle_) ((Np.of (α:=TVc) (m5.up (le24.t (le720.t (le727.t (le729.t (le955.t (le968.t (le1035.t le1057)))))))) (TVc.i ⟨(.pointer (some ⟨b12,o13,none⟩)),rfl,(m4.up (le24.t (le720.t (le727.t (le729.t (le955.t (le968.t (le1035.t le1057))))))))⟩)).up hle_) ((m23.up (le720.t (le727.t (le729.t (le955.t (le968.t (le1035.t le1057))))))).up hle_) ((m967.up (le1035.t le1057)).up hle_) ((m726.up (le729.t (le955.t (le968.t (le1035.t le1057))))).up hle_) g_ hS_⟩) g1062 hS) ?_)
      rintro _ w14 ⟨μ9,rfl,le1063,hS⟩
      refine po (st (wnil (xl ?_)))
      replace hS:=hS.drop Rm.z
      exact ⟨_,_,rfl,(aK20 (aK10 (aK9 (aO9 (aI aZ))))),_,_,rfl,h,(le1057.t le1063),hS⟩
     ·replace h:=iF h1054 h
      refine sn rfl rfl (sn rfl rfl (sn rfl rfl (sn rfl rfl (sn rfl rfl (st (wnil (xl ?_)))))))
      replace hS:=hS.drop Rm.z
      exact ⟨_,_,rfl,(aK20 (aK10 (aK9 (aO9 (aI aZ))))),_,false,rfl,h,Le.r,hS⟩
    ·rintro _ t w15 ⟨μ10,b1053,rfl,h,le1064,hS⟩
     unfold vf_owned_j1 at h
     refine nrm (mK20 (mK10 (mK9 (mO9 (mi mz))))) (xn ?_)
     refine cifb (et (k40 d8)) (fun h1065=>?_) (fun h1065=>?_)
     ·replace h:=iT h1065 h
      refine creg (st ?_)
      obtain ⟨i1066,g1067,h⟩:=bI h
      refine wl (su (u_addc (et (k40 d9)) ec g1067) (dt (q50 p0)) (st (wnil ?_)))
      refine (fun h=>bn (xn h)) ?_
      refine creg ?_
      obtain ⟨i1068,g1069,h⟩:=bI h
      refine wl (su (u_addc (et (k30 d4)) ec g1069) (dt (q50 p1)) (st (wnil (xl ?_))))
      exact ⟨n_3,_,_,rfl,(aK6 (aI (aO2 (aK20 (aK5 (aI (aO10 (aO7 aZ)))))))),⟨_,i1066,i1068,rfl,h,(le1035.t le1064),hS⟩,Nat.lt_succ_self _⟩
     ·replace h:=iF h1065 h
      refine cskip ?_
      refine (fun h=>bn (xn h)) ?_
      refine creg ?_
      obtain ⟨i1070,g1071,h⟩:=bI h
      refine wl (su (u_addc (et (k30 d4)) ec g1071) (dt (q50 p1)) (st (wnil (xl ?_))))
      exact ⟨n_3,_,_,rfl,(aK6 (aI (aO2 (aK20 (aK5 (aI (aO10 (aO7 aZ)))))))),⟨_,i1001,i1070,rfl,h,(le1035.t le1064),hS⟩,Nat.lt_succ_self _⟩
   ·replace h:=iF h1036 h
    refine cexit ?_
    refine (fun h=>xe (xe (bh h))) ?_
    refine xn (nz ?_)
    iterate 2 refine st ?_
    refine nw ?_
    refine cifd (et (k50 d3)) (xT h) fun h1072=>?_
    replace h:=iF h1072 h
    refine cskip ?_
    refine (fun h=>bn (xn h)) ?_
    refine creg ?_
    obtain ⟨i1073,g1074,h⟩:=bI h
    refine wl (su (u_addc (et (k20 d2)) ec g1074) (dt (q50 p6)) (st (wnil (xl ?_))))
    exact ⟨n_2,_,_,rfl,(aK5 (aO4 (aK10 (aK3 (aI (aO20 (aO10 (aO4 aZ)))))))),⟨_,i1073,rfl,h,(le955.t (le968.t le1035)),hS⟩,Nat.lt_succ_self _⟩
  ·replace h:=iF h956 h
   refine cexit ?_
   refine (fun h=>xe (xe (bh h))) ?_
   refine (fun h=>bn (xn h)) ?_
   refine creg ?_
   obtain ⟨i1075,g1076,h⟩:=bI h
   refine wl (su (u_addc (et (k10 d7)) ec g1076) (dt (q50 p7)) (st (wnil (xl ?_))))
   exact ⟨n_1,_,_,rfl,(aK3 (aO1 (aK1 (aO4 (aK8 (aI (aO20 (aO20 aZ)))))))),⟨_,i1075,rfl,h,(le720.t (le727.t (le729.t le955))),hS⟩,Nat.lt_succ_self _⟩
 ·replace h:=iF h721 h
  refine cexit ?_
  refine (fun h=>xe (xe (bh h))) ?_
  refine xn (nz (wl (s_build ti51 pl51 Fl.z (dt (q50 p8)) (wl (s_storeA ti51 (et d2) (et (k50 d8)) rfl rfl hS d0 rfl p0 dn ?_)))))
  clear hS; intro w16 hS
  refine nw (cret ?_)
  obtain rfl:=oI h
  refine retN rfl (RVs.s (.a d2 ti51 (hS.blk d0).cells rfl) RVs.z) ?_
  replace hS:=hS.drop Rm.z
  exact ⟨_,rfl,(le24.t le720),hS⟩
theorem vf_verify_w (hg:Le Gm μ0) {p_1:TModule} {r:TWhere} (m3:Sl μ0 a1 c2 p_1.Boxes) (m6:Sl μ0 a4 c5 p_1.Units) (h:vf_verify fu p_1=some r) (hS:Sq μ0 w0 w (rsF)):CallsV prog 23 [.agg ⟨[.slice a1 p_1.Boxes.length c2,.slice a4 p_1.Units.length c5]⟩] w (fun v w'=>∃ (μ':M) ,v=.agg ⟨[.int .i64 r.Err,.int .i64 r.Unit,.int .i64 r.At]⟩∧Le μ0 μ'∧Sq μ' w0 w' (rsF)):=by
 unfold vf_verify at h
 refine enter func23 rfl (frm:=_::u10 (u20 [])) rfl (nz ?_)
 refine wl (s_box (et d0) rfl hS ?_); clear hS; intro b7 w1 hb8 hS; refine po ?_
 refine wl (s_alloc ti51 hS ?_); clear hS; intro b9 w2 hb10 hS; refine po ?_
 refine nx (wl (s_build ti107 pl107 (Fl.o rfl (et d1) rfl rfl p0 Fl.z) (dt p7) ?_))
 refine wl (s_box (et d7) rfl hS ?_); clear hS; intro b11 w3 hb12 hS; refine po ?_
 refine st (ny (nz (st ?_)))
 replace hS:=hS.bg Y2
 obtain ⟨μ1,le14,m13,hS⟩:=Sep.frzAt hS
 obtain ⟨μ2,le16,m15,hS⟩:=Sep.frzAt hS
 obtain ⟨r17,g18,h⟩:=bI h
 refine ca (vf_form_w (p_1:=(TVc.mk (some p_1))) (hg.t (le14.t le16)) (Np.of (α:=TModule) (m13.up le16) (TModule.i ⟨a1,c2,a4,c5,rfl,(m3.up (le14.t le16)),(m6.up (le14.t le16))⟩)) m15 g18 hS) ?_
 rintro _ w4 ⟨μ3,rfl,le19,hS⟩
 refine po ?_
 refine wl (s_alloc ti51 hS ?_); clear hS; intro b20 w5 hb21 hS; refine po ?_
 refine wl (s_storeA ti51 (et d4) (et (k10 d0)) rfl rfl hS d0 rfl p0 dn ?_)
 clear hS; intro w6 hS
 refine nx (st (ld ((hS.blk d0).cell d0) (st (nw ?_))))
 refine cifd (et (k10 d3)) (xT h) fun h22=>?_
 replace h:=iF h22 h
 refine cskip (xn (cseq (nz (st (ld ((m13 _ ((le16.t le19) _ hS.a)).one d1) (wl (su (u_lensl underlying35 (et (k10 d6))) (dt (q10 p7)) (st (nw (cblock ?_))))))))))
 replace hS:=hS.drop Rm.z
 refine cloopE (rg 5 2++rg 19 10) (by decide) (fun n m w=>∃ μx i30,m=(yK5 (yO2 5 (yK10 (yK1 (.i (.int .i64 i30)::(yO10 19 []))))))∧vf_verify_l1 fu p_1 n i30=some r∧Le μ3 μx∧Sq μx w0 w (.blk b9 51 [.int .i64 0,.int .i64 0,.int .i64 0]::rsF)) (by rintro _ _ _ ⟨_,_,rfl,_⟩; rfl) _ _ (aK5 (aO2 (aK10 (aK1 (aI (aO10 aZ)))))) ⟨_,0,rfl,h,Le.r,hS⟩ ?_
 rintro n_1 _ t w7 ⟨μ4,i30,rfl,h,le38,hS⟩
 cases n_1 with
 | zero=>cases h
 | succ n_1 =>
 unfold vf_verify_l1 at h
 refine cnrm (mK5 (mO2 (mK10 (mK1 (mi (mO10 mz)))))) (nz (st (ny ?_)))
 refine cifd (et (k10 d9)) (fun h39=>?_) (fun h39=>?_)
 ·replace h:=iT h39 h
  refine cskip (xn (cseq (cblock (nz ?_))))
  iterate 2 refine st ?_
  refine nx ?_
  iterate 2 refine st ?_
  obtain ⟨r40,g41,h⟩:=bI h
  refine ca (vf_code_w (p_1:=(TVc.mk (some p_1))) (hg.t (le14.t (le16.t (le19.t le38)))) (Np.of (α:=TModule) (m13.up (le16.t (le19.t le38))) (TModule.i ⟨a1,c2,a4,c5,rfl,(m3.up (le14.t (le16.t (le19.t le38)))),(m6.up (le14.t (le16.t (le19.t le38))))⟩)) (m15.up (le19.t le38)) g41 hS) ?_
  rintro _ w8 ⟨μ5,rfl,le42,hS⟩
  refine po ?_
  refine wl (s_alloc ti51 hS ?_); clear hS; intro b43 w9 hb44 hS; refine po ?_
  refine wl (s_storeA ti51 (et d6) (et (k20 d3)) rfl rfl hS d0 rfl p0 dn ?_)
  clear hS; intro w10 hS
  refine nx (st (ld ((hS.blk d0).cell d0) (st (nw ?_))))
  refine cifd (et (k20 d6)) (xT h) fun h45=>?_
  replace h:=iF h45 h
  refine cskip ?_
  refine (fun h=>bn (xn h)) ?_
  refine creg ?_
  obtain ⟨i46,g47,h⟩:=bI h
  refine wl (su (u_addc (et (k10 d8)) ec g47) (dt (q20 p8)) (st (wnil (xl ?_))))
  replace hS:=hS.drop Rm.z
  exact ⟨n_1,_,_,rfl,(aK5 (aO2 (aK10 (aK1 (aI (aO10 aZ)))))),⟨_,i46,rfl,h,(le38.t le42),hS⟩,Nat.lt_succ_self _⟩
 ·replace h:=iF h39 h
  refine cexit ?_
  refine (fun h=>xe (xe (bh h))) ?_
  refine xn (nz (st ?_))
  obtain ⟨r48,g49,h⟩:=bI h
  refine ca (vf_owned_w (p_1:=(TVc.mk (some p_1))) (hg.t (le14.t (le16.t (le19.t le38)))) (Np.of (α:=TModule) (m13.up (le16.t (le19.t le38))) (TModule.i ⟨a1,c2,a4,c5,rfl,(m3.up (le14.t (le16.t (le19.t le38)))),(m6.up (le14.t (le16.t (le19.t le38))))⟩)) (m15.up (le19.t le38)) g49 hS) ?_
  rintro _ w11 ⟨μ6,rfl,le50,hS⟩
  refine po (wl (s_storeA ti51 (et d2) (et (k30 d0)) rfl rfl hS d0 rfl p0 dn ?_))
  clear hS; intro w12 hS
  refine nw (cret ?_)
  obtain rfl:=oI h
  refine retN rfl (RVs.s (.a d2 ti51 (hS.blk d0).cells rfl) RVs.z) ?_
  replace hS:=hS.drop Rm.z
  exact ⟨_,rfl,(le14.t (le16.t (le19.t (le38.t le50)))),hS⟩
end Go.Proofs.YtaenlbapejigbaaGreatDoor
set_option maxRecDepth 100000
set_option maxHeartbeats 20000000
namespace Go.Proofs.YtaenlbapejigbaaGreatDoor
open Go.Wk Go.Xt Go.Y Tryz
variable {b1 c4 c7 o2:Nat} {a3 a6:Option Addr} {v2 v3 v4 v5 v6 v7 v8 v9:Value} {cs4:List Value} {μ0:M} {w0 w:World} {rsF:List Res}
theorem st_new_w (hg:Le Gm μ0) {p_1 p_2:Int} {r:List Int×Int×Int×Int}  (h:st_new p_1 p_2=some r) (hS:Sq μ0 w0 w (rsF)):CallsV prog 86 [.int .i64 p_1,.int .i64 p_2] w (fun v w'=>∃ (μ':M) (b1:Nat) (v2:Value) (cs3:List Value),v=.pointer (some ⟨b1,0,none⟩)∧Le μ0 μ'∧Sq μ' w0 w' (.blk b1 181 [v2,.int .i64 r.2.1,.int .i64 r.2.2.1,.int .i64 r.2.2.2]::.row v2 2 1 r.1.length cs3::rsF)∧Rw μ' cs3 r.1):=by
 unfold st_new at h
 refine enter func86 rfl (frm:=_::_::u2 (u2 (u5 []))) rfl (nz (st (nx (st ?_))))
 obtain ⟨k5,g6,h⟩:=bI h
 have m8:Rw μ0 (List.replicate k5 (.int .i64 0)) ((List.replicate k5 (0:Int)):List Int):=rw_rep (α:=Int) (by intro; exact rfl) k5
 refine wl (s_mkslice underlying22 ti2 (by decide) (et d5) (et d5) g6 hS ?_); clear hS; intro b7 w1 hS; refine po ?_
 replace hS:Sq μ0 w0 w1 (.row (.slice (some ⟨b7,0,none⟩) k5 k5) 2 1 (List.replicate k5 (0:Int)).length (List.replicate k5 (.int .i64 0))::rsF):=by rw [List.length_replicate]; exact hS
 iterate 2 refine st ?_
 refine wl (s_build ti181 pl181 (Fl.o rfl (et d6) rfl rfl p0 (Fl.o rfl (et d7) rfl rfl p2 (Fl.o rfl (et d8) rfl rfl p3 Fl.z))) (dt p9) ?_)
 refine wl (s_box (et d9) rfl hS ?_); clear hS; intro b9 w2 hb10 hS; refine po ?_
 refine st (nw (cret ?_))
 obtain rfl:=oI h
 refine ret1 rfl d4 ?_
 exact ⟨_,_,(.slice (some ⟨b7,0,none⟩) k5 k5),((List.replicate k5 (.int .i64 0)):List Value),rfl,Le.r,hS,m8⟩
theorem st_live_w (hg:Le Gm μ0) {live_3 r:Int}  (h:st_live live_3=some r) (hS:Sq μ0 w0 w (.blk b1 181 [v2,.int .i64 live_3,v4,v5]::rsF)):CallsV prog 88 [.pointer (some ⟨b1,0,none⟩)] w (fun v w'=>∃ (μ':M) ,v=.int .i64 r∧Le μ0 μ'∧Sq μ' w0 w' (.blk b1 181 [v2,.int .i64 live_3,v4,v5]::rsF)):=by
 unfold st_live at h
 refine enter func88 rfl (frm:=_::u1 (u5 [])) rfl (nz (st (nx ?_)))
 iterate 3 refine st ?_
 refine ld ((hS.blk d0).cell d1) (st (nw (cret ?_)))
 obtain rfl:=oI h
 refine ret1 rfl d2 ?_
 exact ⟨_,rfl,Le.r,hS⟩
theorem st_sized_w (hg:Le Gm μ0) {l_2:List Int} {live_6 min_7 most_8 p_2:Int} {r:List Int×Int×Int×Int} (m5:Rw μ0 cs4 l_2) (h:st_sized l_2 live_6 min_7 most_8 p_2=some r) (hS:Sq μ0 w0 w (.blk b1 181 [v3,.int .i64 live_6,.int .i64 min_7,.int .i64 most_8]::.row v3 2 1 l_2.length cs4::rsF)):CallsV prog 125 [.pointer (some ⟨b1,0,none⟩),.int .i64 p_2] w (fun v w'=>∃ (μ':M) (v9:Value) (cs10:List Value),v=.tuple ⟨[]⟩∧Le μ0 μ'∧Sq μ' w0 w' (.blk b1 181 [v9,.int .i64 r.2.1,.int .i64 r.2.2.1,.int .i64 r.2.2.2]::.row v9 2 1 r.1.length cs10::rsF)∧Rw μ' cs10 r.1):=by
 unfold st_sized at h
 refine enter func125 rfl (frm:=_::_::u20 []) rfl (nz (st ?_))
 obtain ⟨k12,g13,h⟩:=bI h
 have m15:Rw μ0 (List.replicate k12 (.int .i64 0)) ((List.replicate k12 (0:Int)):List Int):=rw_rep (α:=Int) (by intro; exact rfl) k12
 refine wl (s_mkslice underlying22 ti2 (by decide) (et d5) (et d5) g13 hS ?_); clear hS; intro b14 w1 hS; refine po ?_
 replace hS:Sq μ0 w0 w1 (.row (.slice (some ⟨b14,0,none⟩) k12 k12) 2 1 (List.replicate k12 (0:Int)).length (List.replicate k12 (.int .i64 0))::.blk b1 181 [v3,.int .i64 live_6,.int .i64 min_7,.int .i64 most_8]::.row v3 2 1 l_2.length cs4::rsF):=by rw [List.length_replicate]; exact hS
 refine st (ny ?_)
 refine cdw hS ?_; clear hS; intro w2 hS
 refine cpi 0 rfl (cpi 1 rfl (cpi 2 rfl (cpi 3 rfl (cpi 5 rfl (cpi 6 rfl (cpi 7 rfl (cr 4 [4,9,10] rfl (u_load ti22 (et (k10 d0)) ((hS.blk d1).cell d0)) (q10 p1) (cr 8 [8,9,10] rfl (u_load ti3 (et (k10 d4)) ((hS.blk d1).cell d1)) (q10 p5) ?_))))))))
 replace hS:=hS.bg Y2
 obtain ⟨μ1,a16,c17,e20,le19,m18,hq_⟩:=Sep.frzRow hS m5 rfl; clear hS
 subst e20; have hS:=hq_; clear hq_
 obtain ⟨l21,g22,h⟩:=bI h
 obtain ⟨a23,c24,e25,m26⟩:=Sl.slc (i:=none) (j:=some live_6) m18 g22
 refine cp 9 rfl (u_slc underlying22 ti2 (et (k10 d1)) .n (.s (et (k10 d5))) e25) (q10 p6) ?_
 obtain ⟨cs27,m28,m29⟩:=Sl.cells m26
 have m30:=rw_cpy (α:=Int) rfl (m15.up le19) m28
 refine sc1 rfl rfl rfl (s_copy (α:=Int) rfl underlying22 ti2 (et d7) (et (k10 d6)) hS d0 (m15.up le19) m28 m29 ?_); clear hS; intro i31 w3 rs_ hp_ hS; cases (show _=rs_ from hp_)
 replace hS:=Sep.reput hS p0; refine po ?_
 replace hS:Sq μ1 w0 w3 (.row (.slice (some ⟨b14,0,none⟩) k12 k12) 2 1 (cpy (List.replicate k12 (0:Int)) l21).length (cs27.take (List.replicate k12 (0:Int)).length++(List.replicate k12 (.int .i64 0)).drop l21.length)::.blk b1 181 [.slice a16 l_2.length c17,.int .i64 live_6,.int .i64 min_7,.int .i64 most_8]::rsF):=by rw [cpy_len]; exact hS
 refine nu (creg ?_)
 iterate 4 refine st ?_
 refine wl (s_store1 ti22 (et (k20 d1)) (et (k10 d9)) rfl hS d1 p0 rfl p1 dn ?_)
 clear hS; intro w4 hS
 refine wnil ?_
 obtain rfl:=oI h
 refine end0 rfl ?_
 replace hS:=hS.bg Y1
 exact ⟨_,(.slice (some ⟨b14,0,none⟩) k12 k12),((cs27.take (List.replicate k12 (0:Int)).length++(List.replicate k12 (.int .i64 0)).drop l21.length):List Value),rfl,le19,hS,m30⟩
theorem st_push_w (hg:Le Gm μ0) {l_2:List Int} {live_6 min_7 most_8 p_2:Int} {r:Bool×List Int×Int×Int×Int} (m5:Rw μ0 cs4 l_2) (h:st_push l_2 live_6 min_7 most_8 p_2=some r) (hS:Sq μ0 w0 w (.blk b1 181 [v3,.int .i64 live_6,.int .i64 min_7,.int .i64 most_8]::.row v3 2 1 l_2.length cs4::rsF)):CallsV prog 87 [.pointer (some ⟨b1,0,none⟩),.int .i64 p_2] w (fun v w'=>∃ (μ':M) (v9:Value) (cs10:List Value),v=.bool r.1∧Le μ0 μ'∧Sq μ' w0 w' (.blk b1 181 [v9,.int .i64 r.2.2.1,.int .i64 r.2.2.2.1,.int .i64 r.2.2.2.2]::.row v9 2 1 r.2.1.length cs10::rsF)∧Rw μ' cs10 r.2.1):=by
 unfold st_push at h
 refine enter func87 rfl (frm:=_::_::u2 (u50 [])) rfl (nz (st (ny (cseq ?_))))
 refine cdw hS ?_; clear hS; intro w1 hS
 refine sf_start (fpi 0 [0,1,2,3,8] rfl (fpi 1 [1,2,3,8] rfl (fpi 2 [2,3,8] rfl (fr_ 3 [3,8] rfl (u_load ti3 (et d7) ((hS.blk d0).cell d1)) p8 (fpi 4 [4,5,6,7,8] rfl (fpi 5 [5,6,7,8] rfl (fpi 6 [6,7,8] rfl (fr_ 7 [7,8] rfl (u_load ti3 (et (k10 d1)) ((hS.blk d0).cell d3)) (q10 p2) (fpi 8 [8] rfl (sf_nil (xn ?_)))))))))))
 refine cifd (et (k10 d3)) (xT h) fun h12=>?_
 replace h:=iF h12 h
 refine cskip (xn (cseq (cseq ?_)))
 refine ccutE (rg 14 9) (by decide) (fun m w=>∃ (μx:M) ,m=(yK10 (yK4 (yO9 14 (.i (.bool (decide (live_6=(l_2.length:Int))))::[]))))∧st_push_j1 l_2 p_2 live_6 min_7 most_8 =some r∧Le μ0 μx∧Sq μx w0 w (.blk b1 181 [v3,.int .i64 live_6,.int .i64 min_7,.int .i64 most_8]::.row v3 2 1 l_2.length cs4::rsF)) (by rintro _ _ ⟨_,rfl,_⟩; rfl) ?_ ?_
 ·refine cdw hS ?_; clear hS; intro w2 hS
  refine sf_start (fpi 0 [0,1,2,3,9] rfl (fpi 1 [1,2,3,9] rfl (fpi 2 [2,3,9] rfl (fr_ 3 [3,9] rfl (u_load ti3 (et (k10 d6)) ((hS.blk d0).cell d1)) (q10 p7) (fpi 4 [4,5,6,7,8,9] rfl (fpi 5 [5,6,7,8,9] rfl (fpi 6 [6,7,8,9] rfl (fr_ 7 [7,8,9] rfl (u_load ti22 (et (k20 d0)) ((hS.blk d0).cell d0)) (q20 p1) (sf1 rfl rfl rfl rfl (wn0 rfl) (su (u_lenv underlying22 (et (k20 d1)) (hS.get d1).isSl) (dt (q20 p2)) ?_))))))))))
  refine ⟨(Mons.s (u_load ti3 (et (k10 d6)) ((hS.blk d0).cell d1)) Mons.z),?_⟩
  refine fpi 9 [9] rfl (sf_nil (xl ?_))
  exact ⟨_,_,rfl,(aK10 (aK4 (aO9 (aI aZ)))),_,rfl,h,Le.r,hS⟩
 ·rintro _ t w3 ⟨μ1,rfl,h,le13,hS⟩
  unfold st_push_j1 at h
  refine nrm (mK10 (mK4 (mO9 (mi mz)))) (xn ?_)
  refine ccutE (rg 24 13) (by decide) (fun m w=>∃ μx i14 i15 i16 l19 v17 cs18,m=(yK20 (yK4 (yO10 24 (yO3 34 []))))∧st_push_j2 p_2 i14 i15 i16 l19=some r∧Le μ1 μx∧Sq μx w0 w (.blk b1 181 [v17,.int .i64 i14,.int .i64 i15,.int .i64 i16]::.row v17 2 1 l19.length cs18::rsF)∧Rw μx cs18 l19) (by rintro _ _ ⟨_,_,_,_,_,_,_,rfl,_⟩; rfl) ?_ ?_
  ·refine cifd (et (k20 d3)) (fun h21=>?_) (fun h21=>?_)
   ·replace h:=iT h21 h
    refine ccutE (rg 24 13) (by decide) (fun m w=>∃ μx i22 i23 i24 l27 v25 cs26,m=(yK20 (yK4 (yO10 24 (yO3 34 []))))∧st_push_j3 p_2 i22 i23 i24 l27=some r∧Le μ1 μx∧Sq μx w0 w (.blk b1 181 [v25,.int .i64 i22,.int .i64 i23,.int .i64 i24]::.row v25 2 1 l27.length cs26::rsF)∧Rw μx cs26 l27) (by rintro _ _ ⟨_,_,_,_,_,_,_,rfl,_⟩; rfl) ?_ ?_
    ·refine cdw hS ?_; clear hS; intro w4 hS
     refine sf_start (fpi 0 [0,12] rfl (fpi 1 [1,2,3,4,5,6,11,12] rfl (fpi 2 [2,3,4,5,6,11,12] rfl (fpi 3 [3,4,5,6,11,12] rfl (fr_ 4 [4,5,6,11,12] rfl (u_load ti22 (et (k20 d7)) ((hS.blk d0).cell d0)) (q20 p8) (fpi 7 [7,8,9,10,11,12] rfl (fpi 8 [8,9,10,11,12] rfl (fpi 9 [9,10,11,12] rfl (fr_ 10 [10,11,12] rfl (u_load ti3 (et (k30 d3)) ((hS.blk d0).cell d3)) (q30 p4) (sf1 rfl rfl rfl rfl (wn0 rfl) (su (u_lenv underlying22 (et (k20 d8)) (hS.get d1).isSl) (dt (q20 p9)) ?_)))))))))))
     refine ⟨(Mons.s (u_load ti3 (et (k30 d3)) ((hS.blk d0).cell d3)) Mons.z),?_⟩
     obtain ⟨i29,g30,h⟩:=bI h
     refine fp 6 [6,11,12] rfl (u_mulc ec (et (k20 d9)) g30) (q30 p0) (sf1 rfl rfl rfl rfl (wn0 rfl) (su (u_mini underlying3 (et (k30 d0)) (et (k30 d4))) (dt (q30 p5)) ?_))
     refine ⟨Mons.z,?_⟩
     obtain ⟨r31,g32,h⟩:=bI h
     replace hS:=(hS.bg Y1).bg Y1
     refine sf1 rfl rfl rfl rfl (wn0 rfl) (s_callv isfn125 ef (e1 (et (k20 d4)) (e1 (et (k30 d5)) e0)) (st_sized_w (hg.t le13) (m5.up le13) g32 hS) ?_)
     rintro _ w5 ⟨μ2,v34,cs35,rfl,le33,hS,m36⟩
     refine po ?_
     refine ⟨Mons.z,?_⟩
     refine sf_nil (xl ?_)
     exact ⟨_,_,rfl,(aK20 (aK4 (aO10 (aO3 aZ)))),_,r31.2.1,r31.2.2.1,r31.2.2.2,r31.1,_,_,rfl,h,le33,hS,m36⟩
    ·rintro _ t w6 ⟨μ3,i22,i23,i24,l27,v25,cs26,rfl,h,le37,hS,m38⟩
     unfold st_push_j3 at h
     refine nrm (mK20 (mK4 (mO10 (mO3 mz)))) (xl ?_)
     exact ⟨_,_,rfl,(aK20 (aK4 (aO10 (aO3 aZ)))),_,_,_,_,_,_,_,rfl,h,le37,hS,m38⟩
   ·replace h:=iF h21 h
    refine cskip (xl ?_)
    exact ⟨_,_,rfl,(aK20 (aK4 (aO10 (aO3 aZ)))),_,live_6,min_7,most_8,l_2,_,_,rfl,h,Le.r,hS,(m5.up le13)⟩
  ·rintro _ t w7 ⟨μ4,i14,i15,i16,l19,v17,cs18,rfl,h,le39,hS,m40⟩
   unfold st_push_j2 at h
   refine nrm (mK20 (mK4 (mO10 (mO3 mz)))) (xn (cseq ?_))
   refine cdw hS ?_; clear hS; intro w8 hS
   refine sf_start (fpi 0 [0,1,2,3,9,10] rfl (fpi 1 [1,2,3,9,10] rfl (fpi 2 [2,3,9,10] rfl (fr_ 3 [3,9,10] rfl (u_load ti22 (et (k30 d9)) ((hS.blk d0).cell d0)) (q40 p0) (fpi 4 [4,5,6,7,9,10] rfl (fpi 5 [5,6,7,9,10] rfl (fpi 6 [6,7,9,10] rfl (fr_ 7 [7,9,10] rfl (u_load ti3 (et (k40 d3)) ((hS.blk d0).cell d1)) (q40 p4) (fpi 8 [8,9,10] rfl ?_)))))))))
   obtain ⟨x41,g42,h⟩:=bI h
   obtain ⟨b43,o44,pc45,cs46,sc47,ec48,e49,f50,m51,pn52,st53,m54⟩:=Row.elemS (α:=Int) (hS.get d1) m40 rfl g42
   rw [ec48] at hS
   obtain rfl:=m51
   refine fp 9 [9,10] rfl (u_iax underlying22 ti2 (et (k40 d0)) (et (k40 d4)) e49) (q40 p6) ?_
   have m55:=st53 _ [.int .i64 p_2] p_2 Le.r rfl
   refine sf1 rfl rfl rfl rfl (wn0 rfl) (s_storeR (off:=0) ti2 (et (k40 d6)) (et (k40 d5)) rfl rfl rfl hS d1 e49 (Nat.le_of_ble_eq_true rfl) (open_store pn52 rfl (Nat.le_of_ble_eq_true rfl)) p1 dn ?_); clear hS; intro w9 hS
   replace hS:Sq μ4 w0 w9 (.blk b1 181 [v17,.int .i64 i14,.int .i64 i15,.int .i64 i16]::.row v17 2 1 (l19.set i14.toNat p_2).length (pc45++([.int .i64 p_2]++sc47))::rsF):=by rw [List.length_set]; exact hS
   refine ⟨Mons.z,?_⟩
   refine sf_nil (xn (nz ?_))
   iterate 3 refine st ?_
   refine ld ((hS.blk d0).cell d1) ?_
   obtain ⟨i56,g57,h⟩:=bI h
   refine wl (su (u_addc (et (k50 d0)) ec g57) (dt (q50 p1)) ?_)
   iterate 2 refine st ?_
   refine wl (s_store1 ti3 (et (k50 d3)) (et (k50 d1)) rfl hS d0 p1 rfl p0 dn ?_)
   clear hS; intro w10 hS
   refine nx (st (nw (cret ?_)))
   obtain rfl:=oI h
   refine ret1 rfl d4 ?_
   exact ⟨_,_,((pc45++([.int .i64 p_2]++sc47)):List Value),rfl,(le13.t le39),hS,m55⟩
theorem st_pop_w (hg:Le Gm μ0) {l_2:List Int} {live_6 min_7 most_8 p_2:Int} {r:List Int×Int×Int×Int} (m5:Rw μ0 cs4 l_2) (h:st_pop l_2 live_6 min_7 most_8 p_2=some r) (hS:Sq μ0 w0 w (.blk b1 181 [v3,.int .i64 live_6,.int .i64 min_7,.int .i64 most_8]::.row v3 2 1 l_2.length cs4::rsF)):CallsV prog 89 [.pointer (some ⟨b1,0,none⟩),.int .i64 p_2] w (fun v w'=>∃ (μ':M) (v9:Value) (cs10:List Value),v=.tuple ⟨[]⟩∧Le μ0 μ'∧Sq μ' w0 w' (.blk b1 181 [v9,.int .i64 r.2.1,.int .i64 r.2.2.1,.int .i64 r.2.2.2]::.row v9 2 1 r.1.length cs10::rsF)∧Rw μ' cs10 r.1):=by
 unfold st_pop at h
 refine enter func89 rfl (frm:=_::_::u1 (u5 (u20 (u20 [])))) rfl (nz ?_)
 iterate 3 refine st ?_
 refine ld ((hS.blk d0).cell d1) (st ?_)
 obtain ⟨i12,g13,h⟩:=bI h
 refine wl (su (u_subc (et d7) (et d8) g13) (dt p9) ?_)
 iterate 2 refine st ?_
 refine wl (s_store1 ti3 (et (k10 d1)) (et d9) rfl hS d0 p1 rfl p0 dn ?_)
 clear hS; intro w1 hS
 refine ny ?_
 refine ccutE (rg 12 22) (by decide +kernel) (fun m w=>∃ μx b14,m=(yK10 (yK2 (yO20 12 (yO2 32 (.i (.bool b14)::[])))))∧st_pop_j1 l_2 min_7 most_8 i12 b14=some r∧Le μ0 μx∧Sq μx w0 w (.blk b1 181 [v3,.int .i64 i12,.int .i64 min_7,.int .i64 most_8]::.row v3 2 1 l_2.length cs4::rsF)) (by rintro _ _ ⟨_,_,rfl,_⟩; rfl) ?_ ?_
 ·refine cdw hS ?_; clear hS; intro w2 hS
  refine sf_start (fpi 0 [0,1,2,3,10,11,12,13,14,15,16,17,18,19,20,21,22] rfl (fpi 1 [1,2,3,10,11,12,13,14,15,16,17,18,19,20,21,22] rfl (fpi 2 [2,3,10,11,12,13,14,15,16,17,18,19,20,21,22] rfl (fr_ 3 [3,10,11,12,13,14,15,16,17,18,19,20,21,22] rfl (u_load ti3 (et (k10 d4)) ((hS.blk d0).cell d1)) (q10 p5) (fpi 4 [4,5,6,7,8,9,10,11,12,13,14,15,16,17,18,19,20,21,22] rfl (fpi 5 [5,6,7,8,9,10,11,12,13,14,15,16,17,18,19,20,21,22] rfl (fpi 6 [6,7,8,9,10,11,12,13,14,15,16,17,18,19,20,21,22] rfl (fr_ 7 [7,8,9,10,11,12,13,14,15,16,17,18,19,20,21,22] rfl (u_load ti22 (et (k10 d8)) ((hS.blk d0).cell d0)) (q10 p9) (sf1 rfl rfl rfl rfl (wn0 rfl) (su (u_lenv underlying22 (et (k10 d9)) (hS.get d1).isSl) (dt (q20 p0)) ?_))))))))))
  refine ⟨(Mons.s (u_load ti3 (et (k10 d4)) ((hS.blk d0).cell d1)) Mons.z),?_⟩
  obtain ⟨i15,g16,h⟩:=bI h
  refine fp 9 [9,10,11,12,13,14,15,16,17,18,19,20,21,22] rfl (u_quo (et (k20 d0)) ec (quo_nz g16).1 (quo_nz g16).2) (q20 p1) (fpi 10 [10,11,12,13,14,15,16,17,18,19,20,21,22] rfl (fpi 11 [11,12,13,14,15,16,17,18,19,20,21,22] rfl ?_))
  refine sfsd (k20 d3) (q20 p3) (q20 p3) (fun h17=>?_) (fun h17=>?_)
  ·replace h:=iT h17 h
   refine fpY 12 [12,13,14,15,16,21,22] rfl rfl (k20 d3) (u_move (et d0)) (q20 p4) (fpY 13 [13,14,15,16,21,22] rfl rfl (k20 d3) (u_nilck (et (k20 d4))) (q20 p5) (fpY 14 [14,15,16,21,22] rfl rfl (k20 d3) (u_fa fa181_0 (et (k20 d5)) rfl) (q20 p6) (fr_Y 15 [15,16,21,22] rfl rfl (k20 d3) (u_load ti22 (et (k20 d6)) ((hS.blk d0).cell d0)) (q20 p7) (fpY 17 [17,18,19,20,21,22] rfl rfl (k20 d3) (u_move (et d0)) (q20 p9) (fpY 18 [18,19,20,21,22] rfl rfl (k20 d3) (u_nilck (et (k20 d9))) (q30 p0) (fpY 19 [19,20,21,22] rfl rfl (k20 d3) (u_fa fa181_2 (et (k30 d0)) rfl) (q30 p1) (fr_Y 20 [20,21,22] rfl rfl (k20 d3) (u_load ti3 (et (k30 d1)) ((hS.blk d0).cell d2)) (q30 p2) (sf1 rfl rfl rfl rfl (wanted_t rfl rfl (k20 d3)) (su (u_lenv underlying22 (et (k20 d7)) (hS.get d1).isSl) (dt (q20 p8)) ?_)))))))))
   refine ⟨(Mons.s (u_load ti3 (et (k30 d1)) ((hS.blk d0).cell d2)) Mons.z),?_⟩
   refine fpY 21 [21,22] rfl rfl (k20 d3) (u_gtr (et (k20 d8)) (et (k30 d2))) (q30 p3) (fpi 22 [22] rfl (sf_nil (xl ?_)))
   exact ⟨_,_,rfl,(aK10 (aK2 (aO20 (aO2 (aI aZ))))),_,(decide (min_7<(l_2.length:Int))),rfl,h,Le.r,hS⟩
  ·replace h:=iF h17 h
   refine fpN 12 [12,13,14,15,16,21,22] rfl rfl (k20 d3) rfl (q20 p4) (fpN 13 [13,14,15,16,21,22] rfl rfl (k20 d3) rfl (q20 p5) (fpN 14 [14,15,16,21,22] rfl rfl (k20 d3) rfl (q20 p6) (fpN 15 [15,16,21,22] rfl rfl (k20 d3) rfl (q20 p7) (fpN 16 [16,21,22] rfl rfl (k20 d3) rfl (q20 p8) (fpN 17 [17,18,19,20,21,22] rfl rfl (k20 d3) rfl (q20 p9) (fpN 18 [18,19,20,21,22] rfl rfl (k20 d3) rfl (q30 p0) (fpN 19 [19,20,21,22] rfl rfl (k20 d3) rfl (q30 p1) (fpN 20 [20,21,22] rfl rfl (k20 d3) rfl (q30 p2) (fpN 21 [21,22] rfl rfl (k20 d3) rfl (q30 p3) (fpi 22 [22] rfl (sf_nil (xl ?_))))))))))))
   exact ⟨_,_,rfl,(aK10 (aK2 (aO20 (aO2 (aI aZ))))),_,false,rfl,h,Le.r,hS⟩
 ·rintro _ t w3 ⟨μ1,b14,rfl,h,le18,hS⟩
  unfold st_pop_j1 at h
  refine nrm (mK10 (mK2 (mO20 (mO2 (mi mz))))) (xn ?_)
  refine cifb (et (k30 d4)) (fun h19=>?_) (fun h19=>?_)
  ·replace h:=iT h19 h
   refine ccutE (rg 35 13) (by decide) (fun m w=>∃ μx i20 i21 i22 l25 v23 cs24,m=(yK20 (yK10 (yK5 (yO10 35 (yO3 45 [])))))∧st_pop_j2 i20 i21 i22 l25=some r∧Le μ1 μx∧Sq μx w0 w (.blk b1 181 [v23,.int .i64 i20,.int .i64 i21,.int .i64 i22]::.row v23 2 1 l25.length cs24::rsF)∧Rw μx cs24 l25) (by rintro _ _ ⟨_,_,_,_,_,_,_,rfl,_⟩; rfl) ?_ ?_
   ·refine cdw hS ?_; clear hS; intro w4 hS
    refine sf_start (fpi 0 [0,12] rfl (fpi 1 [1,2,3,4,5,6,11,12] rfl (fpi 2 [2,3,4,5,6,11,12] rfl (fpi 3 [3,4,5,6,11,12] rfl (fr_ 4 [4,5,6,11,12] rfl (u_load ti22 (et (k30 d8)) ((hS.blk d0).cell d0)) (q30 p9) (fpi 7 [7,8,9,10,11,12] rfl (fpi 8 [8,9,10,11,12] rfl (fpi 9 [9,10,11,12] rfl (fr_ 10 [10,11,12] rfl (u_load ti3 (et (k40 d4)) ((hS.blk d0).cell d2)) (q40 p5) (sf1 rfl rfl rfl rfl (wn0 rfl) (su (u_lenv underlying22 (et (k30 d9)) (hS.get d1).isSl) (dt (q40 p0)) ?_)))))))))))
    refine ⟨(Mons.s (u_load ti3 (et (k40 d4)) ((hS.blk d0).cell d2)) Mons.z),?_⟩
    obtain ⟨i27,g28,h⟩:=bI h
    refine fp 6 [6,11,12] rfl (u_quo (et (k40 d0)) ec (quo_nz g28).1 (quo_nz g28).2) (q40 p1) (sf1 rfl rfl rfl rfl (wn0 rfl) (su (u_maxi underlying3 (et (k40 d1)) (et (k40 d5))) (dt (q40 p6)) ?_))
    refine ⟨Mons.z,?_⟩
    obtain ⟨r29,g30,h⟩:=bI h
    replace hS:=(hS.bg Y1).bg Y1
    refine sf1 rfl rfl rfl rfl (wn0 rfl) (s_callv isfn125 ef (e1 (et (k30 d5)) (e1 (et (k40 d6)) e0)) (st_sized_w (hg.t le18) (m5.up le18) g30 hS) ?_)
    rintro _ w5 ⟨μ2,v32,cs33,rfl,le31,hS,m34⟩
    refine po ?_
    refine ⟨Mons.z,?_⟩
    refine sf_nil (xl ?_)
    exact ⟨_,_,rfl,(aK20 (aK10 (aK5 (aO10 (aO3 aZ))))),_,r29.2.1,r29.2.2.1,r29.2.2.2,r29.1,_,_,rfl,h,le31,hS,m34⟩
   ·rintro _ t w6 ⟨μ3,i20,i21,i22,l25,v23,cs24,rfl,h,le35,hS,m36⟩
    unfold st_pop_j2 at h
    refine nrm (mK20 (mK10 (mK5 (mO10 (mO3 mz))))) ?_
    obtain rfl:=oI h
    refine end0 rfl ?_
    exact ⟨_,_,_,rfl,(le18.t le35),hS,m36⟩
  ·replace h:=iF h19 h
   refine cskip ?_
   obtain rfl:=oI h
   refine end0 rfl ?_
   exact ⟨_,_,_,rfl,le18,hS,(m5.up le18)⟩
theorem vm_tell_w (hg:Le Gm μ0) {p_2 p_3 p_4:Int} {r:Unit}  (h:vm_tell p_2 p_3 p_4=some r) (hS:Sq μ0 w0 w (.blk b1 69 [v2,v3,v4,v5,v6,v7,v8,v9,.nilFunc]::rsF)):CallsV prog 50 [.pointer (some ⟨b1,0,none⟩),.int .i64 p_2,.int .i64 p_3,.int .i64 p_4] w (fun v w'=>∃ (μ':M) ,v=.tuple ⟨[]⟩∧Le μ0 μ'∧Sq μ' w0 w' (.blk b1 69 [v2,v3,v4,v5,v6,v7,v8,v9,.nilFunc]::rsF)):=by
 unfold vm_tell at h
 refine enter func50 rfl (frm:=_::_::_::_::u2 (u5 (u10 []))) rfl (nz ?_)
 iterate 3 refine st ?_
 refine ld ((hS.blk d0).cell d8) (wl (su (u_nilfneq underlying67 (et (k10 d1))) (dt (q10 p2)) (nw (ciff (et (k10 d2)) (cskip ?_)))))
 obtain rfl:=oI h
 refine end0 rfl ?_
 exact ⟨_,rfl,Le.r,hS⟩
theorem vm_truth_w (hg:Le Gm μ0) {p_1:Bool} {r:Int}  (h:vm_truth p_1=some r) (hS:Sq μ0 w0 w (rsF)):CallsV prog 90 [.bool p_1] w (fun v w'=>∃ (μ':M) ,v=.int .i64 r∧Le μ0 μ'∧Sq μ' w0 w' (rsF)):=by
 unfold vm_truth at h
 refine enter func90 rfl (frm:=_::u1 (u2 [])) rfl (nz (st (ny (nz (st (nw ?_))))))
 refine cifb (et d3) (fun h1=>?_) (fun h1=>?_)
 ·replace h:=iT h1 h
  refine nz (st (nw (cret (xr ?_))))
  obtain rfl:=oI h
  refine ret1 rfl d2 ?_
  exact ⟨_,rfl,Le.r,hS⟩
 ·replace h:=iF h1 h
  refine cskip (xn (nz (st (nw (cret ?_)))))
  obtain rfl:=oI h
  refine ret1 rfl d2 ?_
  exact ⟨_,rfl,Le.r,hS⟩
theorem vm_two_w (hg:Le Gm μ0) {p_1 p_2 p_3 r:Int}  (h:vm_two p_1 p_2 p_3=some r) (hS:Sq μ0 w0 w (rsF)):CallsV prog 49 [.int .i64 p_1,.int .i64 p_2,.int .i64 p_3] w (fun v w'=>∃ (μ':M) ,v=.int .i64 r∧Le μ0 μ'∧Sq μ' w0 w' (rsF)):=by
 unfold vm_two at h
 refine enter func49 rfl (frm:=_::_::_::u1 (u5 (u10 (u20 (u50 []))))) rfl (nz (st (ny (nz (st (nw (cblock (nz ?_))))))))
 iterate 2 refine st ?_
 refine nw ?_
 refine cifd (et d8) (fun h1=>?_) (fun h1=>?_)
 ·replace h:=iT h1 h
  refine nz ?_
  iterate 2 refine st ?_
  refine wl (su (u_add (et (k10 d0)) (et (k10 d1)) rfl) (dt (q10 p2)) (st (nw (cret ?_))))
  refine (fun h=>br (xr h)) ?_
  obtain rfl:=oI h
  refine ret1 rfl d6 ?_
  exact ⟨_,rfl,Le.r,hS⟩
 ·replace h:=iF h1 h
  refine nz ?_
  iterate 2 refine st ?_
  refine nw ?_
  refine cifd (et (k10 d3)) (fun h2=>?_) (fun h2=>?_)
  ·replace h:=iT h2 h
   refine nz ?_
   iterate 2 refine st ?_
   refine wl (su (u_sub (et (k10 d5)) (et (k10 d6)) rfl) (dt (q10 p7)) (st (nw (cret ?_))))
   refine (fun h=>br (xr h)) ?_
   obtain rfl:=oI h
   refine ret1 rfl d6 ?_
   exact ⟨_,rfl,Le.r,hS⟩
  ·replace h:=iF h2 h
   refine nz ?_
   iterate 2 refine st ?_
   refine nw ?_
   refine cifd (et (k10 d8)) (fun h3=>?_) (fun h3=>?_)
   ·replace h:=iT h3 h
    refine nz ?_
    iterate 2 refine st ?_
    refine wl (su (u_mul (et (k20 d0)) (et (k20 d1)) rfl) (dt (q20 p2)) (st (nw (cret ?_))))
    refine (fun h=>br (xr h)) ?_
    obtain rfl:=oI h
    refine ret1 rfl d6 ?_
    exact ⟨_,rfl,Le.r,hS⟩
   ·replace h:=iF h3 h
    refine cseq (nz ?_)
    iterate 2 refine st ?_
    refine nw ?_
    refine ccutE ([25]) (by decide) (fun m w=>∃ μx b4,m=(yK20 (yK3 (.i (.bool b4)::(yK1 (yO1 25 [])))))∧vm_two_j1 p_1 p_2 p_3 b4=some r∧Le μ0 μx∧Sq μx w0 w (rsF)) (by rintro _ _ ⟨_,_,rfl,_⟩; rfl) ?_ ?_
    ·refine cifd (et (k20 d3)) (fun h5=>?_) (fun h5=>?_)
     ·replace h:=iT h5 h
      refine cskip (xl ?_)
      exact ⟨_,_,rfl,(aK20 (aK3 (aI (aK1 (aO1 aZ))))),_,(decide (p_1=11)),rfl,h,Le.r,hS⟩
     ·replace h:=iF h5 h
      refine creg ?_
      iterate 2 refine st ?_
      refine wnil (xl ?_)
      exact ⟨_,_,rfl,(aK20 (aK3 (aI (aK1 (aO1 aZ))))),_,(decide (p_1=12)),rfl,h,Le.r,hS⟩
    ·rintro _ t w1 ⟨μ1,b4,rfl,h,le6,hS⟩
     unfold vm_two_j1 at h
     refine nrm (mK20 (mK3 (mi (mK1 (mO1 mz))))) (xn ?_)
     refine cifb (et (k20 d3)) (fun h7=>?_) (fun h7=>?_)
     ·replace h:=iT h7 h
      refine cseq (cseq ?_)
      refine ccutE (rg 26 5) (by decide) (fun m w=>∃ μx b8,m=(yK20 (yK6 (yO5 26 (.i (.bool b8)::[]))))∧vm_two_j2 p_1 p_2 p_3 b8=some r∧Le μ1 μx∧Sq μx w0 w (rsF)) (by rintro _ _ ⟨_,_,rfl,_⟩; rfl) ?_ ?_
      ·refine creg ?_
       iterate 3 refine st ?_
       refine wspd (k20 d8) (q20 p8) (q20 p8) (fun h9=>?_) (fun h9=>?_)
       ·replace h:=iT h9 h
        refine sy rfl (sy rfl (st (wnil (xl ?_))))
        exact ⟨_,_,rfl,(aK20 (aK6 (aO5 (aI aZ)))),_,(decide (p_3=(-1))),rfl,h,Le.r,hS⟩
       ·replace h:=iF h9 h
        refine sn rfl rfl (sn rfl rfl (st (wnil (xl ?_))))
        exact ⟨_,_,rfl,(aK20 (aK6 (aO5 (aI aZ)))),_,false,rfl,h,Le.r,hS⟩
      ·rintro _ t w2 ⟨μ2,b8,rfl,h,le10,hS⟩
       unfold vm_two_j2 at h
       refine nrm (mK20 (mK6 (mO5 (mi mz)))) (xn ?_)
       refine cifb (et (k30 d1)) (fun h11=>?_) (fun h11=>?_)
       ·replace h:=iT h11 h
        refine nz ?_
        iterate 2 refine st ?_
        obtain ⟨r12,g13,h⟩:=bI h
        refine ca (vm_truth_w (hg.t (le6.t le10)) g13 hS) ?_
        rintro _ w3 ⟨μ3,rfl,le14,hS⟩
        refine po (st (wl (su (u_mul (et (k30 d4)) (et (k30 d5)) rfl) (dt (q30 p6)) (st (nw (cret ?_))))))
        refine (fun h=>xr (br (xr h))) ?_
        obtain rfl:=oI h
        refine ret1 rfl d6 ?_
        exact ⟨_,rfl,(le6.t (le10.t le14)),hS⟩
       ·replace h:=iF h11 h
        refine cskip (xn (cseq (nz ?_)))
        iterate 2 refine st ?_
        refine nw ?_
        refine cifd (et (k30 d8)) (fun h15=>?_) (fun h15=>?_)
        ·replace h:=iT h15 h
         refine nz ?_
         iterate 2 refine st ?_
         obtain ⟨i16,g17,h⟩:=bI h
         refine wl (su (u_quo (et (k30 d9)) (et (k40 d0)) (quo_nz g17).1 (quo_nz g17).2) (dt (q40 p1)) (st (nw (cret ?_))))
         refine (fun h=>xr (br (xr h))) ?_
         obtain rfl:=oI h
         refine ret1 rfl d6 ?_
         exact ⟨_,rfl,(le6.t le10),hS⟩
        ·replace h:=iF h15 h
         refine cskip (xn (nz ?_))
         iterate 2 refine st ?_
         obtain ⟨i18,g19,h⟩:=bI h
         refine wl (su (u_rem (et (k40 d2)) (et (k40 d3)) (remt_nz g19).1 (remt_nz g19).2) (dt (q40 p4)) (st (nw (cret ?_))))
         refine (fun h=>br (xr h)) ?_
         obtain rfl:=oI h
         refine ret1 rfl d6 ?_
         exact ⟨_,rfl,(le6.t le10),hS⟩
     ·replace h:=iF h7 h
      refine nz ?_
      iterate 2 refine st ?_
      refine nw ?_
      refine cifd (et (k40 d5)) (fun h20=>?_) (fun h20=>?_)
      ·replace h:=iT h20 h
       refine nz ?_
       iterate 3 refine st ?_
       obtain ⟨r21,g22,h⟩:=bI h
       refine ca (vm_truth_w (hg.t le6) g22 hS) ?_
       rintro _ w4 ⟨μ4,rfl,le23,hS⟩
       refine po (st (nw (cret ?_)))
       refine (fun h=>br (xr h)) ?_
       obtain rfl:=oI h
       refine ret1 rfl d6 ?_
       exact ⟨_,rfl,(le6.t le23),hS⟩
      ·replace h:=iF h20 h
       refine nz ?_
       iterate 2 refine st ?_
       refine nw ?_
       refine cifd (et (k50 d1)) (fun h24=>?_) (fun h24=>?_)
       ·replace h:=iT h24 h
        refine nz ?_
        iterate 3 refine st ?_
        obtain ⟨r25,g26,h⟩:=bI h
        refine ca (vm_truth_w (hg.t le6) g26 hS) ?_
        rintro _ w5 ⟨μ5,rfl,le27,hS⟩
        refine po (st (nw (cret ?_)))
        refine (fun h=>br (xr h)) ?_
        obtain rfl:=oI h
        refine ret1 rfl d6 ?_
        exact ⟨_,rfl,(le6.t le27),hS⟩
       ·replace h:=iF h24 h
        refine nz ?_
        iterate 2 refine st ?_
        refine nw ?_
        refine cifd (et (k50 d7)) (fun h28=>?_) (fun h28=>?_)
        ·replace h:=iT h28 h
         refine nz ?_
         iterate 3 refine st ?_
         obtain ⟨r29,g30,h⟩:=bI h
         refine ca (vm_truth_w (hg.t le6) g30 hS) ?_
         rintro _ w6 ⟨μ6,rfl,le31,hS⟩
         refine po (st (nw (cret ?_)))
         refine (fun h=>br (xr h)) ?_
         obtain rfl:=oI h
         refine ret1 rfl d6 ?_
         exact ⟨_,rfl,(le6.t le31),hS⟩
        ·replace h:=iF h28 h
         refine nz ?_
         iterate 2 refine st ?_
         refine nw ?_
         refine cifd (et (k60 d3)) (fun h32=>?_) (fun h32=>?_)
         ·replace h:=iT h32 h
          refine nz ?_
          iterate 3 refine st ?_
          obtain ⟨r33,g34,h⟩:=bI h
          refine ca (vm_truth_w (hg.t le6) g34 hS) ?_
          rintro _ w7 ⟨μ7,rfl,le35,hS⟩
          refine po (st (nw (cret ?_)))
          refine (fun h=>br (xr h)) ?_
          obtain rfl:=oI h
          refine ret1 rfl d6 ?_
          exact ⟨_,rfl,(le6.t le35),hS⟩
         ·replace h:=iF h32 h
          refine nz ?_
          iterate 2 refine st ?_
          refine nw ?_
          refine cifd (et (k60 d9)) (fun h36=>?_) (xF h)
          replace h:=iT h36 h
          refine nz ?_
          iterate 3 refine st ?_
          obtain ⟨r37,g38,h⟩:=bI h
          refine ca (vm_truth_w (hg.t le6) g38 hS) ?_
          rintro _ w8 ⟨μ8,rfl,le39,hS⟩
          refine po (st (nw (cret ?_)))
          refine (fun h=>br (xr h)) ?_
          obtain rfl:=oI h
          refine ret1 rfl d6 ?_
          exact ⟨_,rfl,(le6.t le39),hS⟩
theorem vm_tasks_w (hg:Le Gm μ0) {p_1:TModule} {r:List Int} (m5:Sl μ0 a3 c4 p_1.Boxes) (m8:Sl μ0 a6 c7 p_1.Units) (m9:At μ0 b1 o2 [.slice a3 p_1.Boxes.length c4,.slice a6 p_1.Units.length c7]) (h:vm_tasks p_1=some r) (hS:Sq μ0 w0 w (rsF)):CallsV prog 24 [.pointer (some ⟨b1,o2,none⟩)] w (fun v w'=>∃ (μ':M) (a10:Option Addr) (c11:Nat),v=.slice a10 r.length c11∧Le μ0 μ'∧Sq μ' w0 w' (rsF)∧Sl μ' a10 c11 r):=by
 unfold vm_tasks at h
 refine enter func24 rfl (frm:=_::u2 (u2 (u20 []))) rfl (nz (st (nx (st (ny (nz ?_))))))
 iterate 3 refine st ?_
 refine ld ((m9 _ hS.a).one d1) (wl (su (u_lensl underlying35 (et d9)) (dt (q10 p0)) (st (nw (cblock ?_)))))
 replace hS:=hS.nilRow 3 (Mo.sz Int)
 refine cloopE (rg 4 2++rg 12 12) (by decide) (fun n m w=>∃ μx i43 l46 v44 cs45,m=(yK3 (.i (v44)::(yO2 4 (yK5 (.i (.int .i64 i43)::(yO10 12 (yO2 22 [])))))))∧vm_tasks_l1 p_1 n i43 l46=some r∧Le μ0 μx∧Sq μx w0 w (.row v44 3 1 l46.length cs45::rsF)∧Rw μx cs45 l46) (by rintro _ _ _ ⟨_,_,_,_,_,rfl,_⟩; rfl) _ _ (aK3 (aI (aO2 (aK5 (aI (aO10 (aO2 aZ))))))) ⟨_,0,[],(.slice none 0 0),[],rfl,h,Le.r,hS,Rw.nil⟩ ?_
 rintro n_1 _ t w1 ⟨μ1,i43,l46,v44,cs45,rfl,h,le77,hS,m78⟩
 cases n_1 with
 | zero=>cases h
 | succ n_1 =>
 unfold vm_tasks_l1 at h
 refine cnrm (mK3 (mi (mO2 (mK5 (mi (mO10 (mO2 mz))))))) (nz (st (ny ?_)))
 refine cifd (et (k10 d2)) (fun h79=>?_) (fun h79=>?_)
 ·replace h:=iT h79 h
  refine cskip (xn (cseq (cblock (nz (st ?_)))))
  obtain ⟨x80,g81,h⟩:=bI h
  obtain ⟨b82,o83,cs84,e85,f86,m87⟩:=SlR.elem (m8.up le77) g81
  obtain ⟨a88,c89,a91,c92,rfl,m90,m93⟩:=m87
  refine wl (su (u_iax underlying35 ti103 (et d9) (et (k10 d1)) e85) (dt (q10 p4)) (lds (f86 _ hS.a) rfl ?_))
  refine wl (s_alloc ti103 hS ?_); clear hS; intro b94 w2 hb95 hS; refine po ?_
  refine st (wl (s_storeA ti103 (et d5) (et (k10 d5)) rfl rfl hS d0 rfl p0 dn ?_))
  clear hS; intro w3 hS
  refine nx (st (ld ((hS.blk d0).cell d0) (st (nw ?_))))
  refine cifd (et (k10 d8)) (fun h96=>?_) (fun h96=>?_)
  ·replace h:=iT h96 h
   refine creg ?_
   iterate 2 refine st ?_
   refine wl (s_bsl underlying27 ti3 (Parts.s (et (k20 d0)) rfl Parts.z) rfl rfl hS ?_); clear hS; intro b97 w4 hb98 hS; refine po ?_
   obtain ⟨l101,g102,h⟩:=bI h
   have m103:Rw μ1 [.int .i64 i43] [i43]:=(Rw.one (α:=Int) rfl)
   have m100:=Rw.app m78 m103 g102
   refine wl (s_app1 underlying27 ti3 rfl (et (k10 d9)) (et (k20 d1)) hS d2 (hS.blk d0).cells m103 rfl g102 (by decide) ?_); clear hS; intro v99 w5 rs_ hp_ hS; cases (show _=rs_ from hp_)
   replace hS:=Sep.reput hS p2; refine po ?_
   replace hS:=hS.drop Rm.z
   refine st (wnil ?_)
   refine (fun h=>bn (xn h)) ?_
   refine creg ?_
   obtain ⟨i104,g105,h⟩:=bI h
   refine wl (su (u_addc (et (k10 d1)) ec g105) (dt (q20 p3)) (st (wnil (xl ?_))))
   replace hS:=hS.drop Rm.z
   exact ⟨n_1,_,_,rfl,(aK3 (aI (aO2 (aK5 (aI (aO10 (aO2 aZ))))))),⟨_,i104,l101,v99,(cs45++[.int .i64 i43]),rfl,h,le77,hS,m100⟩,Nat.lt_succ_self _⟩
  ·replace h:=iF h96 h
   refine cskip ?_
   refine (fun h=>bn (xn h)) ?_
   refine creg ?_
   obtain ⟨i106,g107,h⟩:=bI h
   refine wl (su (u_addc (et (k10 d1)) ec g107) (dt (q20 p3)) (st (wnil (xl ?_))))
   replace hS:=hS.drop Rm.z
   exact ⟨n_1,_,_,rfl,(aK3 (aI (aO2 (aK5 (aI (aO10 (aO2 aZ))))))),⟨_,i106,l46,v44,cs45,rfl,h,le77,hS,m78⟩,Nat.lt_succ_self _⟩
 ·replace h:=iF h79 h
  refine cexit ?_
  refine (fun h=>xe (xe (bh h))) ?_
  refine xn (nz ?_)
  iterate 2 refine st ?_
  refine nw (cret ?_)
  obtain ⟨μ2,a108,c109,e112,le111,m110,hq_⟩:=Sep.frzRow hS m78 rfl; clear hS
  subst e112; have hS:=hq_; clear hq_
  obtain rfl:=oI h
  refine ret1 rfl d2 ?_
  exact ⟨_,_,_,rfl,(le77.t le111),hS,m110⟩
end Go.Proofs.YtaenlbapejigbaaGreatDoor
set_option maxRecDepth 100000
set_option maxHeartbeats 20000000
namespace Go.Proofs.YtaenlbapejigbaaGreatDoor
open Go.Wk Go.Xt Go.Y Tryz
variable {b1 b3 b9 b12 b13 b17 b18 b24 b25 b30 c4 c6 c9 c12 c20 c28 o4:Nat} {a3 a5 a8 a11 a19 a27:Option Addr} {a1 a2 v2 v3 v4 v7 v8 v10 v11 v12 v13 v14 v15 v16 v17 v19 v20 v21 v22 v23 v26 v27 v31 v32 v34 v37:Value} {cs8 cs15 cs16 cs22 cs23 cs24 cs27 cs28 cs35:List Value} {μ0:M} {w0 w:World} {rsF:List Res}
theorem ls_empty_w (hg:Le Gm μ0) {feed_2:List (List Int)} {took_6:List Int} {sent_10:List (List Int)} {p_2:Int} {r:Bool×List (List Int)×List Int×List (List Int)} (m5:Sl μ0 a3 c4 feed_2) (m9:Rw μ0 cs8 took_6) (m13:Sl μ0 a11 c12 sent_10) (h:ls_empty feed_2 took_6 sent_10 p_2=some r) (hS:Sq μ0 w0 w (.blk b1 59 [.slice a3 feed_2.length c4,v7,.slice a11 sent_10.length c12]::.row v7 3 1 took_6.length cs8::rsF)):CallsV prog 214 [.pointer (some ⟨b1,0,none⟩),.int .i64 p_2] w (fun v w'=>∃ (μ':M) (a14:Option Addr) (c15:Nat) (v17:Value) (cs18:List Value) (a20:Option Addr) (c21:Nat),v=.bool r.1∧Le μ0 μ'∧Sq μ' w0 w' (.blk b1 59 [.slice a14 r.2.1.length c15,v17,.slice a20 r.2.2.2.length c21]::.row v17 3 1 r.2.2.1.length cs18::rsF)∧Sl μ' a14 c15 r.2.1∧Rw μ' cs18 r.2.2.1∧Sl μ' a20 c21 r.2.2.2):=by
 unfold ls_empty at h
 refine enter func214 rfl (frm:=_::_::u2 (u2 (u5 (u10 [])))) rfl (nz (st (ny ?_)))
 refine cdw hS ?_; clear hS; intro w1 hS
 refine cpi 0 rfl (cpi 1 rfl (cpi 2 rfl (cpi 4 rfl (cpi 7 rfl (cpi 8 rfl (cpi 9 rfl (cpi 11 rfl (cr 10 [10,12,13,14,15,16] rfl (u_load ti26 (et (k10 d4)) ((hS.blk d0).cell d0)) (q10 p5) ?_))))))))
 obtain ⟨x23,g24,h⟩:=bI h
 obtain ⟨b25,o26,cs27,e28,f29,m30⟩:=SlR.elem m5 g24
 obtain ⟨a31,c32,rfl,m33⟩:=m30
 refine cp 12 rfl (u_iax underlying26 ti22 (et (k10 d5)) (et (k10 d6)) e28) (q10 p7) (cr 13 [13,14,15,16] rfl (u_load ti22 (et (k10 d7)) ((f29 _ hS.a).one d0)) (q10 p8) (cp 14 rfl (u_lensl underlying22 (et (k10 d8))) (q10 p9) (cr 3 [3,5,6,15,16] rfl (u_load ti27 (et d7) ((hS.blk d0).cell d1)) p8 ?_)))
 obtain ⟨x34,g35,h⟩:=bI h
 obtain ⟨b36,o37,pc38,cs39,sc40,ec41,e42,f43,m44,pn45,st46,m47⟩:=Row.elemS (α:=Int) (hS.get d1) m9 rfl g35
 rw [ec41] at hS
 obtain rfl:=m44
 refine cp 5 rfl (u_iax underlying27 ti3 (et d8) (et d9) e42) (q10 p0) (cr 6 [6,15,16] rfl (u_load ti3 (et (k10 d0)) ((f43 _ _ _ (hS.get d1) rfl).one d0)) (q10 p1) (cpi 15 rfl (cpi 16 rfl (nu (cret ?_)))))
 obtain rfl:=oI h
 refine ret1 rfl d4 ?_
 exact ⟨_,_,_,_,((pc38++([.int .i64 x34]++sc40)):List Value),_,_,rfl,Le.r,hS,m5,m47,m13⟩
theorem ls_take_w (hg:Le Gm μ0) {feed_2:List (List Int)} {took_6:List Int} {sent_10:List (List Int)} {p_2:Int} {r:Int×List (List Int)×List Int×List (List Int)} (m5:Sl μ0 a3 c4 feed_2) (m9:Rw μ0 cs8 took_6) (m13:Sl μ0 a11 c12 sent_10) (h:ls_take feed_2 took_6 sent_10 p_2=some r) (hS:Sq μ0 w0 w (.blk b1 59 [.slice a3 feed_2.length c4,v7,.slice a11 sent_10.length c12]::.row v7 3 1 took_6.length cs8::rsF)):CallsV prog 217 [.pointer (some ⟨b1,0,none⟩),.int .i64 p_2] w (fun v w'=>∃ (μ':M) (a14:Option Addr) (c15:Nat) (v17:Value) (cs18:List Value) (a20:Option Addr) (c21:Nat),v=.int .i64 r.1∧Le μ0 μ'∧Sq μ' w0 w' (.blk b1 59 [.slice a14 r.2.1.length c15,v17,.slice a20 r.2.2.2.length c21]::.row v17 3 1 r.2.2.1.length cs18::rsF)∧Sl μ' a14 c15 r.2.1∧Rw μ' cs18 r.2.2.1∧Sl μ' a20 c21 r.2.2.2):=by
 unfold ls_take at h
 refine enter func217 rfl (frm:=_::_::u2 (u2 (u5 (u20 [])))) rfl (nz (st (nx ?_)))
 iterate 3 refine st ?_
 refine ld ((hS.blk d0).cell d1) (st ?_)
 obtain ⟨x23,g24,h⟩:=bI h
 obtain ⟨b25,o26,pc27,cs28,sc29,ec30,e31,f32,m33,pn34,st35,m36⟩:=Row.elemS (α:=Int) (hS.get d1) m9 rfl g24
 rw [ec30] at hS
 obtain rfl:=m33
 refine wl (su (u_iax underlying27 ti3 (et d8) (et d9) e31) (dt (q10 p0)) (ld ((f32 _ _ _ (hS.get d1) rfl).one d0) ?_))
 obtain ⟨i37,g38,h⟩:=bI h
 refine wl (su (u_addc (et (k10 d1)) ec g38) (dt (q10 p2)) ?_)
 obtain ⟨x39,g40,h⟩:=bI h
 obtain ⟨b41,o42,pc43,cs44,sc45,ec46,e47,f48,m49,pn50,st51,m52⟩:=Row.elemS (α:=Int) (hS.get d1) m36 rfl g40
 rw [ec46] at hS
 obtain rfl:=m49
 refine wl (su (u_iax underlying27 ti3 (et d8) (et d9) e47) (dt (q10 p3)) ?_)
 have m53:=st51 _ [.int .i64 i37] i37 Le.r rfl
 refine wl (s_storeR (off:=0) ti3 (et (k10 d3)) (et (k10 d2)) rfl rfl rfl hS d1 e47 (Nat.le_of_ble_eq_true rfl) (open_store pn50 rfl (Nat.le_of_ble_eq_true rfl)) p1 dn ?_); clear hS; intro w1 hS
 replace hS:Sq μ0 w0 w1 (.blk b1 59 [.slice a3 feed_2.length c4,v7,.slice a11 sent_10.length c12]::.row v7 3 1 (took_6.set p_2.toNat i37).length (pc43++([.int .i64 i37]++sc45))::rsF):=by rw [List.length_set]; exact hS
 refine ny ?_
 refine cdw hS ?_; clear hS; intro w2 hS
 refine cpi 0 rfl (cpi 1 rfl (cpi 2 rfl (cpi 4 rfl (cpi 7 rfl (cpi 8 rfl (cpi 9 rfl (cpi 11 rfl (cr 10 [10,12,13,14,15,16,17] rfl (u_load ti27 (et (k20 d3)) ((hS.blk d0).cell d1)) (q20 p4) ?_))))))))
 obtain ⟨x54,g55,h⟩:=bI h
 obtain ⟨b56,o57,pc58,cs59,sc60,ec61,e62,f63,m64,pn65,st66,m67⟩:=Row.elemS (α:=Int) (hS.get d1) m53 rfl g55
 rw [ec61] at hS
 obtain rfl:=m64
 refine cp 12 rfl (u_iax underlying27 ti3 (et (k20 d4)) (et (k20 d5)) e62) (q20 p6) (cr 13 [13,14,15,16,17] rfl (u_load ti3 (et (k20 d6)) ((f63 _ _ _ (hS.get d1) rfl).one d0)) (q20 p7) ?_)
 obtain ⟨i68,g69,h⟩:=bI h
 refine cp 14 rfl (u_subc (et (k20 d7)) ec g69) (q20 p8) (cr 3 [3,5,6,15,16,17] rfl (u_load ti26 (et (k10 d6)) ((hS.blk d0).cell d0)) (q10 p7) ?_)
 obtain ⟨x70,g71,h⟩:=bI h
 obtain ⟨b72,o73,cs74,e75,f76,m77⟩:=SlR.elem m5 g71
 obtain ⟨a78,c79,rfl,m80⟩:=m77
 refine cp 5 rfl (u_iax underlying26 ti22 (et (k10 d7)) (et (k10 d8)) e75) (q10 p9) (cr 6 [6,15,16,17] rfl (u_load ti22 (et (k10 d9)) ((f76 _ hS.a).one d0)) (q20 p0) ?_)
 obtain ⟨x81,g82,h⟩:=bI h
 obtain ⟨b83,o84,cs85,e86,f87,m88⟩:=SlR.elem m80 g82
 obtain rfl:=m88
 refine cp 15 rfl (u_iax underlying22 ti2 (et (k20 d0)) (et (k20 d8)) e86) (q20 p9) (cr 16 [16,17] rfl (u_load ti2 (et (k20 d9)) ((f87 _ hS.a).one d0)) (q30 p0) (cpi 17 rfl (nu (cret ?_))))
 obtain rfl:=oI h
 refine ret1 rfl d4 ?_
 exact ⟨_,_,_,_,((pc58++([.int .i64 x54]++sc60)):List Value),_,_,rfl,Le.r,hS,m5,m67,m13⟩
theorem st_at_w {b o:Nat} {v a3:Value} {i:Int} (he:Elv v 1 i b o) (hS:Sq μ0 w0 w (.blk b1 181 [v,a1,a2,a3]::rsF)):CallsV prog 46 [.pointer (some ⟨b1,0,none⟩),.int .i64 i] w (fun r w'=>∃ (μ':M),r=.pointer (some ⟨b,o,none⟩)∧Le μ0 μ'∧Sq μ' w0 w' (.blk b1 181 [v,a1,a2,a3]::rsF)):=by
 refine enter func46 rfl (frm:=_::_::u2 (u2 (u5 []))) rfl (nz (st (nx ?_)))
 iterate 3 refine st ?_
 refine ld ((hS.blk d0).cell d0) (st (wl (su (u_iax underlying22 ti2 (et d8) (et d9) he) (dt (q10 p0)) (st (nw (cret (ret1 rfl d4 ?_)))))))
 exact ⟨_,rfl,Le.r,hS⟩
theorem vm_push_w (hg:Le Gm μ0) {stat_5 box_6 trap_7:Int} {l_14:List Int} {live_18 min_19 most_20 p_2:Int} {r:Int×Int×Int×List Int×Int×Int×Int} (m17:Rw μ0 cs16 l_14) (h:vm_push stat_5 box_6 trap_7 l_14 live_18 min_19 most_20 p_2=some r) (hS:Sq μ0 w0 w (.blk b1 69 [v2,v3,v4,.pointer (some ⟨b9,0,none⟩),.int .i64 stat_5,.int .i64 box_6,.int .i64 trap_7,v8,.nilFunc]::.blk b9 114 [v10,v11,v12,.pointer (some ⟨b13,0,none⟩)]::.blk b13 181 [v15,.int .i64 live_18,.int .i64 min_19,.int .i64 most_20]::.row v15 2 1 l_14.length cs16::rsF)):CallsV prog 45 [.pointer (some ⟨b1,0,none⟩),.int .i64 p_2] w (fun v w'=>∃ (μ':M) (v21:Value) (cs22:List Value),v=.tuple ⟨[]⟩∧Le μ0 μ'∧Sq μ' w0 w' (.blk b1 69 [v2,v3,v4,.pointer (some ⟨b9,0,none⟩),.int .i64 r.1,.int .i64 r.2.1,.int .i64 r.2.2.1,v8,.nilFunc]::.blk b9 114 [v10,v11,v12,.pointer (some ⟨b13,0,none⟩)]::.blk b13 181 [v21,.int .i64 r.2.2.2.2.1,.int .i64 r.2.2.2.2.2.1,.int .i64 r.2.2.2.2.2.2]::.row v21 2 1 r.2.2.2.1.length cs22::rsF)∧Rw μ' cs22 r.2.2.2.1):=by
 unfold vm_push at h
 refine enter func45 rfl (frm:=_::_::u2 (u2 (u10 []))) rfl (nz ?_)
 iterate 3 refine st ?_
 refine ld ((hS.blk d0).cell d3) ?_
 iterate 2 refine st ?_
 refine ld ((hS.blk d1).cell d3) (st ?_)
 obtain ⟨r24,g25,h⟩:=bI h
 replace hS:=(hS.bg Y3).bg Y3
 refine ca (st_push_w hg m17 g25 hS) ?_
 rintro _ w1 ⟨μ1,v27,cs28,rfl,le26,hS,m29⟩
 refine po (st (nw ?_))
 refine cifnb (et (k10 d3)) (xF h) fun h30=>?_
 replace h:=iT h30 h
 refine cskip ?_
 obtain rfl:=oI h
 refine end0 rfl ?_
 replace hS:=(((hS.bg Y1).bg Y1).bg Y3).bg Y3
 exact ⟨_,_,_,rfl,le26,hS,m29⟩
theorem vm_pop_w (hg:Le Gm μ0) {stat_5 box_6 trap_7:Int} {l_14:List Int} {live_18 min_19 most_20:Int} {r:Int×Int×Int×Int×List Int×Int×Int×Int} (m17:Rw μ0 cs16 l_14) (h:vm_pop stat_5 box_6 trap_7 l_14 live_18 min_19 most_20=some r) (hS:Sq μ0 w0 w (.blk b1 69 [v2,v3,v4,.pointer (some ⟨b9,0,none⟩),.int .i64 stat_5,.int .i64 box_6,.int .i64 trap_7,v8,.nilFunc]::.blk b9 114 [v10,v11,v12,.pointer (some ⟨b13,0,none⟩)]::.blk b13 181 [v15,.int .i64 live_18,.int .i64 min_19,.int .i64 most_20]::.row v15 2 1 l_14.length cs16::rsF)):CallsV prog 47 [.pointer (some ⟨b1,0,none⟩)] w (fun v w'=>∃ (μ':M) (v21:Value) (cs22:List Value),v=.int .i64 r.1∧Le μ0 μ'∧Sq μ' w0 w' (.blk b1 69 [v2,v3,v4,.pointer (some ⟨b9,0,none⟩),.int .i64 r.2.1,.int .i64 r.2.2.1,.int .i64 r.2.2.2.1,v8,.nilFunc]::.blk b9 114 [v10,v11,v12,.pointer (some ⟨b13,0,none⟩)]::.blk b13 181 [v21,.int .i64 r.2.2.2.2.2.1,.int .i64 r.2.2.2.2.2.2.1,.int .i64 r.2.2.2.2.2.2.2]::.row v21 2 1 r.2.2.2.2.1.length cs22::rsF)∧Rw μ' cs22 r.2.2.2.2.1):=by
 unfold vm_pop at h
 refine enter func47 rfl (frm:=_::u1 (u20 [])) rfl (nz (st (nx ?_)))
 iterate 3 refine st ?_
 refine ld ((hS.blk d0).cell d3) ?_
 iterate 2 refine st ?_
 refine ld ((hS.blk d1).cell d3) (st (nx ?_))
 iterate 2 refine st ?_
 obtain ⟨r24,g25,h⟩:=bI h
 replace hS:=hS.bg Y2
 refine ca (st_live_w hg g25 hS) ?_
 rintro _ w1 ⟨μ1,rfl,le26,hS⟩
 refine po ?_
 obtain ⟨i27,g28,h⟩:=bI h
 refine wl (su (u_subc (et (k10 d4)) ec g28) (dt (q10 p5)) ?_)
 obtain ⟨x29,g30,h⟩:=bI h
 obtain ⟨b31,o32,pc33,cs34,sc35,ec36,e37,f38,m39,pn40,st41,m42⟩:=Row.elemS (α:=Int) (hS.get d3) (m17.up le26) rfl g30
 rw [ec36] at hS
 obtain rfl:=m39
 refine ca (st_at_w e37 hS) ?_
 rintro _ w2 ⟨μ2,rfl,le43,hS⟩
 refine po (st (ld ((f38 _ _ _ (hS.get d3) rfl).one d0) (st (nx (st ?_)))))
 obtain ⟨r44,g45,h⟩:=bI h
 replace hS:=(hS.bg Y3).bg Y1
 refine ca (st_pop_w (hg.t (le26.t le43)) (m42.up le43) g45 hS) ?_
 rintro _ w3 ⟨μ3,v47,cs48,rfl,le46,hS,m49⟩
 refine po (nx ?_)
 iterate 2 refine st ?_
 refine nw (cret ?_)
 obtain rfl:=oI h
 refine ret1 rfl d2 ?_
 replace hS:=(((hS.bg Y1).bg Y1).bg Y3).bg Y3
 exact ⟨_,_,_,rfl,(le26.t (le43.t le46)),hS,m49⟩
theorem vm_waits_w (hg:Le Gm μ0) {stat_5 box_6 trap_7:Int} {feed_10:List (List Int)} {took_14:List Int} {sent_18:List (List Int)} {p_2:TInstr} {r:Bool×Int×Int×Int×List (List Int)×List Int×List (List Int)} (m13:Sl μ0 a11 c12 feed_10) (m17:Rw μ0 cs16 took_14) (m21:Sl μ0 a19 c20 sent_18) (h:vm_waits stat_5 box_6 trap_7 feed_10 took_14 sent_18 p_2=some r) (hS:Sq μ0 w0 w (.blk b1 69 [v2,.iface 57 (.pointer (some ⟨b9,0,none⟩)),v3,v4,.int .i64 stat_5,.int .i64 box_6,.int .i64 trap_7,v8,.nilFunc]::.blk b9 59 [.slice a11 feed_10.length c12,v15,.slice a19 sent_18.length c20]::.row v15 3 1 took_14.length cs16::rsF)):CallsV prog 44 [.pointer (some ⟨b1,0,none⟩),.agg ⟨[.int .i64 p_2.Op,.int .i64 p_2.A,.int .i64 p_2.N]⟩] w (fun v w'=>∃ (μ':M) (a22:Option Addr) (c23:Nat) (v25:Value) (cs26:List Value) (a28:Option Addr) (c29:Nat),v=.bool r.1∧Le μ0 μ'∧Sq μ' w0 w' (.blk b1 69 [v2,.iface 57 (.pointer (some ⟨b9,0,none⟩)),v3,v4,.int .i64 r.2.1,.int .i64 r.2.2.1,.int .i64 r.2.2.2.1,v8,.nilFunc]::.blk b9 59 [.slice a22 r.2.2.2.2.1.length c23,v25,.slice a28 r.2.2.2.2.2.2.length c29]::.row v25 3 1 r.2.2.2.2.2.1.length cs26::rsF)∧Sl μ' a22 c23 r.2.2.2.2.1∧Rw μ' cs26 r.2.2.2.2.2.1∧Sl μ' a28 c29 r.2.2.2.2.2.2):=by
 unfold vm_waits at h
 refine enter func44 rfl (frm:=_::_::u1 (u5 (u50 []))) rfl (nz ?_)
 refine wl (s_box (et d1) rfl hS ?_); clear hS; intro b31 w1 hb32 hS; refine po ?_
 refine st (nx ?_)
 iterate 4 refine st ?_
 refine wl (s_store1 ti3 (et d8) ec rfl hS d1 p4 rfl p1 dn ?_)
 clear hS; intro w2 hS
 iterate 2 refine st ?_
 refine wl (s_store1 ti3 (et (k10 d0)) ec rfl hS d1 p5 rfl p1 dn ?_)
 clear hS; intro w3 hS
 refine ny ?_
 refine ccutE (rg 11 42) (by decide +kernel) (fun m w=>∃ μx i33 i34 l37 a35 c36 l41 a39 c40 l45 v43 cs44,m=(yK10 (yK1 (yO20 11 (yO20 31 (yO2 51 [])))))∧vm_waits_j1 trap_7 i33 i34 l37 l41 l45=some r∧Le μ0 μx∧Sq μx w0 w (.blk b1 69 [v2,.iface 57 (.pointer (some ⟨b9,0,none⟩)),v3,v4,.int .i64 i33,.int .i64 i34,.int .i64 trap_7,v8,.nilFunc]::.blk b9 59 [.slice a35 l37.length c36,v43,.slice a39 l41.length c40]::.row v43 3 1 l45.length cs44::rsF)∧Sl μx a35 c36 l37∧Sl μx a39 c40 l41∧Rw μx cs44 l45) (by rintro _ _ ⟨_,_,_,_,_,_,_,_,_,_,_,_,rfl,_⟩; rfl) ?_ ?_
 ·refine cblock (cseq ?_)
  refine cdw hS ?_; clear hS; intro w4 hS
  refine sf_start (fpi 0 [0,1,2,3,4,5,6,7,8,9,10,11,12] rfl (fr_ 1 [1,2,3,4,5,6,7,8,9,10,11,12] rfl (u_load ti3 (et (k10 d2)) ((hS.blk d0).cell d0)) (q10 p3) (fpi 2 [2,3,4,5,6,7,8,9,10,11,12] rfl (fpi 3 [3,4,5,6,7,8,9,10,11,12] rfl ?_))))
  refine sfsd (k10 d5) (q10 p5) (q10 p5) (xT h) fun h47=>?_
  replace h:=iF h47 h
  refine fpN 4 [4,5,6,7,10,11,12] rfl rfl (k10 d5) rfl (q10 p6) (fpN 5 [5,6,7,10,11,12] rfl rfl (k10 d5) rfl (q10 p7) (fpN 6 [6,7,10,11,12] rfl rfl (k10 d5) rfl (q10 p8) (fpN 7 [7,10,11,12] rfl rfl (k10 d5) rfl (q10 p9) (fpN 8 [8,9,10,11,12] rfl rfl (k10 d5) rfl (q20 p0) (fpN 9 [9,10,11,12] rfl rfl (k10 d5) rfl (q20 p1) (fpN 10 [10,11,12] rfl rfl (k10 d5) rfl (q20 p2) (fpi 11 [11,12] rfl (fpi 12 [12] rfl (sf_nil (xn (ciff (et (k10 d1)) (cseq ?_))))))))))))
  refine ccutE (rg 33 12) (by decide) (fun m w=>∃ μx b48 l51 a49 c50 l55 a53 c54 l59 v57 cs58,m=(yK20 (yK10 (yK2 (.i (.bool b48)::(yO10 33 (yO2 43 []))))))∧vm_waits_j2 p_2 trap_7 b48 l51 l55 l59=some r∧Le μ0 μx∧Sq μx w0 w (.blk b1 69 [v2,.iface 57 (.pointer (some ⟨b9,0,none⟩)),v3,v4,.int .i64 1,.int .i64 0,.int .i64 trap_7,v8,.nilFunc]::.blk b9 59 [.slice a49 l51.length c50,v57,.slice a53 l55.length c54]::.row v57 3 1 l59.length cs58::.blk b31 120 [.int .i64 p_2.Op,.int .i64 p_2.A,.int .i64 p_2.N]::rsF)∧Sl μx a49 c50 l51∧Sl μx a53 c54 l55∧Rw μx cs58 l59) (by rintro _ _ ⟨_,_,_,_,_,_,_,_,_,_,_,rfl,_⟩; rfl) ?_ ?_
  ·refine cdw hS ?_; clear hS; intro w5 hS
   refine sf_start (fpi 0 [0,1,2,3,4,5,6,7,8,9,10,11,12] rfl (fr_ 1 [1,2,3,4,5,6,7,8,9,10,11,12] rfl (u_load ti3 (et (k30 d3)) ((hS.blk d0).cell d0)) (q30 p4) (fpi 2 [2,3,4,5,6,7,8,9,10,11,12] rfl (fpi 3 [3,4,5,6,7,8,9,10,11,12] rfl ?_))))
   refine sfsd (k30 d6) (q30 p6) (q30 p6) (fun h61=>?_) (fun h61=>?_)
   ·replace h:=iT h61 h
    refine fpY 4 [4,5,6,7,10,11,12] rfl rfl (k30 d6) (u_move (et d0)) (q30 p7) (fpY 5 [5,6,7,10,11,12] rfl rfl (k30 d6) (u_nilck (et (k30 d7))) (q30 p8) (fpY 6 [6,7,10,11,12] rfl rfl (k30 d6) (u_fa fa69_1 (et (k30 d8)) rfl) (q30 p9) (fr_Y 7 [7,10,11,12] rfl rfl (k30 d6) (u_load ti64 (et (k30 d9)) ((hS.blk d1).cell d1)) (q40 p0) (fpY 8 [8,9,10,11,12] rfl rfl (k30 d6) (u_fa fa120_1 (et d3) rfl) (q40 p1) (fr_Y 9 [9,10,11,12] rfl rfl (k30 d6) (u_load ti3 (et (k40 d1)) ((hS.blk d0).cell d1)) (q40 p2) ?_)))))
    obtain ⟨r62,g63,h⟩:=bI h
    replace hS:=(hS.bg Y3).bg Y3
    refine sf1 rfl rfl rfl rfl (wanted_t rfl rfl (k30 d6)) (s_callI (fun _=>rfl) isfn214 (et (k40 d0)) (e1 (et (k40 d2)) e0) (ls_empty_w hg m13 m17 m21 g63 hS) ?_)
    rintro _ w6 ⟨μ1,a65,c66,v68,cs69,a71,c72,rfl,le64,hS,m67,m70,m73⟩
    refine po ?_
    refine ⟨Mons.z,?_⟩
    refine fpi 11 [11,12] rfl (fpi 12 [12] rfl (sf_nil (xl ?_)))
    replace hS:=(((hS.bg Y2).bg Y2).bg Y2).bg Y3
    exact ⟨_,_,rfl,(aK20 (aK10 (aK2 (aI (aO10 (aO2 aZ)))))),_,r62.1,r62.2.1,_,_,r62.2.2.2,_,_,r62.2.2.1,_,_,rfl,h,le64,hS,m67,m73,m70⟩
   ·replace h:=iF h61 h
    refine fpN 4 [4,5,6,7,10,11,12] rfl rfl (k30 d6) rfl (q30 p7) (fpN 5 [5,6,7,10,11,12] rfl rfl (k30 d6) rfl (q30 p8) (fpN 6 [6,7,10,11,12] rfl rfl (k30 d6) rfl (q30 p9) (fpN 7 [7,10,11,12] rfl rfl (k30 d6) rfl (q40 p0) (fpN 8 [8,9,10,11,12] rfl rfl (k30 d6) rfl (q40 p1) (fpN 9 [9,10,11,12] rfl rfl (k30 d6) rfl (q40 p2) (fpN 10 [10,11,12] rfl rfl (k30 d6) rfl (q40 p3) (fpi 11 [11,12] rfl (fpi 12 [12] rfl (sf_nil (xl ?_))))))))))
    replace hS:=((hS.bg Y3).bg Y3).bg Y3
    exact ⟨_,_,rfl,(aK20 (aK10 (aK2 (aI (aO10 (aO2 aZ)))))),_,false,feed_10,_,_,sent_18,_,_,took_14,_,_,rfl,h,Le.r,hS,m13,m21,m17⟩
  ·rintro _ t w7 ⟨μ2,b48,l51,a49,c50,l55,a53,c54,l59,v57,cs58,rfl,h,le74,hS,m75,m76,m77⟩
   unfold vm_waits_j2 at h
   refine nrm (mK20 (mK10 (mK2 (mi (mO10 (mO2 mz)))))) (xn ?_)
   refine cifb (et (k30 d2)) (fun h78=>?_) (fun h78=>?_)
   ·replace h:=iT h78 h
    refine ccutE (rg 45 8) (by decide) (fun m w=>∃ (μx:M) ,m=(yK20 (yK20 (yK5 (yO8 45 []))))∧vm_waits_j3 p_2 trap_7 l51 l55 l59 =some r∧Le μ2 μx∧Sq μx w0 w (.blk b1 69 [v2,.iface 57 (.pointer (some ⟨b9,0,none⟩)),v3,v4,.int .i64 3,.int .i64 p_2.A,.int .i64 trap_7,v8,.nilFunc]::.blk b9 59 [.slice a49 l51.length c50,v57,.slice a53 l55.length c54]::.row v57 3 1 l59.length cs58::rsF)) (by rintro _ _ ⟨_,rfl,_⟩; rfl) ?_ ?_
    ·refine cdw hS ?_; clear hS; intro w8 hS
     refine sf_start (fpi 0 [0,4,5,6,7,8,9] rfl (fpi 1 [1,7,8,9] rfl (fpi 2 [2,3,7,8,9] rfl (fr_ 3 [3,7,8,9] rfl (u_load ti3 (et (k40 d7)) ((hS.blk d3).cell d1)) (q40 p8) (fpi 4 [4,5,6,7,8,9] rfl (fpi 5 [5,6,7,8,9] rfl (sf1 rfl rfl rfl rfl (wn0 rfl) (s_store1 ti3 (et (k50 d0)) ec rfl hS d0 p4 rfl p0 dn ?_))))))))
     clear hS; intro w9 hS
     refine ⟨(Mons.s (u_load ti3 (et (k40 d7)) ((hS.blk d3).cell d1)) Mons.z),?_⟩
     refine fpi 7 [7,8,9] rfl (fpi 8 [8,9] rfl (sf1 rfl rfl rfl rfl (wn0 rfl) (s_store1 ti3 (et (k50 d2)) (et (k40 d8)) rfl hS d0 p5 rfl p0 dn ?_)))
     clear hS; intro w10 hS
     refine ⟨Mons.z,?_⟩
     refine sf_nil (xl ?_)
     replace hS:=hS.drop (Rm.s (Rm.s (Rm.s Rm.z)))
     exact ⟨_,_,rfl,(aK20 (aK20 (aK5 (aO8 aZ)))),_,rfl,h,Le.r,hS⟩
    ·rintro _ t w11 ⟨μ3,rfl,h,le79,hS⟩
     unfold vm_waits_j3 at h
     refine nrm (mK20 (mK20 (mK5 (mO8 mz)))) ?_
     refine (fun h=>bn (xl h)) ?_
     exact ⟨_,_,rfl,(aK10 (aK1 (aO20 (aO20 (aO2 aZ))))),_,3,p_2.A,_,_,_,_,_,_,_,_,_,rfl,h,(le74.t le79),hS,(m75.up le79),(m76.up le79),(m77.up le79)⟩
   ·replace h:=iF h78 h
    refine cskip ?_
    refine (fun h=>bn (xl h)) ?_
    replace hS:=hS.drop (Rm.s (Rm.s (Rm.s Rm.z)))
    exact ⟨_,_,rfl,(aK10 (aK1 (aO20 (aO20 (aO2 aZ))))),_,1,0,_,_,_,_,_,_,_,_,_,rfl,h,le74,hS,m75,m76,m77⟩
 ·rintro _ t w12 ⟨μ4,i33,i34,l37,a35,c36,l41,a39,c40,l45,v43,cs44,rfl,h,le80,hS,m81,m82,m83⟩
  unfold vm_waits_j1 at h
  refine nrm (mK10 (mK1 (mO20 (mO20 (mO2 mz))))) (xn (nz ?_))
  iterate 3 refine st ?_
  refine ld ((hS.blk d0).cell d4) ?_
  iterate 2 refine st ?_
  refine nw (cret ?_)
  obtain rfl:=oI h
  refine ret1 rfl d4 ?_
  exact ⟨_,_,_,_,_,_,_,rfl,le80,hS,m81,m83,m82⟩
theorem vm_look_w (hg:Le Gm μ0) {m_2:TModule} {stat_13 box_14 trap_15:Int} {feed_18:List (List Int)} {took_22:List Int} {sent_26:List (List Int)} {fram_33:List TVf} {r:Int×Int×Int×List (List Int)×List Int×List (List Int)×List TVf} (m7:Sl μ0 a5 c6 m_2.Boxes) (m10:Sl μ0 a8 c9 m_2.Units) (m11:At μ0 b3 o4 [.slice a5 m_2.Boxes.length c6,.slice a8 m_2.Units.length c9]) (m21:Sl μ0 a19 c20 feed_18) (m25:Rw μ0 cs24 took_22) (m29:Sl μ0 a27 c28 sent_26) (m36:Rw μ0 cs35 fram_33) (h:vm_look m_2 stat_13 box_14 trap_15 feed_18 took_22 sent_26 fram_33=some r) (hS:Sq μ0 w0 w (.blk b1 69 [.pointer (some ⟨b3,o4,none⟩),.iface 57 (.pointer (some ⟨b17,0,none⟩)),v12,.pointer (some ⟨b30,0,none⟩),.int .i64 stat_13,.int .i64 box_14,.int .i64 trap_15,v16,.nilFunc]::.blk b17 59 [.slice a19 feed_18.length c20,v23,.slice a27 sent_26.length c28]::.row v23 3 1 took_22.length cs24::.blk b30 114 [v31,v32,v34,v37]::.row v34 117 3 fram_33.length cs35::rsF)):CallsV prog 26 [.pointer (some ⟨b1,0,none⟩)] w (fun v w'=>∃ (μ':M) (a38:Option Addr) (c39:Nat) (v41:Value) (cs42:List Value) (a44:Option Addr) (c45:Nat) (v47:Value) (cs48:List Value),v=.tuple ⟨[]⟩∧Le μ0 μ'∧Sq μ' w0 w' (.blk b1 69 [.pointer (some ⟨b3,o4,none⟩),.iface 57 (.pointer (some ⟨b17,0,none⟩)),v12,.pointer (some ⟨b30,0,none⟩),.int .i64 r.1,.int .i64 r.2.1,.int .i64 r.2.2.1,v16,.nilFunc]::.blk b17 59 [.slice a38 r.2.2.2.1.length c39,v41,.slice a44 r.2.2.2.2.2.1.length c45]::.row v41 3 1 r.2.2.2.2.1.length cs42::.blk b30 114 [v31,v32,v47,v37]::.row v47 117 3 r.2.2.2.2.2.2.length cs48::rsF)∧Sl μ' a38 c39 r.2.2.2.1∧Rw μ' cs42 r.2.2.2.2.1∧Sl μ' a44 c45 r.2.2.2.2.2.1∧Rw μ' cs48 r.2.2.2.2.2.2):=by
 unfold vm_look at h
 refine enter func26 rfl (frm:=_::u1 (u5 (u20 (u20 [])))) rfl (nz ?_)
 iterate 3 refine st ?_
 refine ld ((hS.blk d0).cell d4) (st (nw ?_))
 refine cifd (et d7) (fun h50=>?_) (fun h50=>?_)
 ·replace h:=iT h50 h
  refine cseq ?_
  refine ccutE (rg 8 17) (by decide) (fun m w=>∃ μx i53 b51 o52,m=(yK2 (.i (.pointer (some ⟨b51,o52,none⟩))::(yK5 (yO10 8 (yO7 18 [])))))∧vm_look_j1 m_2 stat_13 box_14 trap_15 feed_18 took_22 sent_26 fram_33 i53=some r∧Le μ0 μx∧Sq μx w0 w (.blk b1 69 [.pointer (some ⟨b3,o4,none⟩),.iface 57 (.pointer (some ⟨b17,0,none⟩)),v12,.pointer (some ⟨b30,0,none⟩),.int .i64 stat_13,.int .i64 box_14,.int .i64 trap_15,v16,.nilFunc]::.blk b17 59 [.slice a19 feed_18.length c20,v23,.slice a27 sent_26.length c28]::.row v23 3 1 took_22.length cs24::.blk b30 114 [v31,v32,v34,v37]::.row v34 117 3 fram_33.length cs35::rsF)∧(fun (_:M)=>Elv v34 3 i53 b51 o52) μx) (by rintro _ _ ⟨_,_,_,_,rfl,_⟩; rfl) ?_ ?_
  ·refine cdw hS ?_; clear hS; intro w1 hS
   refine sf_start (fpi 0 [0,1,2,3,4,5,6,16,17] rfl (fpi 1 [1,2,3,4,5,6,16,17] rfl (fpi 2 [2,3,4,5,6,16,17] rfl (fr_ 3 [3,4,5,6,16,17] rfl (u_load ti66 (et (k10 d0)) ((hS.blk d0).cell d3)) (q10 p1) (fpi 4 [4,5,6,16,17] rfl (fpi 5 [5,6,16,17] rfl (fr_ 6 [6,16,17] rfl (u_load ti111 (et (k10 d3)) ((hS.blk d3).cell d2)) (q10 p4) (fpi 7 [7,8,9,10,11,12,13,14,15,16,17] rfl (fpi 8 [8,9,10,11,12,13,14,15,16,17] rfl (fpi 9 [9,10,11,12,13,14,15,16,17] rfl (fr_ 10 [10,11,12,13,14,15,16,17] rfl (u_load ti66 (et (k10 d7)) ((hS.blk d0).cell d3)) (q10 p8) (fpi 11 [11,12,13,14,15,16,17] rfl (fpi 12 [12,13,14,15,16,17] rfl (fr_ 13 [13,14,15,16,17] rfl (u_load ti111 (et (k20 d0)) ((hS.blk d3).cell d2)) (q20 p1) (sf1 rfl rfl rfl rfl (wn0 rfl) (su (u_lenv underlying111 (et (k20 d1)) (hS.get d4).isSl) (dt (q20 p2)) ?_))))))))))))))))
   refine ⟨(Mons.s (u_load ti111 (et (k10 d3)) ((hS.blk d3).cell d2)) (Mons.s (u_load ti66 (et (k10 d0)) ((hS.blk d0).cell d3)) Mons.z)),?_⟩
   obtain ⟨i55,g56,h⟩:=bI h
   refine fp 15 [15,16,17] rfl (u_subc (et (k20 d2)) ec g56) (q20 p3) ?_
   obtain ⟨x57,g58,h⟩:=bI h
   obtain ⟨b59,o60,pc61,cs62,sc63,ec64,e65,f66,m67,pn68,st69,m70⟩:=Row.elemS (α:=TVf) (hS.get d4) m36 rfl g58
   rw [ec64] at hS
   obtain rfl:=m67
   refine fp 16 [16,17] rfl (u_iax underlying111 ti117 (et (k10 d4)) (et (k20 d3)) e65) (q20 p4) (fpi 17 [17] rfl (sf_nil (xl ?_)))
   rw [← ec64] at hS
   exact ⟨_,_,rfl,(aK2 (aI (aK5 (aO10 (aO7 aZ))))),_,_,_,_,rfl,h,Le.r,hS,e65⟩
  ·rintro _ t w2 ⟨μ1,i53,b51,o52,rfl,h,le71,hS,m72⟩
   unfold vm_look_j1 at h
   refine nrm (mK2 (mi (mK5 (mO10 (mO7 mz))))) (xn ?_)
   refine cdw hS ?_; clear hS; intro w3 hS
   refine sf_start (fpi 0 [0,21] rfl (fpi 1 [1,2,3,4,5,6,7,12,13,14,19,20,21] rfl (fpi 2 [2,3,4,5,6,7,12,13,14,19,20,21] rfl (fpi 3 [3,4,5,6,7,12,13,14,19,20,21] rfl (fr_ 4 [4,5,6,7,12,13,14,19,20,21] rfl (u_load ti54 (et (k20 d8)) ((hS.blk d0).cell d0)) (q20 p9) (fpi 5 [5,6,7,12,13,14,19,20,21] rfl (fpi 6 [6,7,12,13,14,19,20,21] rfl (fr_ 7 [7,12,13,14,19,20,21] rfl (u_load ti35 (et (k30 d1)) ((m11 _ (le71 _ hS.a)).one d1)) (q30 p2) (fpi 8 [8,9,10,11,12,13,14,19,20,21] rfl (fpi 9 [9,10,11,12,13,14,19,20,21] rfl ?_))))))))))
   obtain ⟨x73,g74,h⟩:=bI h
   obtain ⟨b75,o76,pc77,cs78,sc79,ec80,e81,f82,m83,pn84,st85,m86⟩:=Row.elemS (α:=TVf) (hS.get d4) (m36.up le71) rfl g74
   obtain ⟨rfl,rfl⟩:=Elv.uniq m72 e81
   rw [ec80] at hS
   obtain rfl:=m83
   refine fpi 10 [10,11,12,13,14,19,20,21] rfl (fr_ 11 [11,12,13,14,19,20,21] rfl (u_load ti3 (et (k30 d5)) ((f82 _ _ _ (hS.get d4) rfl).one d0)) (q30 p6) ?_)
   obtain ⟨x87,g88,h⟩:=bI h
   obtain ⟨b89,o90,cs91,e92,f93,m94⟩:=SlR.elem (m10.up le71) g88
   obtain ⟨a95,c96,a98,c99,rfl,m97,m100⟩:=m94
   refine fp 12 [12,13,14,19,20,21] rfl (u_iax underlying35 ti103 (et (k30 d2)) (et (k30 d6)) e92) (q30 p7) (fpi 13 [13,14,19,20,21] rfl (fr_ 14 [14,19,20,21] rfl (u_load ti101 (et (k30 d8)) ((f93 _ hS.a).one d5)) (q30 p9) (fpi 15 [15,16,17,18,19,20,21] rfl (fpi 16 [16,17,18,19,20,21] rfl (fpi 17 [17,18,19,20,21] rfl (fr_ 18 [18,19,20,21] rfl (u_load ti3 (et (k40 d2)) ((f82 _ _ _ (hS.get d4) rfl).one d1)) (q40 p3) ?_))))))
   obtain ⟨x101,g102,h⟩:=bI h
   obtain ⟨b103,o104,cs105,e106,f107,m108⟩:=SlR.elem m100 g102
   obtain rfl:=m108
   refine fp 19 [19,20,21] rfl (u_iax underlying101 ti120 (et (k30 d9)) (et (k40 d3)) e106) (q40 p4) (fr_ 20 [20,21] rfl (u_loads ti120 (et (k40 d4)) (f107 _ hS.a) rfl) (q40 p5) ?_)
   obtain ⟨r109,g110,h⟩:=bI h
   replace hS:=((hS.bg Y2).bg Y2).bg Y2
   refine sf1 rfl rfl rfl rfl (wn0 rfl) (s_callv isfn44 ef (e1 (et (k20 d5)) (e1 (et (k40 d5)) e0)) (vm_waits_w (hg.t le71) (m21.up le71) (m25.up le71) (m29.up le71) g110 hS) ?_)
   rintro _ w4 ⟨μ2,a112,c113,v115,cs116,a118,c119,rfl,le111,hS,m114,m117,m120⟩
   refine po ?_
   refine ⟨Mons.z,?_⟩
   refine sf_nil ?_
   obtain rfl:=oI h
   refine end0 rfl ?_
   exact ⟨_,_,_,_,_,_,_,_,((pc77++([.int .i64 x73.unit,.int .i64 x73.pc,.int .i64 x73.base]++sc79)):List Value),rfl,(le71.t le111),hS,m114,m117,m120,(m86.up le111)⟩
 ·replace h:=iF h50 h
  refine cskip ?_
  obtain rfl:=oI h
  refine end0 rfl ?_
  exact ⟨_,_,_,_,_,_,_,_,_,rfl,Le.r,hS,m21,m25,m29,m36⟩
theorem vm_call_w (hg:Le Gm μ0) {m_2:TModule} {stat_14 box_15 trap_16:Int} {fram_21:List TVf} {l_26:List Int} {live_30 min_31 most_32 p_2:Int} {r:Int×Int×Int×List TVf×List Int×Int×Int×Int} (m7:Sl μ0 a5 c6 m_2.Boxes) (m10:Sl μ0 a8 c9 m_2.Units) (m11:At μ0 b3 o4 [.slice a5 m_2.Boxes.length c6,.slice a8 m_2.Units.length c9]) (m24:Rw μ0 cs23 fram_21) (m29:Rw μ0 cs28 l_26) (h:vm_call m_2 stat_14 box_15 trap_16 fram_21 l_26 live_30 min_31 most_32 p_2=some r) (hS:Sq μ0 w0 w (.blk b1 69 [.pointer (some ⟨b3,o4,none⟩),v12,v13,.pointer (some ⟨b18,0,none⟩),.int .i64 stat_14,.int .i64 box_15,.int .i64 trap_16,v17,.nilFunc]::.blk b18 114 [v19,v20,v22,.pointer (some ⟨b25,0,none⟩)]::.row v22 117 3 fram_21.length cs23::.blk b25 181 [v27,.int .i64 live_30,.int .i64 min_31,.int .i64 most_32]::.row v27 2 1 l_26.length cs28::rsF)):CallsV prog 91 [.pointer (some ⟨b1,0,none⟩),.int .i64 p_2] w (fun v w'=>∃ (μ':M) (v33:Value) (cs34:List Value) (v36:Value) (cs37:List Value),v=.tuple ⟨[]⟩∧Le μ0 μ'∧Sq μ' w0 w' (.blk b1 69 [.pointer (some ⟨b3,o4,none⟩),v12,v13,.pointer (some ⟨b18,0,none⟩),.int .i64 r.1,.int .i64 r.2.1,.int .i64 r.2.2.1,v17,.nilFunc]::.blk b18 114 [v19,v20,v33,.pointer (some ⟨b25,0,none⟩)]::.row v33 117 3 r.2.2.2.1.length cs34::.blk b25 181 [v36,.int .i64 r.2.2.2.2.2.1,.int .i64 r.2.2.2.2.2.2.1,.int .i64 r.2.2.2.2.2.2.2]::.row v36 2 1 r.2.2.2.2.1.length cs37::rsF)∧Rw μ' cs34 r.2.2.2.1∧Rw μ' cs37 r.2.2.2.2.1):=by
 unfold vm_call at h
 refine enter func91 rfl (frm:=_::_::u1 (u2 (u10 (u50 [])))) rfl (cseq ?_)
 refine cdw hS ?_; clear hS; intro w1 hS
 refine sf_start (fpi 0 [0,1,2,3,13,14] rfl (fpi 1 [1,2,3,13,14] rfl (fpi 2 [2,3,13,14] rfl (fr_ 3 [3,13,14] rfl (u_load ti66 (et d9) ((hS.blk d0).cell d3)) (q10 p0) (fpi 4 [4,5,6,7,8,9,10,12,14] rfl (fpi 5 [5,6,7,8,9,10,12,14] rfl (fpi 6 [6,7,8,9,10,12,14] rfl (fr_ 7 [7,8,9,10,12,14] rfl (u_load ti54 (et (k10 d3)) ((hS.blk d0).cell d0)) (q10 p4) (fpi 8 [8,9,10,12,14] rfl (fpi 9 [9,10,12,14] rfl (fr_ 10 [10,12,14] rfl (u_load ti35 (et (k10 d6)) ((m11 _ hS.a).one d1)) (q10 p7) (fpi 11 [11,12,14] rfl ?_))))))))))))
 obtain ⟨x39,g40,h⟩:=bI h
 obtain ⟨b41,o42,cs43,e44,f45,m46⟩:=SlR.elem m10 g40
 obtain ⟨a47,c48,a50,c51,rfl,m49,m52⟩:=m46
 refine fp 12 [12,14] rfl (u_iax underlying35 ti103 (et (k10 d7)) (et (k10 d8)) e44) (q10 p9) (fpi 13 [13,14] rfl (fpi 14 [14] rfl (sf_nil (xn (cseq ?_)))))
 refine ccutE (rg 20 10) (by decide) (fun m w=>∃ μx i53,m=(yK6 (.i (.int .i64 i53)::(yK10 (yK3 (yO10 20 [])))))∧vm_call_j1 p_2 stat_14 box_15 trap_16 fram_21 l_26 live_30 min_31 most_32 x39 i53=some r∧Le μ0 μx∧Sq μx w0 w (.blk b1 69 [.pointer (some ⟨b3,o4,none⟩),v12,v13,.pointer (some ⟨b18,0,none⟩),.int .i64 stat_14,.int .i64 box_15,.int .i64 trap_16,v17,.nilFunc]::.blk b18 114 [v19,v20,v22,.pointer (some ⟨b25,0,none⟩)]::.row v22 117 3 fram_21.length cs23::.blk b25 181 [v27,.int .i64 live_30,.int .i64 min_31,.int .i64 most_32]::.row v27 2 1 l_26.length cs28::rsF)) (by rintro _ _ ⟨_,_,rfl,_⟩; rfl) ?_ ?_
 ·refine cdw hS ?_; clear hS; intro w2 hS
  refine sf_start (fpi 0 [0,1,2,3,4,9,10] rfl (fpi 1 [1,2,3,4,9,10] rfl (fpi 2 [2,3,4,9,10] rfl (fr_ 3 [3,4,9,10] rfl (u_load ti112 (et (k20 d2)) ((hS.blk d1).cell d3)) (q20 p3) (fpi 5 [5,6,7,8,9,10] rfl (fpi 6 [6,7,8,9,10] rfl (fpi 7 [7,8,9,10] rfl (fr_ 8 [8,9,10] rfl (u_load ti3 (et (k20 d7)) ((f45 _ hS.a).one d1)) (q20 p8) ?_))))))))
  obtain ⟨r54,g55,h⟩:=bI h
  replace hS:=hS.bg Y3
  refine sf1 rfl rfl rfl rfl (wn0 rfl) (s_callv isfn88 ef (e1 (et (k20 d3)) e0) (st_live_w hg g55 hS) ?_)
  rintro _ w3 ⟨μ1,rfl,le56,hS⟩
  refine po ?_
  refine ⟨(Mons.s (u_load ti3 (et (k20 d7)) ((f45 _ (le56 _ hS.a)).one d1)) Mons.z),?_⟩
  obtain ⟨i57,g58,h⟩:=bI h
  refine fp 9 [9,10] rfl (u_subc (et (k20 d4)) (et (k20 d8)) g58) (q20 p9) (fpi 10 [10] rfl (sf_nil (xl ?_)))
  replace hS:=((((hS.bg Y4).bg Y1).bg Y4).bg Y4).bg Y4
  exact ⟨_,_,rfl,(aK6 (aI (aK10 (aK3 (aO10 aZ))))),_,_,rfl,h,le56,hS⟩
 ·rintro _ t w4 ⟨μ2,i53,rfl,h,le59,hS⟩
  unfold vm_call_j1 at h
  refine nrm (mK6 (mi (mK10 (mK3 (mO10 mz))))) (xn (cseq (nz ?_)))
  iterate 3 refine st ?_
  refine ld ((hS.blk d1).cell d2) (wl (su (u_lenv underlying111 (et (k30 d3)) (hS.get d2).isSl) (dt (q30 p4)) (st (nw ?_))))
  refine cifd (et (k30 d5)) (xT h) fun h60=>?_
  replace h:=iF h60 h
  refine cskip (xn (nz ?_))
  iterate 4 refine st ?_
  refine ld ((hS.blk d1).cell d2) ?_
  iterate 2 refine st ?_
  refine wl (s_build ti117 pl117 (Fl.o rfl (et (k40 d3)) rfl rfl p0 (Fl.o rfl (et (k40 d4)) rfl rfl p2 Fl.z)) (dt (q40 p5)) ?_)
  refine wl (s_bsl1 underlying111 ti117 rfl (et (k40 d5)) rfl hS ?_); clear hS; intro b61 w5 hb62 hS; refine po ?_
  obtain ⟨l65,g66,h⟩:=bI h
  have m67:Rw μ2 [.int .i64 p_2,.int .i64 0,.int .i64 i53] [(TVf.mk p_2 0 i53)]:=(Rw.one (α:=TVf) rfl)
  have m64:=Rw.app (m24.up le59) m67 g66
  refine wl (s_app1 underlying111 ti117 rfl (et (k40 d2)) (et (k40 d6)) hS d3 (hS.blk d0).cells m67 rfl g66 (by decide) ?_); clear hS; intro v63 w6 rs_ hp_ hS; cases (show _=rs_ from hp_)
  replace hS:=Sep.reput hS p3; refine po ?_
  replace hS:=hS.drop Rm.z
  iterate 2 refine st ?_
  refine wl (s_store1 ti111 (et (k40 d9)) (et (k40 d7)) (hS.get d2).cellV hS d1 p2 rfl p1 dn ?_)
  clear hS; intro w7 hS
  refine ny ?_
  refine cdw hS ?_; clear hS; intro w8 hS
  refine sf_start (fpi 0 [0,1,2,3,4,9] rfl (fpi 1 [1,2,3,4,9] rfl (fpi 2 [2,3,4,9] rfl (fr_ 3 [3,4,9] rfl (u_load ti27 (et (k50 d2)) ((f45 _ (le59 _ hS.a)).one d2)) (q50 p3) (fp 4 [4,9] rfl (u_lensl underlying27 (et (k50 d3))) (q50 p4) (fpi 5 [5,6,7,8,9] rfl (fpi 6 [6,7,8,9] rfl (fpi 7 [7,8,9] rfl (fr_ 8 [8,9] rfl (u_load ti3 (et (k50 d7)) ((f45 _ (le59 _ hS.a)).one d1)) (q50 p8) ?_)))))))))
  obtain ⟨i68,g69,h⟩:=bI h
  refine fp 9 [9] rfl (u_subc (et (k50 d4)) (et (k50 d8)) g69) (q50 p9) (fpi 10 [10] rfl (sf_nil (xn (cblock ?_))))
  refine cloopE (rg 61 4) (by decide) (fun n m w=>∃ μx i78 i79 i80 i81 i82 i83 i84 l87 v85 cs86,m=(yK50 (yK10 (.i (.int .i64 i78)::(yO4 61 []))))∧vm_call_l1 l65 i68 n i78 i79 i80 i81 i82 i83 i84 l87=some r∧Le μ2 μx∧Sq μx w0 w (.blk b1 69 [.pointer (some ⟨b3,o4,none⟩),v12,v13,.pointer (some ⟨b18,0,none⟩),.int .i64 i79,.int .i64 i80,.int .i64 i81,v17,.nilFunc]::.blk b18 114 [v19,v20,v63,.pointer (some ⟨b25,0,none⟩)]::.row v63 117 3 l65.length (cs23++[.int .i64 p_2,.int .i64 0,.int .i64 i53])::.blk b25 181 [v85,.int .i64 i82,.int .i64 i83,.int .i64 i84]::.row v85 2 1 l87.length cs86::rsF)∧Rw μx cs86 l87) (by rintro _ _ _ ⟨_,_,_,_,_,_,_,_,_,_,_,rfl,_⟩; rfl) _ _ (aK50 (aK10 (aI (aO4 aZ)))) ⟨_,0,stat_14,box_15,trap_16,live_30,min_31,most_32,l_26,v27,cs28,rfl,h,Le.r,hS,(m29.up le59)⟩ ?_
  rintro n_1 _ t w9 ⟨μ3,i78,i79,i80,i81,i82,i83,i84,l87,v85,cs86,rfl,h,le97,hS,m98⟩
  cases n_1 with
  | zero=>cases h
  | succ n_1 =>
  unfold vm_call_l1 at h
  refine cnrm (mK50 (mK10 (mi (mO4 mz)))) (nz (st (ny ?_)))
  refine cifd (et (k60 d1)) (fun h99=>?_) (fun h99=>?_)
  ·replace h:=iT h99 h
   refine cskip (xn (cseq (cblock (creg (st ?_)))))
   obtain ⟨r100,g101,h⟩:=bI h
   replace hS:=(((hS.bg Y4).bg Y4).bg Y3).bg Y3
   refine ca (vm_push_w (hg.t (le59.t le97)) m98 g101 hS) ?_
   rintro _ w10 ⟨μ4,v103,cs104,rfl,le102,hS,m105⟩
   refine po (wnil ?_)
   refine (fun h=>bn (xn h)) ?_
   refine creg ?_
   obtain ⟨i106,g107,h⟩:=bI h
   refine wl (su (u_addc (et (k60 d0)) ec g107) (dt (q60 p4)) (st (wnil (xl ?_))))
   replace hS:=((((hS.bg Y3).bg Y3).bg Y4).bg Y4).bg Y4
   exact ⟨n_1,_,_,rfl,(aK50 (aK10 (aI (aO4 aZ)))),⟨_,i106,r100.1,r100.2.1,r100.2.2.1,r100.2.2.2.2.1,r100.2.2.2.2.2.1,r100.2.2.2.2.2.2,r100.2.2.2.1,v103,cs104,rfl,h,(le97.t le102),hS,m105⟩,Nat.lt_succ_self _⟩
  ·replace h:=iF h99 h
   refine cexit ?_
   refine (fun h=>xe (xe (bh h))) ?_
   obtain rfl:=oI h
   refine end0 rfl ?_
   exact ⟨_,_,((cs23++[.int .i64 p_2,.int .i64 0,.int .i64 i53]):List Value),_,_,rfl,(le59.t le97),hS,(m64.up le97),m98⟩
theorem vm_end_w (hg:Le Gm μ0) {stat_5 box_6 trap_7 stat_10:Int} {l_13:List Int} {live_17 min_18 most_19:Int} {r:Int×Int×Int×Int×List Int×Int×Int×Int} (m16:Rw μ0 cs15 l_13) (h:vm_end stat_5 box_6 trap_7 stat_10 l_13 live_17 min_18 most_19=some r) (hS:Sq μ0 w0 w (.blk b1 69 [v2,v3,v4,.pointer (some ⟨b9,0,none⟩),.int .i64 stat_5,.int .i64 box_6,.int .i64 trap_7,v8,.nilFunc]::.blk b9 114 [.int .i64 stat_10,.pointer none,v11,.pointer (some ⟨b12,0,none⟩)]::.blk b12 181 [v14,.int .i64 live_17,.int .i64 min_18,.int .i64 most_19]::.row v14 2 1 l_13.length cs15::rsF)):CallsV prog 92 [.pointer (some ⟨b1,0,none⟩)] w (fun v w'=>∃ (μ':M) (v20:Value) (cs21:List Value),v=.tuple ⟨[]⟩∧Le μ0 μ'∧Sq μ' w0 w' (.blk b1 69 [v2,v3,v4,.pointer (some ⟨b9,0,none⟩),.int .i64 r.1,.int .i64 r.2.1,.int .i64 r.2.2.1,v8,.nilFunc]::.blk b9 114 [.int .i64 r.2.2.2.1,.pointer none,v11,.pointer (some ⟨b12,0,none⟩)]::.blk b12 181 [v20,.int .i64 r.2.2.2.2.2.1,.int .i64 r.2.2.2.2.2.2.1,.int .i64 r.2.2.2.2.2.2.2]::.row v20 2 1 r.2.2.2.2.1.length cs21::rsF)∧Rw μ' cs21 r.2.2.2.2.1):=by
 unfold vm_end at h
 refine enter func92 rfl (frm:=_::u1 (u10 (u20 []))) rfl (nz ?_)
 iterate 3 refine st ?_
 refine ld ((hS.blk d0).cell d3) (st (nx ?_))
 iterate 3 refine st ?_
 refine wl (s_store1 ti3 (et d9) ec rfl hS d1 p0 rfl p1 dn ?_)
 clear hS; intro w1 hS
 refine ny (nz ?_)
 iterate 3 refine st ?_
 refine ld ((hS.blk d1).cell d1) (wl (su (u_nilpeql underlying66 (et (k10 d3))) (dt (q10 p4)) (nw (cift (et (k10 d4)) (nz ?_)))))
 iterate 3 refine st ?_
 refine wl (s_store1 ti3 (et (k10 d7)) ec rfl hS d0 p4 rfl p0 dn ?_)
 clear hS; intro w2 hS
 refine nx (st ?_)
 obtain ⟨r23,g24,h⟩:=bI h
 refine ca (vm_tell_w hg g24 hS) ?_
 rintro _ w3 ⟨μ1,rfl,le25,hS⟩
 refine po (nw (cret (xr ?_)))
 obtain rfl:=oI h
 refine ret0 rfl ?_
 exact ⟨_,_,_,rfl,le25,hS,(m16.up le25)⟩
theorem vm_units_w (hg:Le Gm μ0) {m_2:TModule} {stat_14 box_15 trap_16 stat_19:Int} {fram_20:List TVf} {l_25:List Int} {live_29 min_30 most_31:Int} {p_2:TInstr} {r:Int×Int×Int×Int×List TVf×List Int×Int×Int×Int} (m7:Sl μ0 a5 c6 m_2.Boxes) (m10:Sl μ0 a8 c9 m_2.Units) (m11:At μ0 b3 o4 [.slice a5 m_2.Boxes.length c6,.slice a8 m_2.Units.length c9]) (m23:Rw μ0 cs22 fram_20) (m28:Rw μ0 cs27 l_25) (h:vm_units m_2 stat_14 box_15 trap_16 stat_19 fram_20 l_25 live_29 min_30 most_31 p_2=some r) (hS:Sq μ0 w0 w (.blk b1 69 [.pointer (some ⟨b3,o4,none⟩),v12,v13,.pointer (some ⟨b18,0,none⟩),.int .i64 stat_14,.int .i64 box_15,.int .i64 trap_16,v17,.nilFunc]::.blk b18 114 [.int .i64 stat_19,.pointer none,v21,.pointer (some ⟨b24,0,none⟩)]::.row v21 117 3 fram_20.length cs22::.blk b24 181 [v26,.int .i64 live_29,.int .i64 min_30,.int .i64 most_31]::.row v26 2 1 l_25.length cs27::rsF)):CallsV prog 51 [.pointer (some ⟨b1,0,none⟩),.agg ⟨[.int .i64 p_2.Op,.int .i64 p_2.A,.int .i64 p_2.N]⟩] w (fun v w'=>∃ (μ':M) (v32:Value) (cs33:List Value) (v35:Value) (cs36:List Value),v=.tuple ⟨[]⟩∧Le μ0 μ'∧Sq μ' w0 w' (.blk b1 69 [.pointer (some ⟨b3,o4,none⟩),v12,v13,.pointer (some ⟨b18,0,none⟩),.int .i64 r.1,.int .i64 r.2.1,.int .i64 r.2.2.1,v17,.nilFunc]::.blk b18 114 [.int .i64 r.2.2.2.1,.pointer none,v32,.pointer (some ⟨b24,0,none⟩)]::.row v32 117 3 r.2.2.2.2.1.length cs33::.blk b24 181 [v35,.int .i64 r.2.2.2.2.2.2.1,.int .i64 r.2.2.2.2.2.2.2.1,.int .i64 r.2.2.2.2.2.2.2.2]::.row v35 2 1 r.2.2.2.2.2.1.length cs36::rsF)∧Rw μ' cs33 r.2.2.2.2.1∧Rw μ' cs36 r.2.2.2.2.2.1):=by
 unfold vm_units at h
 refine enter func51 rfl (frm:=_::_::u2 (u2 (u5 (u20 (u50 (u50 (u50 []))))))) rfl (nz ?_)
 refine wl (s_box (et d1) rfl hS ?_); clear hS; intro b38 w1 hb39 hS; refine po ?_
 refine nx (st (ld ((hS.blk d0).cell d0) (nw (cblock (nz ?_)))))
 iterate 2 refine st ?_
 refine nw ?_
 refine cifd (et (k10 d4)) (fun h40=>?_) (fun h40=>?_)
 ·replace h:=iT h40 h
  refine creg ?_
  iterate 2 refine st ?_
  refine ld ((hS.blk d0).cell d1) ?_
  obtain ⟨r41,g42,h⟩:=bI h
  replace hS:=((((hS.bg Y5).bg Y5).bg Y5).bg Y5).bg Y5
  refine ca (vm_call_w hg m7 m10 m11 m23 m28 g42 hS) ?_
  rintro _ w2 ⟨μ1,v44,cs45,v47,cs48,rfl,le43,hS,m46,m49⟩
  refine po (wnil (bn ?_))
  obtain rfl:=oI h
  refine end0 rfl ?_
  replace hS:=hS.drop (Rm.s (Rm.s (Rm.s (Rm.s (Rm.s Rm.z)))))
  exact ⟨_,_,_,_,_,rfl,le43,hS,m46,m49⟩
 ·replace h:=iF h40 h
  refine nz ?_
  iterate 2 refine st ?_
  refine nw ?_
  refine cifd (et (k20 d0)) (fun h50=>?_) (fun h50=>?_)
  ·replace h:=iT h50 h
   refine nz (st ?_)
   obtain ⟨r51,g52,h⟩:=bI h
   replace hS:=(((hS.bg Y5).bg Y5).bg Y4).bg Y4
   refine ca (vm_pop_w hg m28 g52 hS) ?_
   rintro _ w3 ⟨μ2,v54,cs55,rfl,le53,hS,m56⟩
   refine po (st (nx ?_))
   iterate 3 refine st ?_
   refine ld ((hS.blk d0).cell d3) (st (ny ?_))
   refine ccutE (rg 28 12) (by decide) (fun m w=>∃ μx b57 i58 i59 i60,m=(yK6 (.i (.pointer (some ⟨b57,0,none⟩))::(yK20 (yK1 (yO10 28 (yO2 38 []))))))∧vm_units_j1 stat_19 fram_20 r51 i58 i59 i60=some r∧Le μ2 μx∧Sq μx w0 w (.blk b1 69 [.pointer (some ⟨b3,o4,none⟩),v12,v13,.pointer (some ⟨b18,0,none⟩),.int .i64 r51.2.1,.int .i64 r51.2.2.1,.int .i64 r51.2.2.2.1,v17,.nilFunc]::.blk b18 114 [.int .i64 stat_19,.pointer none,v21,.pointer (some ⟨b24,0,none⟩)]::.row v21 117 3 fram_20.length cs22::.blk b24 181 [v54,.int .i64 r51.2.2.2.2.2.1,.int .i64 r51.2.2.2.2.2.2.1,.int .i64 r51.2.2.2.2.2.2.2]::.row v54 2 1 r51.2.2.2.2.1.length cs55::.blk b57 117 [.int .i64 i58,.int .i64 i59,.int .i64 i60]::rsF)) (by rintro _ _ ⟨_,_,_,_,_,rfl,_⟩; rfl) ?_ ?_
   ·refine cdw hS ?_; clear hS; intro w4 hS
    refine sf_start (fpi 0 [0,1,2,3,10,11,13] rfl (fpi 1 [1,2,3,10,11,13] rfl (fpi 2 [2,3,10,11,13] rfl (fr_ 3 [3,10,11,13] rfl (u_load ti111 (et (k30 d0)) ((hS.blk d1).cell d2)) (q30 p1) (fpi 4 [4,5,6,7,8,9,10,11,13] rfl (fpi 5 [5,6,7,8,9,10,11,13] rfl (fpi 6 [6,7,8,9,10,11,13] rfl (fr_ 7 [7,8,9,10,11,13] rfl (u_load ti111 (et (k30 d4)) ((hS.blk d1).cell d2)) (q30 p5) ?_))))))))
    refine sf2 (i:=8) (j:=12) rfl rfl rfl rfl rfl rfl rfl (wn0 rfl) (wn0 rfl) ?_ ?_
    ·refine id (su (u_lenv underlying111 (et (k30 d5)) (hS.get d5).isSl) (dt (q30 p6)) ?_)
     refine ⟨(Mons.s (u_load ti111 (et (k30 d0)) ((hS.blk d1).cell d2)) Mons.z),?_⟩
     obtain ⟨i61,g62,h⟩:=bI h
     refine fp 9 [9,10,11,13] rfl (u_subc (et (k30 d6)) ec g62) (q30 p7) ?_
     obtain ⟨x63,g64,h⟩:=bI h
     obtain ⟨b65,o66,pc67,cs68,sc69,ec70,e71,f72,m73,pn74,st75,m76⟩:=Row.elemS (α:=TVf) (hS.get d5) (m23.up le53) rfl g64
     rw [ec70] at hS
     obtain rfl:=m73
     refine fp 10 [10,11,13] rfl (u_iax underlying111 ti117 (et (k30 d1)) (et (k30 d7)) e71) (q30 p8) (fr_ 11 [11,13] rfl (u_loads ti117 (et (k30 d8)) (f72 _ _ _ (hS.get d5) rfl) rfl) (q30 p9) ?_)
     refine sf1 rfl rfl rfl rfl (wn0 rfl) (s_alloc ti117 hS ?_); clear hS; intro b77 w5 hb78 hS; refine po ?_
     refine ⟨(Mons.s (u_loads ti117 (et (k30 d8)) (f72 _ _ _ (hS.get d6) rfl) rfl) (Mons.s (u_load ti111 (et (k30 d0)) ((hS.blk d2).cell d2)) Mons.z)),?_⟩
     refine sf1 rfl rfl rfl rfl (wn0 rfl) (s_storeA ti117 (et d6) (et (k30 d9)) rfl rfl hS d0 rfl p0 dn ?_)
     clear hS; intro w6 hS
     refine ⟨Mons.z,?_⟩
     refine sf_nil (xl ?_)
     rw [← ec70] at hS
     replace hS:=(((((hS.drop (Rm.s (Rm.s (Rm.s (Rm.s (Rm.s Rm.z)))))).bg Y4).bg Y4).bg Y5).bg Y5).bg Y5
     exact ⟨_,_,rfl,(aK6 (aI (aK20 (aK1 (aO10 (aO2 aZ)))))),_,_,x63.unit,x63.pc,x63.base,rfl,h,Le.r,hS⟩
    ·obtain ⟨i61,g62,h⟩:=bI h
     obtain ⟨x63,g64,h⟩:=bI h
     refine id (s_alloc ti117 hS ?_); clear hS; intro b79 w7 hb80 hS; refine po ?_
     refine ⟨(Mons.s (u_load ti111 (et (k30 d4)) ((hS.blk d2).cell d2)) (Mons.s (u_load ti111 (et (k30 d0)) ((hS.blk d2).cell d2)) Mons.z)),?_⟩
     refine sf1 rfl rfl rfl rfl (wn0 rfl) (su (u_lenv underlying111 (et (k30 d5)) (hS.get d6).isSl) (dt (q30 p6)) ?_)
     refine ⟨(Mons.s (u_load ti111 (et (k30 d0)) ((hS.blk d2).cell d2)) Mons.z),?_⟩
     refine fp 9 [9,10,11,13] rfl (u_subc (et (k30 d6)) ec g62) (q30 p7) ?_
     obtain ⟨b81,o82,pc83,cs84,sc85,ec86,e87,f88,m89,pn90,st91,m92⟩:=Row.elemS (α:=TVf) (hS.get d6) (m23.up le53) rfl g64
     rw [ec86] at hS
     obtain rfl:=m89
     refine fp 10 [10,11,13] rfl (u_iax underlying111 ti117 (et (k30 d1)) (et (k30 d7)) e87) (q30 p8) (fr_ 11 [11,13] rfl (u_loads ti117 (et (k30 d8)) (f88 _ _ _ (hS.get d6) rfl) rfl) (q30 p9) (sf1 rfl rfl rfl rfl (wn0 rfl) (s_storeA ti117 (et d6) (et (k30 d9)) rfl rfl hS d0 rfl p0 dn ?_)))
     clear hS; intro w8 hS
     refine ⟨Mons.z,?_⟩
     refine sf_nil (xl ?_)
     rw [← ec86] at hS
     replace hS:=(((((hS.drop (Rm.s (Rm.s (Rm.s (Rm.s (Rm.s Rm.z)))))).bg Y4).bg Y4).bg Y5).bg Y5).bg Y5
     exact ⟨_,_,rfl,(aK6 (aI (aK20 (aK1 (aO10 (aO2 aZ)))))),_,_,x63.unit,x63.pc,x63.base,rfl,h,Le.r,hS⟩
   ·rintro _ t w9 ⟨μ3,b57,i58,i59,i60,rfl,h,le93,hS⟩
    unfold vm_units_j1 at h
    refine nrm (mK6 (mi (mK20 (mK1 (mO10 (mO2 mz)))))) (xn (cseq ?_))
    refine ccutE (rg 40 14) (by decide) (fun m w=>∃ μx l96 v94 cs95,m=(yK20 (yK20 (yO10 40 (yO4 50 []))))∧vm_units_j2 stat_19 r51 i60 l96=some r∧Le μ3 μx∧Sq μx w0 w (.blk b1 69 [.pointer (some ⟨b3,o4,none⟩),v12,v13,.pointer (some ⟨b18,0,none⟩),.int .i64 r51.2.1,.int .i64 r51.2.2.1,.int .i64 r51.2.2.2.1,v17,.nilFunc]::.blk b18 114 [.int .i64 stat_19,.pointer none,v94,.pointer (some ⟨b24,0,none⟩)]::.row v94 117 3 l96.length cs95::.blk b24 181 [v54,.int .i64 r51.2.2.2.2.2.1,.int .i64 r51.2.2.2.2.2.2.1,.int .i64 r51.2.2.2.2.2.2.2]::.row v54 2 1 r51.2.2.2.2.1.length cs55::.blk b57 117 [.int .i64 i58,.int .i64 i59,.int .i64 i60]::rsF)∧Rw μx cs95 l96) (by rintro _ _ ⟨_,_,_,_,rfl,_⟩; rfl) ?_ ?_
    ·refine cdw hS ?_; clear hS; intro w10 hS
     refine sf_start (fpi 0 [0,12,13,14] rfl (fpi 1 [1,2,3,4,11,12,13,14] rfl (fpi 2 [2,3,4,11,12,13,14] rfl (fpi 3 [3,4,11,12,13,14] rfl (fr_ 4 [4,11,12,13,14] rfl (u_load ti111 (et (k40 d3)) ((hS.blk d1).cell d2)) (q40 p4) (fpi 5 [5,6,7,8,9,10,11,12,13,14] rfl (fpi 6 [6,7,8,9,10,11,12,13,14] rfl (fpi 7 [7,8,9,10,11,12,13,14] rfl (fr_ 8 [8,9,10,11,12,13,14] rfl (u_load ti111 (et (k40 d7)) ((hS.blk d1).cell d2)) (q40 p8) (sf1 rfl rfl rfl rfl (wn0 rfl) (su (u_lenv underlying111 (et (k40 d8)) (hS.get d2).isSl) (dt (q40 p9)) ?_)))))))))))
     refine ⟨(Mons.s (u_load ti111 (et (k40 d3)) ((hS.blk d1).cell d2)) Mons.z),?_⟩
     obtain ⟨i98,g99,h⟩:=bI h
     refine fp 10 [10,11,12,13,14] rfl (u_subc (et (k40 d9)) ec g99) (q50 p0) ?_
     obtain ⟨l100,g101,h⟩:=bI h
     obtain ⟨v102,cs107,e103,hb104,hr105,m106⟩:=Row.cutT (α:=TVf) (hS.get d2) (m23.up (le53.t le93)) g101
     replace hS:=hS.reRow d2 hb104 hr105 p2
     refine fp 11 [11,12,13,14] rfl (u_slc underlying111 ti117 (et (k40 d4)) .n (.s (et (k50 d0))) e103) (q50 p1) (fpi 12 [12,13,14] rfl (fpi 13 [13,14] rfl (sf1 rfl rfl rfl rfl (wn0 rfl) (s_store1 ti111 (et (k50 d3)) (et (k50 d1)) (hS.get d2).cellV hS d1 p2 rfl p1 dn ?_))))
     clear hS; intro w11 hS
     refine ⟨Mons.z,?_⟩
     refine sf_nil (xl ?_)
     exact ⟨_,_,rfl,(aK20 (aK20 (aO10 (aO4 aZ)))),_,_,_,_,rfl,h,Le.r,hS,m106⟩
    ·rintro _ t w12 ⟨μ4,l96,v94,cs95,rfl,h,le108,hS,m109⟩
     unfold vm_units_j2 at h
     refine nrm (mK20 (mK20 (mO10 (mO4 mz)))) (xn (cseq ?_))
     refine ccutE (rg 54 13) (by decide) (fun m w=>∃ μx i110 i111 i112 l115 v113 cs114,m=(yK50 (yK4 (yO10 54 (yO3 64 []))))∧vm_units_j3 stat_19 r51 l96 i110 i111 i112 l115=some r∧Le μ4 μx∧Sq μx w0 w (.blk b1 69 [.pointer (some ⟨b3,o4,none⟩),v12,v13,.pointer (some ⟨b18,0,none⟩),.int .i64 r51.2.1,.int .i64 r51.2.2.1,.int .i64 r51.2.2.2.1,v17,.nilFunc]::.blk b18 114 [.int .i64 stat_19,.pointer none,v94,.pointer (some ⟨b24,0,none⟩)]::.row v94 117 3 l96.length cs95::.blk b24 181 [v113,.int .i64 i110,.int .i64 i111,.int .i64 i112]::.row v113 2 1 l115.length cs114::rsF)∧Rw μx cs114 l115) (by rintro _ _ ⟨_,_,_,_,_,_,_,rfl,_⟩; rfl) ?_ ?_
     ·refine cdw hS ?_; clear hS; intro w13 hS
      refine sf_start (fpi 0 [0,1,2,3,12] rfl (fpi 1 [1,2,3,12] rfl (fpi 2 [2,3,12] rfl (fr_ 3 [3,12] rfl (u_load ti112 (et (k50 d6)) ((hS.blk d1).cell d3)) (q50 p7) (fpi 4 [4,5,6,7,8,11,12] rfl (fpi 5 [5,6,7,8,11,12] rfl (fpi 6 [6,7,8,11,12] rfl (fr_ 7 [7,8,11,12] rfl (u_load ti112 (et (k60 d0)) ((hS.blk d1).cell d3)) (q60 p1) (fpi 9 [9,10,11,12] rfl (fr_ 10 [10,11,12] rfl (u_load ti3 (et (k60 d3)) ((hS.blk d5).cell d2)) (q60 p4) ?_))))))))))
      obtain ⟨r117,g118,h⟩:=bI h
      replace hS:=hS.bg Y3
      refine sf1 rfl rfl rfl rfl (wn0 rfl) (s_callv isfn88 ef (e1 (et (k60 d1)) e0) (st_live_w (hg.t (le53.t (le93.t le108))) g118 hS) ?_)
      rintro _ w14 ⟨μ5,rfl,le119,hS⟩
      refine po ?_
      refine ⟨(Mons.s (u_load ti3 (et (k60 d3)) ((hS.blk d5).cell d2)) (Mons.s (u_load ti112 (et (k50 d6)) ((hS.blk d2).cell d3)) Mons.z)),?_⟩
      obtain ⟨i120,g121,h⟩:=bI h
      refine fp 11 [11,12] rfl (u_subc (et (k60 d2)) (et (k60 d4)) g121) (q60 p5) ?_
      obtain ⟨r122,g123,h⟩:=bI h
      replace hS:=(hS.bg Y4).bg Y1
      refine sf1 rfl rfl rfl rfl (wn0 rfl) (s_callv isfn89 ef (e1 (et (k50 d7)) (e1 (et (k60 d5)) e0)) (st_pop_w (hg.t (le53.t (le93.t (le108.t le119)))) (m56.up (le93.t (le108.t le119))) g123 hS) ?_)
      rintro _ w15 ⟨μ6,v125,cs126,rfl,le124,hS,m127⟩
      refine po ?_
      refine ⟨Mons.z,?_⟩
      refine sf_nil (xl ?_)
      replace hS:=(((((hS.drop (Rm.s (Rm.s (Rm.s (Rm.s (Rm.s Rm.z)))))).bg Y1).bg Y1).bg Y4).bg Y4).bg Y4
      exact ⟨_,_,rfl,(aK50 (aK4 (aO10 (aO3 aZ)))),_,r122.2.1,r122.2.2.1,r122.2.2.2,r122.1,_,_,rfl,h,(le119.t le124),hS,m127⟩
     ·rintro _ t w16 ⟨μ7,i110,i111,i112,l115,v113,cs114,rfl,h,le128,hS,m129⟩
      unfold vm_units_j3 at h
      refine nrm (mK50 (mK4 (mO10 (mO3 mz)))) (xn (creg ?_))
      iterate 2 refine st ?_
      obtain ⟨r130,g131,h⟩:=bI h
      replace hS:=(((hS.bg Y4).bg Y4).bg Y3).bg Y3
      refine ca (vm_push_w (hg.t (le53.t (le93.t (le108.t le128)))) m129 g131 hS) ?_
      rintro _ w17 ⟨μ8,v133,cs134,rfl,le132,hS,m135⟩
      refine po (wnil (bn ?_))
      obtain rfl:=oI h
      refine end0 rfl ?_
      replace hS:=((((hS.bg Y3).bg Y3).bg Y4).bg Y4).bg Y4
      exact ⟨_,_,_,_,_,rfl,(le53.t (le93.t (le108.t (le128.t le132)))),hS,(m109.up (le128.t le132)),m135⟩
  ·replace h:=iF h50 h
   refine nz ?_
   iterate 2 refine st ?_
   refine nw ?_
   refine cifd (et (k70 d0)) (fun h136=>?_) (xF h)
   replace h:=iT h136 h
   refine creg (st ?_)
   obtain ⟨r137,g138,h⟩:=bI h
   replace hS:=(((hS.bg Y5).bg Y5).bg Y4).bg Y4
   refine ca (vm_end_w hg m28 g138 hS) ?_
   rintro _ w18 ⟨μ9,v140,cs141,rfl,le139,hS,m142⟩
   refine po (wnil (bn ?_))
   obtain rfl:=oI h
   refine end0 rfl ?_
   replace hS:=(((((hS.drop (Rm.s (Rm.s (Rm.s (Rm.s Rm.z))))).bg Y3).bg Y3).bg Y4).bg Y4).bg Y4
   exact ⟨_,_,_,_,_,rfl,le139,hS,(m23.up le139),m142⟩
end Go.Proofs.YtaenlbapejigbaaGreatDoor
