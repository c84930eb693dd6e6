/- The shelf: texts of Wc. -/
import Derived.Test.YtegmgfljdeabeaaGreatDoorCXu
import Derived.Test.YtegmgfljdeabeaaGreatDoorCMd
import Derived.Test.YtegmgfljdeabeaaGreatDoorCWb
set_option linter.unusedSimpArgs false
set_option linter.unusedVariables false
set_option linter.unusedSectionVars false
set_option maxRecDepth 100000
set_option maxHeartbeats 20000000
namespace Go.Proofs.YtegmgfljdeabeaaGreatDoor
open Go.Wk Go.Xt Go.Y Tryz
variable {b1 b3 b4 b6 b9 b19 c2 c5 c12 c15 c21 c37 fu o2 o4 o5 o7 o10:Nat} {a1 a4 a11 a14 a36:Option Addr} {v1 v3 v4 v5 v24 v28 v32:Value} {cs2 cs5 cs25 cs29 cs33:List Value} {es20:List MapEntry} {μ0:M} {w0 w:World} {rsF:List Res}
theorem vf_copied_w (hg:Le Gm μ0) {p_1 r:TVerifyShape} (m3:Sl μ0 a1 c2 p_1.stack) (m6:Sl μ0 a4 c5 p_1.has) (h:vf_copied p_1=some r) (hS:Sq μ0 w0 w (rsF)):CallsV prog 80 [.agg ⟨[.slice a1 p_1.stack.length c2,.slice a4 p_1.has.length c5]⟩] w (fun v w'=>∃ (μ':M) (v7:Value) (cs8:List Value) (v10:Value) (cs11:List Value),v=.agg ⟨[v7,v10]⟩∧Le μ0 μ'∧Sq μ' w0 w' (.row v7 3 1 r.stack.length cs8::.row v10 4 1 r.has.length cs11::rsF)∧Rw μ' cs8 r.stack∧Rw μ' cs11 r.has):=by
 unfold vf_copied at h
 refine enter func80 rfl (frm:=_::u2 (u2 (u5 []))) rfl (nz ?_)
 refine wl (s_box (et d0) rfl hS ?_); clear hS; intro b13 w1 hb14 hS; refine po ?_
 refine wl (s_alloc ti172 hS ?_); clear hS; intro b15 w2 hb16 hS; refine po ?_
 refine ny ?_
 refine ccutE (List.range' 3 7) (by decide) (fun m w=>∃ μx l19 v17 cs18 l23 v21 cs22,m=(yK3 (yO7 3 []))∧vf_copied_j1 l19 l23=some r∧Le μ0 μx∧Sq μx w0 w (.blk b15 172 [v17,v21]::.row v17 3 1 l19.length cs18::.row v21 4 1 l23.length cs22::rsF)∧Rw μx cs18 l19∧Rw μx cs22 l23) (by rintro _ _ ⟨_,_,_,_,_,_,_,rfl,_⟩; rfl) ?_ ?_
 ·refine cdraw (by kernel_rfl) rfl fun w3 hh_ ho_ ht_ hu_=>?_
  replace hS:=hS.drew hh_ ho_ ht_ hu_
  refine cpi 0 rfl (cpi 3 rfl (cr 1 [1,2,5,6,7] rfl (u_load ti30 (et d3) ((hS.blk d1).cell d0)) p4 ?_))
  refine sc2G (i:=2) (j:=4) rfl rfl rfl rfl rfl (wanted_0 rfl) (wanted_0 rfl) ?_ ?_
  ·replace h:=bI h; obtain ⟨u25,g26,h⟩:=h
   refine id (s_callv isfn117 ef (e1 (et d4) e0) (clone_i_c (l:=p_1.stack) (small_eq g26) (cells_sl int1 rfl m3 hS.a) hS) ?_); clear hS; intro v27 w4 hS; refine po ?_
   have m28:Rw μ0 _ p_1.stack:=rw_of_map (fun _ _=>rfl) _
   refine cr 4 [4,5,6,7] rfl (u_load ti26 (et d6) ((hS.blk d2).cell d1)) p7 ?_
   replace h:=bI h; obtain ⟨u29,g30,h⟩:=h
   refine sc1 rfl rfl rfl (s_callv isfn118 ef (e1 (et d7) e0) (clone_b_c (l:=p_1.has) (small_eq g30) (cells_sl bool1 rfl m6 hS.a) hS) ?_); clear hS; intro v31 w5 hS; refine po ?_
   have m32:Rw μ0 _ p_1.has:=rw_of_map (fun _ _=>rfl) _
   refine cp 6 rfl (u_build ti172 pl172 (Fl.o rfl (et d5) (hS.get d1).cellV rfl p0 (Fl.o rfl (et d8) (hS.get d0).cellV rfl p1 Fl.z))) p9 (sc1 rfl rfl rfl (s_storeA ti172 (et d2) (et d9) rfl (cv_s ((hS.get d1).cellV) (cv_s ((hS.get d0).cellV) cv_z)) hS d2 rfl p2 dn ?_))
   clear hS; intro w6 hS
   refine sc_nil (xl ?_)
   replace hS:=((hS.drop (Rm.s (Rm.s (Rm.s Rm.z)))).bg Y1).bg Y2
   exact ⟨_,_,rfl,(aK3 (aO7 aZ)),_,p_1.stack,_,(p_1.stack.map (Value.int .i64)),p_1.has,_,(p_1.has.map Value.bool),rfl,h,Le.r,hS,m28,m32⟩
  ·replace h:=bI h; obtain ⟨u25,g26,h⟩:=h
   replace h:=bI h; obtain ⟨u29,g30,h⟩:=h
   refine id (s_load ti26 (et d6) ((hS.blk d1).cell d1) (dt p7) ?_)
   refine sc1 rfl rfl rfl (s_callv isfn117 ef (e1 (et d4) e0) (clone_i_c (l:=p_1.stack) (small_eq g26) (cells_sl int1 rfl m3 hS.a) hS) ?_); clear hS; intro v33 w7 hS; refine po ?_
   have m34:Rw μ0 _ p_1.stack:=rw_of_map (fun _ _=>rfl) _
   refine sc1 rfl rfl rfl (s_callv isfn118 ef (e1 (et d7) e0) (clone_b_c (l:=p_1.has) (small_eq g30) (cells_sl bool1 rfl m6 hS.a) hS) ?_); clear hS; intro v35 w8 hS; refine po ?_
   have m36:Rw μ0 _ p_1.has:=rw_of_map (fun _ _=>rfl) _
   refine cp 6 rfl (u_build ti172 pl172 (Fl.o rfl (et d5) (hS.get d1).cellV rfl p0 (Fl.o rfl (et d8) (hS.get d0).cellV rfl p1 Fl.z))) p9 (sc1 rfl rfl rfl (s_storeA ti172 (et d2) (et d9) rfl (cv_s ((hS.get d1).cellV) (cv_s ((hS.get d0).cellV) cv_z)) hS d2 rfl p2 dn ?_))
   clear hS; intro w9 hS
   refine sc_nil (xl ?_)
   replace hS:=((hS.drop (Rm.s (Rm.s (Rm.s Rm.z)))).bg Y1).bg Y2
   exact ⟨_,_,rfl,(aK3 (aO7 aZ)),_,p_1.stack,_,(p_1.stack.map (Value.int .i64)),p_1.has,_,(p_1.has.map Value.bool),rfl,h,Le.r,hS,m34,m36⟩
 ·rintro _ t w10 ⟨μ1,l19,v17,cs18,l23,v21,cs22,rfl,h,le37,hS,m38,m39⟩
  unfold vf_copied_j1 at h
  refine nrm (mK3 (mO7 mz)) (xn (cret ?_))
  obtain rfl:=Option.some.inj h
  refine retN rfl (RVs.s (.a d2 ti172 (hS.blk d0).cells rfl) RVs.z) ?_
  replace hS:=hS.drop Rm.z
  exact ⟨_,_,_,_,_,rfl,le37,hS,m38,m39⟩
theorem vf_copiedr_w (hg:Le Gm μ0) {p_1 r:TVerifyShape} (m3:Rw μ0 cs2 p_1.stack) (m6:Rw μ0 cs5 p_1.has) (h:vf_copiedr p_1=some r) (hS:Sq μ0 w0 w (.row v1 3 1 p_1.stack.length cs2::.row v4 4 1 p_1.has.length cs5::rsF)):CallsV prog 80 [.agg ⟨[v1,v4]⟩] w (fun v w'=>∃ (μ':M) (v7:Value) (cs8:List Value) (v10:Value) (cs11:List Value),v=.agg ⟨[v7,v10]⟩∧Le μ0 μ'∧Sq μ' w0 w' (.row v7 3 1 r.stack.length cs8::.row v10 4 1 r.has.length cs11::.row v1 3 1 p_1.stack.length cs2::.row v4 4 1 p_1.has.length cs5::rsF)∧Rw μ' cs8 r.stack∧Rw μ' cs11 r.has):=by
 unfold vf_copiedr at h
 refine enter func80 rfl (frm:=_::u2 (u2 (u5 []))) rfl (nz ?_)
 refine wl (s_box (et d0) rfl hS ?_); clear hS; intro b13 w1 hb14 hS; refine po ?_
 refine wl (s_alloc ti172 hS ?_); clear hS; intro b15 w2 hb16 hS; refine po ?_
 refine ny ?_
 refine ccutE (List.range' 3 7) (by decide) (fun m w=>∃ μx l19 v17 cs18 l23 v21 cs22,m=(yK3 (yO7 3 []))∧vf_copiedr_j1 l19 l23=some r∧Le μ0 μx∧Sq μx w0 w (.row v1 3 1 p_1.stack.length cs2::.row v4 4 1 p_1.has.length cs5::.blk b15 172 [v17,v21]::.row v17 3 1 l19.length cs18::.row v21 4 1 l23.length cs22::rsF)∧Rw μx cs18 l19∧Rw μx cs22 l23) (by rintro _ _ ⟨_,_,_,_,_,_,_,rfl,_⟩; rfl) ?_ ?_
 ·refine cdraw (by kernel_rfl) rfl fun w3 hh_ ho_ ht_ hu_=>?_
  replace hS:=hS.drew hh_ ho_ ht_ hu_
  refine cpi 0 rfl (cpi 3 rfl (cr 1 [1,2,5,6,7] rfl (u_load ti30 (et d3) ((hS.blk d1).cell d0)) p4 ?_))
  refine sc2G (i:=2) (j:=4) rfl rfl rfl rfl rfl (wanted_0 rfl) (wanted_0 rfl) ?_ ?_
  ·replace h:=bI h; obtain ⟨u25,g26,h⟩:=h
   refine id (s_callv isfn117 ef (e1 (et d4) e0) (clone_i_c (l:=p_1.stack) (small_eq g26) (cells_row int1 (hS.get d2) m3) hS) ?_); clear hS; intro v27 w4 hS; refine po ?_
   have m28:Rw μ0 _ p_1.stack:=rw_of_map (fun _ _=>rfl) _
   refine cr 4 [4,5,6,7] rfl (u_load ti26 (et d6) ((hS.blk d2).cell d1)) p7 ?_
   replace h:=bI h; obtain ⟨u29,g30,h⟩:=h
   refine sc1 rfl rfl rfl (s_callv isfn118 ef (e1 (et d7) e0) (clone_b_c (l:=p_1.has) (small_eq g30) (cells_row bool1 (hS.get d4) m6) hS) ?_); clear hS; intro v31 w5 hS; refine po ?_
   have m32:Rw μ0 _ p_1.has:=rw_of_map (fun _ _=>rfl) _
   refine cp 6 rfl (u_build ti172 pl172 (Fl.o rfl (et d5) (hS.get d1).cellV rfl p0 (Fl.o rfl (et d8) (hS.get d0).cellV rfl p1 Fl.z))) p9 (sc1 rfl rfl rfl (s_storeA ti172 (et d2) (et d9) rfl (cv_s ((hS.get d1).cellV) (cv_s ((hS.get d0).cellV) cv_z)) hS d2 rfl p2 dn ?_))
   clear hS; intro w6 hS
   refine sc_nil (xl ?_)
   replace hS:=((((hS.drop (Rm.s (Rm.s (Rm.s Rm.z)))).bg Y1).bg Y2).bg Y4).bg Y4
   exact ⟨_,_,rfl,(aK3 (aO7 aZ)),_,p_1.stack,_,(p_1.stack.map (Value.int .i64)),p_1.has,_,(p_1.has.map Value.bool),rfl,h,Le.r,hS,m28,m32⟩
  ·replace h:=bI h; obtain ⟨u25,g26,h⟩:=h
   replace h:=bI h; obtain ⟨u29,g30,h⟩:=h
   refine id (s_load ti26 (et d6) ((hS.blk d1).cell d1) (dt p7) ?_)
   refine sc1 rfl rfl rfl (s_callv isfn117 ef (e1 (et d4) e0) (clone_i_c (l:=p_1.stack) (small_eq g26) (cells_row int1 (hS.get d2) m3) hS) ?_); clear hS; intro v33 w7 hS; refine po ?_
   have m34:Rw μ0 _ p_1.stack:=rw_of_map (fun _ _=>rfl) _
   refine sc1 rfl rfl rfl (s_callv isfn118 ef (e1 (et d7) e0) (clone_b_c (l:=p_1.has) (small_eq g30) (cells_row bool1 (hS.get d4) m6) hS) ?_); clear hS; intro v35 w8 hS; refine po ?_
   have m36:Rw μ0 _ p_1.has:=rw_of_map (fun _ _=>rfl) _
   refine cp 6 rfl (u_build ti172 pl172 (Fl.o rfl (et d5) (hS.get d1).cellV rfl p0 (Fl.o rfl (et d8) (hS.get d0).cellV rfl p1 Fl.z))) p9 (sc1 rfl rfl rfl (s_storeA ti172 (et d2) (et d9) rfl (cv_s ((hS.get d1).cellV) (cv_s ((hS.get d0).cellV) cv_z)) hS d2 rfl p2 dn ?_))
   clear hS; intro w9 hS
   refine sc_nil (xl ?_)
   replace hS:=((((hS.drop (Rm.s (Rm.s (Rm.s Rm.z)))).bg Y1).bg Y2).bg Y4).bg Y4
   exact ⟨_,_,rfl,(aK3 (aO7 aZ)),_,p_1.stack,_,(p_1.stack.map (Value.int .i64)),p_1.has,_,(p_1.has.map Value.bool),rfl,h,Le.r,hS,m34,m36⟩
 ·rintro _ t w10 ⟨μ1,l19,v17,cs18,l23,v21,cs22,rfl,h,le37,hS,m38,m39⟩
  unfold vf_copiedr_j1 at h
  refine nrm (mK3 (mO7 mz)) (xn (cret ?_))
  obtain rfl:=Option.some.inj h
  refine retN rfl (RVs.s (.a d2 ti172 (hS.blk d2).cells rfl) RVs.z) ?_
  replace hS:=((((hS.drop (Rm.s (Rm.s Rm.z))).bg Y1).bg Y1).bg Y3).bg Y3
  exact ⟨_,_,_,_,_,rfl,le37,hS,m38,m39⟩
theorem sl_equal_w (hg:Le Gm μ0) {p_1 p_2:List Int} {r:Bool} (m3:Sl μ0 a1 c2 p_1) (m6:Rw μ0 cs5 p_2) (h:sl_equal p_1 p_2=some r) (hS:Sq μ0 w0 w (.row v4 3 1 p_2.length cs5::rsF)):CallsV prog 116 [.slice a1 p_1.length c2,v4] w (fun v w'=>∃ (μ':M) ,v=.bool r∧Le μ0 μ'∧Sq μ' w0 w' (.row v4 3 1 p_2.length cs5::rsF)):=by
 unfold sl_equal at h
 refine enter func116 rfl (frm:=_::_::u2 (u2 (u20 []))) rfl (nz (st (ny (nz (st (wl (s_lensl underlying30 (et d6) (dt p7) (st (wl (s_lenv underlying30 (et d8) (hS.get d0).isSl (dt p9) (st (nw ?_))))))))))))
 refine cifd (et (k10 d0)) (xT h) fun h7=>?_
 replace h:=iF h7 h
 refine cskip (xn (cseq (nz (st (wl (s_lensl underlying30 (et (k10 d1)) (dt (q10 p2)) (st (nw (cblock ?_)))))))))
 refine cloopE (List.range' 4 2++List.range' 14 12) (by decide) (fun n m w=>∃ (μx:M) ,m=(yK4 (yO2 4 (yK7 (.i (.int .i64 0)::(yO10 14 (yO2 24 []))))))∧sl_equal_l1 p_1 n =some r∧Le μ0 μx∧Sq μx w0 w (.row v4 3 1 p_2.length cs5::rsF)) (by rintro _ _ _ ⟨_,rfl,_⟩; rfl) _ _ (aK4 (aO2 (aK7 (aI (aO10 (aO2 aZ)))))) ⟨_,rfl,h,Le.r,hS⟩ ?_
 rintro n_1 _ t w1 ⟨μ1,rfl,h,le8,hS⟩
 cases n_1 with
 | zero=>cases h
 | succ n_1 =>
 unfold sl_equal_l1 at h
 refine cnrm (mK4 (mO2 (mK7 (mi (mO10 (mO2 mz)))))) (nz (st (ny ?_)))
 refine cifd (et (k10 d4)) (xT h) fun h9=>?_
 replace h:=iF h9 h
 refine cexit ?_
 refine (fun h=>xe (xe (bh h))) ?_
 refine xn (nz (st (nw (cret ?_))))
 obtain rfl:=Option.some.inj h
 refine ret1 rfl d4 ?_
 exact ⟨_,rfl,le8,hS⟩
theorem vf_push_w (hg:Le Gm μ0) {chec_2:TVerifyChecker} {u_8:TUnit} {at_18:List (Int×TVerifyShape)} {todo_23 stac_27:List Int} {has_31:List Bool} {err_35 p_2:Int} {r:List (Int×TVerifyShape)×List Int×List Int×List Bool×Int} (m6:Np μ0 v5 chec_2.m) (m7:At μ0 b3 o4 [v5]) (m13:Sl μ0 a11 c12 u_8.Locals) (m16:Sl μ0 a14 c15 u_8.Code) (m17:At μ0 b9 o10 [.int .i64 u_8.Kind,.int .i64 u_8.Params,.slice a11 u_8.Locals.length c12,.int .i64 u_8.Result,.int .i64 u_8.Takes,.slice a14 u_8.Code.length c15]) (m22:Mq μ0 es20 c21 at_18) (m26:Rw μ0 cs25 todo_23) (m30:Rw μ0 cs29 stac_27) (m34:Rw μ0 cs33 has_31) (h:vf_push chec_2 u_8 at_18 todo_23 stac_27 has_31 err_35 p_2=some r) (hS:Sq μ0 w0 w (.blk b1 174 [.pointer (some ⟨b3,o4,none⟩),.pointer (some ⟨b9,o10,none⟩),.map (some b19),v24,v28,v32,.int .i64 err_35]::.map b19 es20 c21::.row v24 3 1 todo_23.length cs25::.row v28 3 1 stac_27.length cs29::.row v32 4 1 has_31.length cs33::rsF)):CallsV prog 119 [.pointer (some ⟨b1,0,none⟩),.int .i64 p_2] w (fun v w'=>∃ (μ':M) (es36:List MapEntry) (c37:Nat) (v39:Value) (cs40:List Value) (v42:Value) (cs43:List Value) (v45:Value) (cs46:List Value),v=.tuple ⟨[]⟩∧Le μ0 μ'∧Sq μ' w0 w' (.blk b1 174 [.pointer (some ⟨b3,o4,none⟩),.pointer (some ⟨b9,o10,none⟩),.map (some b19),v39,v42,v45,.int .i64 r.2.2.2.2]::.map b19 es36 c37::.row v39 3 1 r.2.1.length cs40::.row v42 3 1 r.2.2.1.length cs43::.row v45 4 1 r.2.2.2.1.length cs46::rsF)∧Mq μ' es36 c37 r.1∧Rw μ' cs40 r.2.1∧Rw μ' cs43 r.2.2.1∧Rw μ' cs46 r.2.2.2.1):=by
 unfold vf_push at h
 refine enter func119 rfl (frm:=_::_::u1 (u2 (u20 []))) rfl (nz ?_)
 iterate 5 refine st ?_
 refine ld ((hS.blk d0).cell d4) (st ?_)
 refine wl (s_bsl underlying30 ti3 (Parts.s (et (k10 d0)) rfl Parts.z) rfl rfl hS ?_); clear hS; intro b48 w1 hb49 hS; refine po ?_
 replace h:=bI h; obtain ⟨l52,g53,h⟩:=h
 have m54:Rw μ0 [.int .i64 p_2] [p_2]:=(Rw.one (α:=Int) rfl)
 have m51:=Rw.app m30 m54 g53
 refine wl (s_app1 underlying30 ti3 rfl (et d9) (et (k10 d1)) hS d4 (hS.blk d0).cells m54 rfl g53 (by decide) ?_); clear hS; intro v50 w2 rs_ hp_ hS; cases (show _=rs_ from hp_)
 replace hS:=Sep.reput hS p4; refine po ?_
 replace hS:=hS.drop Rm.z
 iterate 3 refine st ?_
 refine wl (s_store1 ti30 (et (k10 d5)) (et (k10 d2)) (hS.get d3).cellV hS d0 p4 rfl p0 dn ?_)
 clear hS; intro w3 hS
 refine nx ?_
 iterate 4 refine st ?_
 refine ld ((hS.blk d0).cell d4) (wl (s_lenv underlying30 (et (k20 d0)) (hS.get d3).isSl (dt (q20 p1)) (st (nw ?_))))
 refine cifd (et (k20 d2)) (xT h) fun h55=>?_
 replace h:=iF h55 h
 refine cskip ?_
 obtain rfl:=Option.some.inj h
 refine end0 rfl ?_
 exact ⟨_,es20,_,_,_,_,((cs29++[.int .i64 p_2]):List Value),_,_,rfl,Le.r,hS,m22,m26,m51,m34⟩
theorem vf_pop_w (hg:Le Gm μ0) {chec_2:TVerifyChecker} {u_8:TUnit} {at_18:List (Int×TVerifyShape)} {todo_23 stac_27:List Int} {has_31:List Bool} {err_35:Int} {r:Int×List (Int×TVerifyShape)×List Int×List Int×List Bool×Int} (m6:Np μ0 v5 chec_2.m) (m7:At μ0 b3 o4 [v5]) (m13:Sl μ0 a11 c12 u_8.Locals) (m16:Sl μ0 a14 c15 u_8.Code) (m17:At μ0 b9 o10 [.int .i64 u_8.Kind,.int .i64 u_8.Params,.slice a11 u_8.Locals.length c12,.int .i64 u_8.Result,.int .i64 u_8.Takes,.slice a14 u_8.Code.length c15]) (m22:Mq μ0 es20 c21 at_18) (m26:Rw μ0 cs25 todo_23) (m30:Rw μ0 cs29 stac_27) (m34:Rw μ0 cs33 has_31) (h:vf_pop chec_2 u_8 at_18 todo_23 stac_27 has_31 err_35=some r) (hS:Sq μ0 w0 w (.blk b1 174 [.pointer (some ⟨b3,o4,none⟩),.pointer (some ⟨b9,o10,none⟩),.map (some b19),v24,v28,v32,.int .i64 err_35]::.map b19 es20 c21::.row v24 3 1 todo_23.length cs25::.row v28 3 1 stac_27.length cs29::.row v32 4 1 has_31.length cs33::rsF)):CallsV prog 121 [.pointer (some ⟨b1,0,none⟩)] w (fun v w'=>∃ (μ':M) (es36:List MapEntry) (c37:Nat) (v39:Value) (cs40:List Value) (v42:Value) (cs43:List Value) (v45:Value) (cs46:List Value),v=.int .i64 r.1∧Le μ0 μ'∧Sq μ' w0 w' (.blk b1 174 [.pointer (some ⟨b3,o4,none⟩),.pointer (some ⟨b9,o10,none⟩),.map (some b19),v39,v42,v45,.int .i64 r.2.2.2.2.2]::.map b19 es36 c37::.row v39 3 1 r.2.2.1.length cs40::.row v42 3 1 r.2.2.2.1.length cs43::.row v45 4 1 r.2.2.2.2.1.length cs46::rsF)∧Mq μ' es36 c37 r.2.1∧Rw μ' cs40 r.2.2.1∧Rw μ' cs43 r.2.2.2.1∧Rw μ' cs46 r.2.2.2.2.1):=by
 unfold vf_pop at h
 refine enter func121 rfl (frm:=_::u1 (u5 (u10 (u20 [])))) rfl (nz (st (nx ?_)))
 iterate 4 refine st ?_
 refine ld ((hS.blk d0).cell d4) (wl (s_lenv underlying30 (et d9) (hS.get d3).isSl (dt (q10 p0)) (st (ny (nz ?_)))))
 iterate 2 refine st ?_
 refine nw ?_
 refine cifd (et (k10 d2)) (xT h) fun h48=>?_
 replace h:=iF h48 h
 refine cskip (xn (nz ?_))
 iterate 4 refine st ?_
 refine ld ((hS.blk d0).cell d4) (st ?_)
 replace h:=bI h; obtain ⟨i49,g50,h⟩:=h
 refine wl (s_subc (et (k20 d0)) ec g50 (dt (q20 p1)) ?_)
 replace h:=bI h; obtain ⟨x51,g52,h⟩:=h
 obtain ⟨b53,o54,pc55,cs56,sc57,ec58,e59,f60,m61,pn62,st63,m64⟩:=Row.elemS (α:=Int) (hS.get d3) m30 rfl g52
 rw [ec58] at hS
 obtain rfl:=m61
 refine wl (s_iax underlying30 ti3 (et (k10 d9)) (et (k20 d1)) e59 (dt (q20 p2)) (ld ((f60 _ _ _ (hS.get d3) rfl).one d0) (st (nx ?_))))
 iterate 5 refine st ?_
 refine ld ((hS.blk d0).cell d4) (st ?_)
 replace h:=bI h; obtain ⟨i65,g66,h⟩:=h
 refine wl (s_subc (et (k30 d0)) ec g66 (dt (q30 p1)) ?_)
 replace h:=bI h; obtain ⟨l67,g68,h⟩:=h
 obtain ⟨v69,cs74,e70,hb71,hr72,m73⟩:=Row.cutT (α:=Int) (hS.get d3) m64 g68
 replace hS:=hS.reRow d3 hb71 hr72 p3
 refine wl (s_slc underlying30 ti3 (et (k20 d9)) .n (.s (et (k30 d1))) e70 (dt (q30 p2)) ?_)
 iterate 3 refine st ?_
 refine wl (s_store1 ti30 (et (k30 d5)) (et (k30 d2)) (hS.get d3).cellV hS d0 p4 rfl p0 dn ?_)
 clear hS; intro w1 hS
 refine nx ?_
 iterate 2 refine st ?_
 refine nw (cret ?_)
 obtain rfl:=Option.some.inj h
 refine ret1 rfl d2 ?_
 exact ⟨_,es20,_,_,_,_,_,_,_,rfl,Le.r,hS,m22,m26,m73,m34⟩
theorem vf_want_w (hg:Le Gm μ0) {chec_2:TVerifyChecker} {u_8:TUnit} {at_18:List (Int×TVerifyShape)} {todo_23 stac_27:List Int} {has_31:List Bool} {err_35:Int} {p_2:List Int} {r:List (Int×TVerifyShape)×List Int×List Int×List Bool×Int} (m6:Np μ0 v5 chec_2.m) (m7:At μ0 b3 o4 [v5]) (m13:Sl μ0 a11 c12 u_8.Locals) (m16:Sl μ0 a14 c15 u_8.Code) (m17:At μ0 b9 o10 [.int .i64 u_8.Kind,.int .i64 u_8.Params,.slice a11 u_8.Locals.length c12,.int .i64 u_8.Result,.int .i64 u_8.Takes,.slice a14 u_8.Code.length c15]) (m22:Mq μ0 es20 c21 at_18) (m26:Rw μ0 cs25 todo_23) (m30:Rw μ0 cs29 stac_27) (m34:Rw μ0 cs33 has_31) (m38:Sl μ0 a36 c37 p_2) (h:vf_want fu chec_2 u_8 at_18 todo_23 stac_27 has_31 err_35 p_2=some r) (hS:Sq μ0 w0 w (.blk b1 174 [.pointer (some ⟨b3,o4,none⟩),.pointer (some ⟨b9,o10,none⟩),.map (some b19),v24,v28,v32,.int .i64 err_35]::.map b19 es20 c21::.row v24 3 1 todo_23.length cs25::.row v28 3 1 stac_27.length cs29::.row v32 4 1 has_31.length cs33::rsF)):CallsV prog 120 [.pointer (some ⟨b1,0,none⟩),.slice a36 p_2.length c37] w (fun v w'=>∃ (μ':M) (es39:List MapEntry) (c40:Nat) (v42:Value) (cs43:List Value) (v45:Value) (cs46:List Value) (v48:Value) (cs49:List Value),v=.tuple ⟨[]⟩∧Le μ0 μ'∧Sq μ' w0 w' (.blk b1 174 [.pointer (some ⟨b3,o4,none⟩),.pointer (some ⟨b9,o10,none⟩),.map (some b19),v42,v45,v48,.int .i64 r.2.2.2.2]::.map b19 es39 c40::.row v42 3 1 r.2.1.length cs43::.row v45 3 1 r.2.2.1.length cs46::.row v48 4 1 r.2.2.2.1.length cs49::rsF)∧Mq μ' es39 c40 r.1∧Rw μ' cs43 r.2.1∧Rw μ' cs46 r.2.2.1∧Rw μ' cs49 r.2.2.2.1):=by
 unfold vf_want at h
 refine enter func120 rfl (frm:=_::_::u1 (u20 [])) rfl (nz (st (wl (s_lensl underlying30 (et d6) (dt p7) ?_))))
 replace h:=bI h; obtain ⟨i51,g52,h⟩:=h
 refine wl (s_subc (et d7) ec g52 (dt p8) (st (nw (cblock ?_))))
 refine cloopE ([5]++List.range' 9 14) (by decide) (fun n m w=>∃ μx i78 i79 l82 es80 c81 l86 v84 cs85 l90 v88 cs89 l94 v92 cs93,m=(yK4 (.i (.int .i64 i78)::(yO1 5 (yK3 (yO10 9 (yO4 19 []))))))∧vf_want_l1 chec_2 p_2 u_8 n i78 i79 l82 l86 l90 l94=some r∧Le μ0 μx∧Sq μx w0 w (.blk b1 174 [.pointer (some ⟨b3,o4,none⟩),.pointer (some ⟨b9,o10,none⟩),.map (some b19),v84,v88,v92,.int .i64 i79]::.map b19 es80 c81::.row v84 3 1 l86.length cs85::.row v88 3 1 l90.length cs89::.row v92 4 1 l94.length cs93::rsF)∧Mq μx es80 c81 l82∧Rw μx cs85 l86∧Rw μx cs89 l90∧Rw μx cs93 l94) (by rintro _ _ _ ⟨_,_,_,_,_,_,_,_,_,_,_,_,_,_,_,rfl,_⟩; rfl) _ _ (aK4 (aI (aO1 (aK3 (aO10 (aO4 aZ)))))) ⟨_,i51,err_35,at_18,es20,c21,todo_23,v24,cs25,stac_27,v28,cs29,has_31,v32,cs33,rfl,h,Le.r,hS,m22,m26,m30,m34⟩ ?_
 rintro n_1 _ t w1 ⟨μ1,i78,i79,l82,es80,c81,l86,v84,cs85,l90,v88,cs89,l94,v92,cs93,rfl,h,le121,hS,m122,m123,m124,m125⟩
 cases n_1 with
 | zero=>cases h
 | succ n_1 =>
 unfold vf_want_l1 at h
 refine cnrm (mK4 (mi (mO1 (mK3 (mO10 (mO4 mz)))))) (cseq (nz ?_))
 iterate 2 refine st ?_
 refine nw ?_
 refine cifd (et (k10 d0)) (fun h126=>?_) (fun h126=>?_)
 ·replace h:=iT h126 h
  refine cskip (xn (cseq (cblock (nz (st ?_)))))
  replace h:=bI h; obtain ⟨r127,g128,h⟩:=h
  replace hS:=((((hS.bg Y4).bg Y4).bg Y4).bg Y4).bg Y4
  refine ca (vf_pop_w (hg.t le121) (m6.up le121) (m7.up le121) (m13.up le121) (m16.up le121) (m17.up le121) m122 m123 m124 m125 g128 hS) ?_
  rintro _ w2 ⟨μ2,es130,c131,v133,cs134,v136,cs137,v139,cs140,rfl,le129,hS,m132,m135,m138,m141⟩
  refine po (st (nx ?_))
  iterate 3 refine st ?_
  replace h:=bI h; obtain ⟨x142,g143,h⟩:=h
  obtain ⟨b144,o145,cs146,e147,f148,m149⟩:=SlR.elem (m38.up (le121.t le129)) g143
  obtain rfl:=m149
  refine wl (s_iax underlying30 ti3 (et (k10 d6)) (et (k10 d7)) e147 (dt (q10 p8)) (ld ((f148 _ hS.a).one d0) (st (nw ?_))))
  refine cifd (et (k20 d0)) (xT h) fun h150=>?_
  replace h:=iF h150 h
  refine cskip ?_
  refine (fun h=>bn (xn h)) ?_
  refine creg (st ?_)
  replace h:=bI h; obtain ⟨i151,g152,h⟩:=h
  refine wl (s_subc (et (k10 d1)) ec g152 (dt (q10 p2)) (st (wnil (xl ?_))))
  exact ⟨n_1,_,_,rfl,(aK4 (aI (aO1 (aK3 (aO10 (aO4 aZ)))))),⟨_,i151,r127.2.2.2.2.2,r127.2.1,es130,c131,r127.2.2.1,v133,cs134,r127.2.2.2.1,v136,cs137,r127.2.2.2.2.1,v139,cs140,rfl,h,(le121.t le129),hS,m132,m135,m138,m141⟩,Nat.lt_succ_self _⟩
 ·replace h:=iF h126 h
  refine cexit ?_
  refine (fun h=>xe (xe (bh h))) ?_
  obtain rfl:=Option.some.inj h
  refine end0 rfl ?_
  exact ⟨_,es80,_,_,_,_,_,_,_,rfl,le121,hS,m122,m123,m124,m125⟩
theorem vf_to_w (hg:Le Gm μ0) {chec_2:TVerifyChecker} {u_8:TUnit} {at_18:List (Int×TVerifyShape)} {todo_23 stac_27:List Int} {has_31:List Bool} {err_35 p_2:Int} {r:List (Int×TVerifyShape)×List Int×List Int×List Bool×Int} (m6:Np μ0 v5 chec_2.m) (m7:At μ0 b3 o4 [v5]) (m13:Sl μ0 a11 c12 u_8.Locals) (m16:Sl μ0 a14 c15 u_8.Code) (m17:At μ0 b9 o10 [.int .i64 u_8.Kind,.int .i64 u_8.Params,.slice a11 u_8.Locals.length c12,.int .i64 u_8.Result,.int .i64 u_8.Takes,.slice a14 u_8.Code.length c15]) (m22:Mq μ0 es20 c21 at_18) (m26:Rw μ0 cs25 todo_23) (m30:Rw μ0 cs29 stac_27) (m34:Rw μ0 cs33 has_31) (h:vf_to chec_2 u_8 at_18 todo_23 stac_27 has_31 err_35 p_2=some r) (hS:Sq μ0 w0 w (.blk b1 174 [.pointer (some ⟨b3,o4,none⟩),.pointer (some ⟨b9,o10,none⟩),.map (some b19),v24,v28,v32,.int .i64 err_35]::.map b19 es20 c21::.row v24 3 1 todo_23.length cs25::.row v28 3 1 stac_27.length cs29::.row v32 4 1 has_31.length cs33::rsF)):CallsV prog 79 [.pointer (some ⟨b1,0,none⟩),.int .i64 p_2] w (fun v w'=>∃ (μ':M) (es36:List MapEntry) (c37:Nat) (v39:Value) (cs40:List Value) (v42:Value) (cs43:List Value) (v45:Value) (cs46:List Value),v=.tuple ⟨[]⟩∧Le μ0 μ'∧Sq μ' w0 w' (.blk b1 174 [.pointer (some ⟨b3,o4,none⟩),.pointer (some ⟨b9,o10,none⟩),.map (some b19),v39,v42,v45,.int .i64 r.2.2.2.2]::.map b19 es36 c37::.row v39 3 1 r.2.1.length cs40::.row v42 3 1 r.2.2.1.length cs43::.row v45 4 1 r.2.2.2.1.length cs46::rsF)∧Mq μ' es36 c37 r.1∧Rw μ' cs40 r.2.1∧Rw μ' cs43 r.2.2.1∧Rw μ' cs46 r.2.2.2.1):=by
 unfold vf_to at h
 refine enter func79 rfl (frm:=_::_::u1 (u2 (u50 (u50 [])))) rfl (cseq (nz ?_))
 iterate 3 refine st ?_
 refine ld ((hS.blk d0).cell d6) (st (nw ?_))
 refine cifd (et (k10 d2)) (xT h) fun h48=>?_
 replace h:=iF h48 h
 refine cskip (xn (cseq (nz ?_)))
 iterate 4 refine st ?_
 refine ld ((hS.blk d0).cell d1) ?_
 iterate 2 refine st ?_
 refine ld ((m17 _ hS.a).one d5) (wl (s_lensl underlying103 (et (k20 d0)) (dt (q20 p1)) (st (nw ?_))))
 refine cifd (et (k20 d2)) (xT h) fun h49=>?_
 replace h:=iF h49 h
 refine cskip (xn (nz ?_))
 iterate 3 refine st ?_
 refine ld ((hS.blk d0).cell d2) (st ?_)
 refine wl (s_mget2 (κ:=Int) (k:=p_2) (β:=TVerifyShape) (zx:=(TVerifyShape.mk ([]:List Int) ([]:List Bool))) underlying170 underlying3 (et (k20 d9)) (et (k30 d0)) zv172 ⟨_,rfl,(TVerifyShape.i ⟨none,0,none,0,rfl,Sl.nil,Sl.nil⟩)⟩ (hS.get d1) m22 ?_); rintro _ ⟨_,rfl,⟨a54,c55,a57,c58,rfl,m56,m59⟩⟩; refine po ?_
 iterate 3 refine st ?_
 refine wl (s_alloc ti172 hS ?_); clear hS; intro b60 w1 hb61 hS; refine po ?_
 refine wl (s_storeA ti172 (et d4) (et (k30 d2)) rfl rfl hS d0 rfl p0 dn ?_)
 clear hS; intro w2 hS
 refine st (ny (nz ?_))
 iterate 2 refine st ?_
 refine nw ?_
 refine cifnb (et (k30 d5)) (fun h62=>?_) (fun h62=>?_)
 ·replace h:=iF h62 h
  refine cseq ?_
  refine ccutE (List.range' 36 10) (by decide) (fun m w=>∃ μx l65 es63 c64,m=(yK20 (yK10 (yK6 (yO10 36 []))))∧vf_to_j1 p_2 todo_23 stac_27 has_31 err_35 l65=some r∧Le μ0 μx∧Sq μx w0 w (.blk b1 174 [.pointer (some ⟨b3,o4,none⟩),.pointer (some ⟨b9,o10,none⟩),.map (some b19),v24,v28,v32,.int .i64 err_35]::.map b19 es63 c64::.row v24 3 1 todo_23.length cs25::.row v28 3 1 stac_27.length cs29::.row v32 4 1 has_31.length cs33::rsF)∧Mq μx es63 c64 l65) (by rintro _ _ ⟨_,_,_,_,rfl,_⟩; rfl) ?_ ?_
  ·refine cdraw (by kernel_rfl) rfl fun w3 hh_ ho_ ht_ hu_=>?_
   replace hS:=hS.drew hh_ ho_ ht_ hu_
   refine sf_start (fpi 0 [0,1,2,3,10] rfl (fpi 1 [1,2,3,10] rfl (fpi 2 [2,3,10] rfl (fr_ 3 [3,10] rfl (u_load ti170 (et (k30 d8)) ((hS.blk d1).cell d2)) (q30 p9) (fpi 4 [4,10] rfl (fpi 5 [5,6,7,8,9,10] rfl (fpi 6 [6,7,8,9,10] rfl (fpi 7 [7,8,9,10] rfl (fr_ 8 [8,9,10] rfl (u_loads ti172 (et (k40 d3)) ((hS.blk d1).cellsAt (Sb.s d4 (Sb.s d5 Sb.z))) rfl) (q40 p4) ?_)))))))))
   replace h:=bI h; obtain ⟨r67,g68,h⟩:=h
   replace hS:=(hS.bg Y5).bg Y5
   refine sf1 rfl rfl rfl rfl (wanted_0 rfl) (s_callv isfn80 ef (e1 (et (k40 d4)) e0) (vf_copiedr_w (p_1:=(TVerifyShape.mk stac_27 has_31)) hg m30 m34 g68 hS) ?_)
   rintro _ w4 ⟨μ1,v70,cs71,v73,cs74,rfl,le69,hS,m72,m75⟩
   refine po ?_
   refine ⟨(Mons.s (u_load ti170 (et (k30 d8)) ((hS.blk d5).cell d2)) Mons.z),?_⟩
   obtain ⟨μ2,a76,c77,e80,le79,m78,hq_⟩:=Sep.frzRow hS m72 rfl; clear hS
   subst e80; have hS:=hq_; clear hq_
   obtain ⟨μ3,a81,c82,e85,le84,m83,hq_⟩:=Sep.frzRow hS (m75.up le79) rfl; clear hS
   subst e85; have hS:=hq_; clear hq_
   refine sf1 rfl rfl rfl rfl (wanted_0 rfl) (s_mputM (κ:=Int) (β:=TVerifyShape) (kk:=p_2) (xx:=r67) underlying170 underlying3 (et (k30 d9)) (et (k40 d0)) (et (k40 d5)) ⟨_,rfl,(TVerifyShape.i ⟨a76,c77,a81,c82,rfl,(m78.up le84),m83⟩)⟩ hS d4 (m22.up (le69.t (le79.t le84))) dn ?_); clear hS; intro es86 c87 w5 rs_ m88 hp_ hS; cases (show _=rs_ from hp_)
   replace hS:=Sep.reput hS p4
   refine ⟨Mons.z,?_⟩
   refine sf_nil (xl ?_)
   replace hS:=(((((hS.drop (Rm.s (Rm.s Rm.z))).bg Y1).bg Y1).bg Y4).bg Y4).bg Y4
   exact ⟨_,_,rfl,(aK20 (aK10 (aK6 (aO10 aZ)))),_,(mput at_18 p_2 r67),es86,_,rfl,h,(le69.t (le79.t le84)),hS,m88⟩
  ·rintro _ t w6 ⟨μ4,l65,es63,c64,rfl,h,le89,hS,m90⟩
   unfold vf_to_j1 at h
   refine nrm (mK20 (mK10 (mK6 (mO10 mz)))) (xn (nz ?_))
   iterate 4 refine st ?_
   refine ld ((hS.blk d0).cell d3) (st ?_)
   refine wl (s_bsl underlying30 ti3 (Parts.s (et (k50 d1)) rfl Parts.z) rfl rfl hS ?_); clear hS; intro b91 w7 hb92 hS; refine po ?_
   replace h:=bI h; obtain ⟨l95,g96,h⟩:=h
   have m97:Rw μ4 [.int .i64 p_2] [p_2]:=(Rw.one (α:=Int) rfl)
   have m94:=Rw.app (m26.up le89) m97 g96
   refine wl (s_app1 underlying30 ti3 rfl (et (k50 d0)) (et (k50 d2)) hS d3 (hS.blk d0).cells m97 rfl g96 (by decide) ?_); clear hS; intro v93 w8 rs_ hp_ hS; cases (show _=rs_ from hp_)
   replace hS:=Sep.reput hS p3; refine po ?_
   replace hS:=hS.drop Rm.z
   iterate 2 refine st ?_
   refine wl (s_store1 ti30 (et (k50 d5)) (et (k50 d3)) (hS.get d2).cellV hS d0 p3 rfl p0 dn ?_)
   clear hS; intro w9 hS
   refine nw (cret (xr ?_))
   obtain rfl:=Option.some.inj h
   refine ret0 rfl ?_
   exact ⟨_,es63,_,_,((cs25++[.int .i64 p_2]):List Value),_,_,_,_,rfl,le89,hS,m90,m94,(m30.up le89),(m34.up le89)⟩
 ·replace h:=iT h62 h
  refine cskip (xn (cseq (cseq ?_)))
  refine cdraw (by kernel_rfl) rfl fun w10 hh_ ho_ ht_ hu_=>?_
  replace hS:=hS.drew hh_ ho_ ht_ hu_
  refine sf_start (fpi 0 [0,1,7,8] rfl (fr_ 1 [1,7,8] rfl (u_load ti30 (et (k50 d6)) ((hS.blk d0).cell d0)) (q50 p7) (fpi 2 [2,3,4,5,6,7,8] rfl (fpi 3 [3,4,5,6,7,8] rfl (fpi 4 [4,5,6,7,8] rfl (fpi 5 [5,6,7,8] rfl (fr_ 6 [6,7,8] rfl (u_load ti30 (et (k60 d1)) ((hS.blk d1).cell d4)) (q60 p2) ?_)))))))
  replace h:=bI h; obtain ⟨r98,g99,h⟩:=h
  replace hS:=hS.bg Y4
  refine sf1 rfl rfl rfl rfl (wanted_0 rfl) (s_callv isfn116 ef (e1 (et (k50 d7)) (e1 (et (k60 d2)) e0)) (sl_equal_w hg m56 m30 g99 hS) ?_)
  rintro _ w11 ⟨μ5,rfl,le100,hS⟩
  refine po ?_
  refine ⟨Mons.z,?_⟩
  refine fpi 8 [8] rfl (sf_nil (xn ?_))
  refine cifnb (et (k60 d4)) (xF h) fun h101=>?_
  replace h:=iT h101 h
  refine cskip (xn (nz (st (ny (nz (st (ld ((hS.blk d1).cell d1) (wl (s_lensl underlying26 (et (k60 d8)) (dt (q60 p9)) (st (nw (cblock ?_))))))))))))
  replace hS:=(((((hS.bg Y1).bg Y5).bg Y2).bg Y5).bg Y5).bg Y5
  refine cloopE ([7]++List.range' 71 23) (by decide +kernel) (fun n m w=>∃ μx i128,m=(yK6 (.i (.bool false)::(yO1 7 (yK50 (yK10 (yK2 (.i (.int .i64 i128)::(yO20 71 (yO3 91 [])))))))))∧vf_to_l1 p_2 at_18 todo_23 stac_27 has_31 err_35 n i128=some r∧Le μ5 μx∧Sq μx w0 w (.blk b1 174 [.pointer (some ⟨b3,o4,none⟩),.pointer (some ⟨b9,o10,none⟩),.map (some b19),v24,v28,v32,.int .i64 err_35]::.map b19 es20 c21::.row v24 3 1 todo_23.length cs25::.row v28 3 1 stac_27.length cs29::.row v32 4 1 has_31.length cs33::.blk b60 172 [.slice a54 (((mget at_18 p_2).getD (TVerifyShape.mk ([]:List Int) ([]:List Bool))).stack).length c55,.slice a57 (((mget at_18 p_2).getD (TVerifyShape.mk ([]:List Int) ([]:List Bool))).has).length c58]::rsF)) (by rintro _ _ _ ⟨_,_,rfl,_⟩; rfl) _ _ (aK6 (aI (aO1 (aK50 (aK10 (aK2 (aI (aO20 (aO3 aZ))))))))) ⟨_,0,rfl,h,Le.r,hS⟩ ?_
  rintro n_1 _ t w12 ⟨μ6,i128,rfl,h,le155,hS⟩
  cases n_1 with
  | zero=>cases h
  | succ n_1 =>
  unfold vf_to_l1 at h
  refine cnrm (mK6 (mi (mO1 (mK50 (mK10 (mK2 (mi (mO20 (mO3 mz))))))))) (nz (st (ny ?_)))
  refine cifd (et (k70 d1)) (fun h156=>?_) (fun h156=>?_)
  ·replace h:=iT h156 h
   refine cskip (xn (cseq (cblock (nz ?_))))
   iterate 2 refine st ?_
   refine ny ?_
   refine ccutE (List.range' 73 15) (by decide) (fun m w=>∃ μx b157,m=(yK50 (yK20 (yK3 (yO10 73 (yO5 83 (.i (.bool b157)::[]))))))∧vf_to_j2 i128 (vf_to_l1 p_2 at_18 todo_23 stac_27 has_31 err_35 n_1) b157=some r∧Le μ6 μx∧Sq μx w0 w (.blk b1 174 [.pointer (some ⟨b3,o4,none⟩),.pointer (some ⟨b9,o10,none⟩),.map (some b19),v24,v28,v32,.int .i64 err_35]::.map b19 es20 c21::.row v24 3 1 todo_23.length cs25::.row v28 3 1 stac_27.length cs29::.row v32 4 1 has_31.length cs33::.blk b60 172 [.slice a54 (((mget at_18 p_2).getD (TVerifyShape.mk ([]:List Int) ([]:List Bool))).stack).length c55,.slice a57 (((mget at_18 p_2).getD (TVerifyShape.mk ([]:List Int) ([]:List Bool))).has).length c58]::rsF)) (by rintro _ _ ⟨_,_,rfl,_⟩; rfl) ?_ ?_
   ·refine creg (st (ld ((hS.blk d5).cell d1) (st ?_)))
    replace h:=bI h; obtain ⟨x158,g159,h⟩:=h
    obtain ⟨b160,o161,cs162,e163,f164,m165⟩:=SlR.elem (m59.up (le100.t le155)) g159
    obtain rfl:=m165
    refine wl (s_iax underlying26 ti4 (et (k70 d4)) (et (k70 d5)) e163 (dt (q70 p6)) (ld ((f164 _ hS.a).one d0) (st ?_)))
    refine wspb (k70 d8) (q70 p8) (q70 p8) (fun h166=>?_) (fun h166=>?_)
    ·replace h:=iT h166 h
     refine sy rfl (sy rfl (sy rfl (sy rfl (wy rfl (k70 d8) (s_load ti26 (et (k80 d2)) ((hS.blk d0).cell d5) (dt (q80 p3)) (sy rfl ?_))))))
     replace h:=bI h; obtain ⟨x167,g168,h⟩:=h
     obtain ⟨b169,o170,pc171,cs172,sc173,ec174,e175,f176,m177,pn178,st179,m180⟩:=Row.elemS (α:=Bool) (hS.get d4) (m34.up (le100.t le155)) rfl g168
     rw [ec174] at hS
     obtain rfl:=m177
     refine wy rfl (k70 d8) (s_iax underlying26 ti4 (et (k80 d3)) (et (k80 d4)) e175 (dt (q80 p5)) (wy rfl (k70 d8) (s_load ti4 (et (k80 d5)) ((f176 _ _ _ (hS.get d4) rfl).one d0) (dt (q80 p6)) (sy rfl (st (wnil (xl ?_)))))))
     rw [← ec174] at hS
     exact ⟨_,_,rfl,(aK50 (aK20 (aK3 (aO10 (aO5 (aI aZ)))))),_,(!x167),rfl,h,Le.r,hS⟩
    ·replace h:=iF h166 h
     refine sn rfl rfl (sn rfl rfl (sn rfl rfl (sn rfl rfl (sn rfl rfl (sn rfl rfl (sn rfl rfl (sn rfl rfl (sn rfl rfl (st (wnil (xl ?_)))))))))))
     exact ⟨_,_,rfl,(aK50 (aK20 (aK3 (aO10 (aO5 (aI aZ)))))),_,false,rfl,h,Le.r,hS⟩
   ·rintro _ t w13 ⟨μ7,b157,rfl,h,le181,hS⟩
    unfold vf_to_j2 at h
    refine nrm (mK50 (mK20 (mK3 (mO10 (mO5 (mi mz)))))) (xn ?_)
    refine cifb (et (k80 d8)) (xT h) fun h182=>?_
    replace h:=iF h182 h
    refine cskip ?_
    refine (fun h=>bn (xn h)) ?_
    refine creg ?_
    replace h:=bI h; obtain ⟨i183,g184,h⟩:=h
    refine wl (s_addc (et (k70 d0)) ec g184 (dt (q90 p3)) (st (wnil (xl ?_))))
    exact ⟨n_1,_,_,rfl,(aK6 (aI (aO1 (aK50 (aK10 (aK2 (aI (aO20 (aO3 aZ))))))))),⟨_,i183,rfl,h,(le155.t le181),hS⟩,Nat.lt_succ_self _⟩
  ·replace h:=iF h156 h
   refine cexit ?_
   refine (fun h=>xe (xe (bh h))) ?_
   refine xn (nz (st (nw (ciff (et (k90 d4)) (cskip ?_)))))
   obtain rfl:=Option.some.inj h
   refine end0 rfl ?_
   replace hS:=hS.drop (Rm.s (Rm.s (Rm.s (Rm.s (Rm.s Rm.z)))))
   exact ⟨_,es20,_,_,_,_,_,_,_,rfl,(le100.t le155),hS,(m22.up (le100.t le155)),(m26.up (le100.t le155)),(m30.up (le100.t le155)),(m34.up (le100.t le155))⟩
theorem vf_done_w (hg:Le Gm μ0) {chec_2:TVerifyChecker} {u_8:TUnit} {at_18:List (Int×TVerifyShape)} {todo_23 stac_27:List Int} {has_31:List Bool} {err_35:Int} {r:Bool×List (Int×TVerifyShape)×List Int×List Int×List Bool×Int} (m6:Np μ0 v5 chec_2.m) (m7:At μ0 b3 o4 [v5]) (m13:Sl μ0 a11 c12 u_8.Locals) (m16:Sl μ0 a14 c15 u_8.Code) (m17:At μ0 b9 o10 [.int .i64 u_8.Kind,.int .i64 u_8.Params,.slice a11 u_8.Locals.length c12,.int .i64 u_8.Result,.int .i64 u_8.Takes,.slice a14 u_8.Code.length c15]) (m22:Mq μ0 es20 c21 at_18) (m26:Rw μ0 cs25 todo_23) (m30:Rw μ0 cs29 stac_27) (m34:Rw μ0 cs33 has_31) (h:vf_done chec_2 u_8 at_18 todo_23 stac_27 has_31 err_35=some r) (hS:Sq μ0 w0 w (.blk b1 174 [.pointer (some ⟨b3,o4,none⟩),.pointer (some ⟨b9,o10,none⟩),.map (some b19),v24,v28,v32,.int .i64 err_35]::.map b19 es20 c21::.row v24 3 1 todo_23.length cs25::.row v28 3 1 stac_27.length cs29::.row v32 4 1 has_31.length cs33::rsF)):CallsV prog 147 [.pointer (some ⟨b1,0,none⟩)] w (fun v w'=>∃ (μ':M) (es36:List MapEntry) (c37:Nat) (v39:Value) (cs40:List Value) (v42:Value) (cs43:List Value) (v45:Value) (cs46:List Value),v=.bool r.1∧Le μ0 μ'∧Sq μ' w0 w' (.blk b1 174 [.pointer (some ⟨b3,o4,none⟩),.pointer (some ⟨b9,o10,none⟩),.map (some b19),v39,v42,v45,.int .i64 r.2.2.2.2.2]::.map b19 es36 c37::.row v39 3 1 r.2.2.1.length cs40::.row v42 3 1 r.2.2.2.1.length cs43::.row v45 4 1 r.2.2.2.2.1.length cs46::rsF)∧Mq μ' es36 c37 r.2.1∧Rw μ' cs40 r.2.2.1∧Rw μ' cs43 r.2.2.2.1∧Rw μ' cs46 r.2.2.2.2.1):=by
 unfold vf_done at h
 refine enter func147 rfl (frm:=_::u1 (u10 [])) rfl (nz (st (ny (nz ?_))))
 iterate 4 refine st ?_
 refine ld ((hS.blk d0).cell d4) (wl (s_lenv underlying30 (et d7) (hS.get d3).isSl (dt p8) (st (nw ?_))))
 refine cifd (et d9) (xT h) fun h48=>?_
 replace h:=iF h48 h
 refine cskip (xn (nz (st (nw (cret ?_)))))
 obtain rfl:=Option.some.inj h
 refine ret1 rfl d2 ?_
 exact ⟨_,es20,_,_,_,_,_,_,_,rfl,Le.r,hS,m22,m26,m30,m34⟩
theorem vf_special_w (hg:Le Gm μ0) {chec_2:TVerifyChecker} {u_8:TUnit} {at_18:List (Int×TVerifyShape)} {todo_23 stac_27:List Int} {has_31:List Bool} {err_35:Int} {p_2:TInstr} {r:Bool×List (Int×TVerifyShape)×List Int×List Int×List Bool×Int} (m6:Np μ0 v5 chec_2.m) (m7:At μ0 b3 o4 [v5]) (m13:Sl μ0 a11 c12 u_8.Locals) (m16:Sl μ0 a14 c15 u_8.Code) (m17:At μ0 b9 o10 [.int .i64 u_8.Kind,.int .i64 u_8.Params,.slice a11 u_8.Locals.length c12,.int .i64 u_8.Result,.int .i64 u_8.Takes,.slice a14 u_8.Code.length c15]) (m22:Mq μ0 es20 c21 at_18) (m26:Rw μ0 cs25 todo_23) (m30:Rw μ0 cs29 stac_27) (m34:Rw μ0 cs33 has_31) (h:vf_special chec_2 u_8 at_18 todo_23 stac_27 has_31 err_35 p_2=some r) (hS:Sq μ0 w0 w (.blk b1 174 [.pointer (some ⟨b3,o4,none⟩),.pointer (some ⟨b9,o10,none⟩),.map (some b19),v24,v28,v32,.int .i64 err_35]::.map b19 es20 c21::.row v24 3 1 todo_23.length cs25::.row v28 3 1 stac_27.length cs29::.row v32 4 1 has_31.length cs33::rsF)):CallsV prog 122 [.pointer (some ⟨b1,0,none⟩),.agg ⟨[.int .i64 p_2.Op,.int .i64 p_2.A,.int .i64 p_2.N]⟩] w (fun v w'=>∃ (μ':M) (es36:List MapEntry) (c37:Nat) (v39:Value) (cs40:List Value) (v42:Value) (cs43:List Value) (v45:Value) (cs46:List Value),v=.bool r.1∧Le μ0 μ'∧Sq μ' w0 w' (.blk b1 174 [.pointer (some ⟨b3,o4,none⟩),.pointer (some ⟨b9,o10,none⟩),.map (some b19),v39,v42,v45,.int .i64 r.2.2.2.2.2]::.map b19 es36 c37::.row v39 3 1 r.2.2.1.length cs40::.row v42 3 1 r.2.2.2.1.length cs43::.row v45 4 1 r.2.2.2.2.1.length cs46::rsF)∧Mq μ' es36 c37 r.2.1∧Rw μ' cs40 r.2.2.1∧Rw μ' cs43 r.2.2.2.1∧Rw μ' cs46 r.2.2.2.2.1):=by
 unfold vf_special at h
 refine enter func122 rfl (frm:=_::_::u2 (u10 (u20 (u50 (u50 (u50 [])))))) rfl (nz ?_)
 refine wl (s_box (et d1) rfl hS ?_); clear hS; intro b48 w1 hb49 hS; refine po ?_
 refine st (ny (nz (st (ld ((hS.blk d0).cell d0) (nw ?_)))))
 refine ccutE (List.range' 4 4++List.range' 10 174) (by decide +kernel) (fun m w=>∃ μx i50 l53 es51 c52 l57 v55 cs56 l61 v59 cs60 l65 v63 cs64,m=(yK4 (yO4 4 (yK2 (yO50 10 (yO50 60 (yO50 110 (yO20 160 (yO4 180 []))))))))∧vf_special_j1 i50 l53 l57 l61 l65=some r∧Le μ0 μx∧Sq μx w0 w (.blk b1 174 [.pointer (some ⟨b3,o4,none⟩),.pointer (some ⟨b9,o10,none⟩),.map (some b19),v55,v59,v63,.int .i64 i50]::.map b19 es51 c52::.row v55 3 1 l57.length cs56::.row v59 3 1 l61.length cs60::.row v63 4 1 l65.length cs64::rsF)∧Mq μx es51 c52 l53∧Rw μx cs56 l57∧Rw μx cs60 l61∧Rw μx cs64 l65) (by rintro _ _ ⟨_,_,_,_,_,_,_,_,_,_,_,_,_,_,rfl,_⟩; rfl) ?_ ?_
 ·refine cblock (nz ?_)
  iterate 2 refine st ?_
  refine nw ?_
  refine cifd (et (k10 d0)) (xT h) fun h67=>?_
  replace h:=iF h67 h
  refine nz ?_
  iterate 2 refine st ?_
  refine nw ?_
  refine cifd (et (k20 d1)) (xT h) fun h68=>?_
  replace h:=iF h68 h
  refine nz ?_
  iterate 2 refine st ?_
  refine nw ?_
  refine cifd (et (k30 d2)) (xT h) fun h69=>?_
  replace h:=iF h69 h
  refine nz ?_
  iterate 2 refine st ?_
  refine nw ?_
  refine cifd (et (k50 d6)) (fun h70=>?_) (fun h70=>?_)
  ·replace h:=iT h70 h
   refine cseq (nz ?_)
   iterate 3 refine st ?_
   refine ld ((hS.blk d1).cell d1) ?_
   iterate 2 refine st ?_
   refine ld ((m17 _ hS.a).one d0) (st (nw ?_))
   refine cifd (et (k60 d5)) (xT h) fun h71=>?_
   replace h:=iF h71 h
   refine cskip (xn (nz (st ?_)))
   replace h:=bI h; obtain ⟨r72,g73,h⟩:=h
   replace hS:=((((hS.bg Y5).bg Y5).bg Y5).bg Y5).bg Y5
   refine ca (vf_done_w hg m6 m7 m13 m16 m17 m22 m26 m30 m34 g73 hS) ?_
   rintro _ w2 ⟨μ1,es75,c76,v78,cs79,v81,cs82,v84,cs85,rfl,le74,hS,m77,m80,m83,m86⟩
   refine po (st (nw (cret ?_)))
   refine (fun h=>br (xr (xr h))) ?_
   obtain rfl:=Option.some.inj h
   refine ret1 rfl d4 ?_
   replace hS:=hS.drop (Rm.s (Rm.s (Rm.s (Rm.s (Rm.s Rm.z)))))
   exact ⟨_,es75,_,_,_,_,_,_,_,rfl,le74,hS,m77,m80,m83,m86⟩
  ·replace h:=iF h70 h
   refine nz ?_
   iterate 2 refine st ?_
   refine nw ?_
   refine cifd (et (k70 d0)) (xT h) fun h87=>?_
   replace h:=iF h87 h
   refine nz ?_
   iterate 2 refine st ?_
   refine nw ?_
   refine cifd (et (k90 d0)) (fun h88=>?_) (fun h88=>?_)
   ·replace h:=iT h88 h
    refine cdraw (by kernel_rfl) rfl fun w3 hh_ ho_ ht_ hu_=>?_
    replace hS:=hS.drew hh_ ho_ ht_ hu_
    refine sf_start (fpi 0 [0,16] rfl (fpi 1 [1,2,3,4,5,6,7,8,9,10,13,14,15,16] rfl (fpi 2 [2,3,4,5,6,7,8,9,10,13,14,15,16] rfl (fpi 3 [3,4,5,6,7,8,9,10,13,14,15,16] rfl (fr_ 4 [4,5,6,7,8,9,10,13,14,15,16] rfl (u_load ti107 (et (k90 d5)) ((hS.blk d1).cell d0)) (q90 p6) (fpi 5 [5,6,7,8,9,10,13,14,15,16] rfl (fpi 6 [6,7,8,9,10,13,14,15,16] rfl (fr_ 7 [7,8,9,10,13,14,15,16] rfl (u_load ti56 (et (k90 d8)) ((m7 _ hS.a).one d0)) (q90 p9) ?_))))))))
    replace h:=bI h; obtain ⟨x89,g90,h⟩:=h
    obtain ⟨b91,o92,cs93,rfl,f94,m95⟩:=Np.get m6 g90
    obtain ⟨a96,c97,a99,c100,rfl,m98,m101⟩:=m95
    refine fpi 8 [8,9,10,13,14,15,16] rfl (fpi 9 [9,10,13,14,15,16] rfl (fr_ 10 [10,13,14,15,16] rfl (u_load ti36 (et (k100 d1)) ((f94 _ hS.a).one d0)) (q100 p2) (fpi 11 [11,12,13,14,15,16] rfl (fr_ 12 [12,13,14,15,16] rfl (u_load ti3 (et (k100 d3)) ((hS.blk d0).cell d1)) (q100 p4) ?_))))
    replace h:=bI h; obtain ⟨x102,g103,h⟩:=h
    obtain ⟨b104,o105,cs106,e107,f108,m109⟩:=SlR.elem m98 g103
    obtain rfl:=m109
    refine fp 13 [13,14,15,16] rfl (u_iax underlying36 ti58 (et (k100 d2)) (et (k100 d4)) e107) (q100 p5) (fpi 14 [14,15,16] rfl (fr_ 15 [15,16] rfl (u_load ti3 (et (k100 d6)) ((f108 _ hS.a).one d0)) (q100 p7) ?_))
    replace h:=bI h; obtain ⟨r110,g111,h⟩:=h
    replace hS:=((((hS.bg Y5).bg Y5).bg Y5).bg Y5).bg Y5
    refine sf1 rfl rfl rfl rfl (wanted_0 rfl) (s_callv isfn119 ef (e1 (et (k90 d2)) (e1 (et (k100 d7)) e0)) (vf_push_w hg m6 m7 m13 m16 m17 m22 m26 m30 m34 g111 hS) ?_)
    rintro _ w4 ⟨μ2,es113,c114,v116,cs117,v119,cs120,v122,cs123,rfl,le112,hS,m115,m118,m121,m124⟩
    refine po ?_
    refine ⟨Mons.z,?_⟩
    refine sf_nil ?_
    refine (fun h=>bn (xl h)) ?_
    replace hS:=hS.drop (Rm.s (Rm.s (Rm.s (Rm.s (Rm.s Rm.z)))))
    exact ⟨_,_,rfl,(aK4 (aO4 (aK2 (aO50 (aO50 (aO50 (aO20 (aO4 aZ)))))))),_,r110.2.2.2.2,r110.1,es113,_,r110.2.1,_,_,r110.2.2.1,_,_,r110.2.2.2.1,_,_,rfl,h,le112,hS,m115,m118,m121,m124⟩
   ·replace h:=iF h88 h
    refine nz ?_
    iterate 2 refine st ?_
    refine nw ?_
    refine cifd (et (k100 d9)) (fun h125=>?_) (xF h)
    replace h:=iT h125 h
    refine nz (st ?_)
    replace h:=bI h; obtain ⟨r126,g127,h⟩:=h
    replace hS:=((((hS.bg Y5).bg Y5).bg Y5).bg Y5).bg Y5
    refine ca (vf_pop_w hg m6 m7 m13 m16 m17 m22 m26 m30 m34 g127 hS) ?_
    rintro _ w5 ⟨μ3,es129,c130,v132,cs133,v135,cs136,v138,cs139,rfl,le128,hS,m131,m134,m137,m140⟩
    refine po (st (nx ?_))
    iterate 3 refine st ?_
    refine ld ((hS.blk d0).cell d6) ?_
    iterate 2 refine st ?_
    refine wspd (k100 (k10 d8)) (q100 (q10 p8)) (q100 (q10 p8)) (fun h141=>?_) (xF h)
    replace h:=iT h141 h
    refine sy rfl ?_
    replace h:=bI h; obtain ⟨r142,g143,h⟩:=h
    refine wy rfl (k100 (k10 d8)) (s_callv isfn76 ef (e1 (et (k100 (k10 d9))) e0) (vf_plain_w (hg.t le128) g143 hS) ?_)
    rintro _ w6 ⟨μ4,rfl,le144,hS⟩
    refine po (sy rfl (st (nw ?_)))
    refine cifnb (et (k100 (k20 d2))) (xF h) fun h145=>?_
    replace h:=iT h145 h
    refine cskip ?_
    refine (fun h=>bn (xl h)) ?_
    replace hS:=hS.drop (Rm.s (Rm.s (Rm.s (Rm.s (Rm.s Rm.z)))))
    exact ⟨_,_,rfl,(aK4 (aO4 (aK2 (aO50 (aO50 (aO50 (aO20 (aO4 aZ)))))))),_,r126.2.2.2.2.2,r126.2.1,es129,_,r126.2.2.1,_,_,r126.2.2.2.1,_,_,r126.2.2.2.2.1,_,_,rfl,h,(le128.t le144),hS,(m131.up le144),(m134.up le144),(m137.up le144),(m140.up le144)⟩
 ·rintro _ t w7 ⟨μ5,i50,l53,es51,c52,l57,v55,cs56,l61,v59,cs60,l65,v63,cs64,rfl,h,le146,hS,m147,m148,m149,m150⟩
  unfold vf_special_j1 at h
  refine nrm (mK4 (mO4 (mK2 (mO50 (mO50 (mO50 (mO20 (mO4 mz)))))))) (xn (nz (st (nw (cret ?_)))))
  obtain rfl:=Option.some.inj h
  refine ret1 rfl d4 ?_
  exact ⟨_,es51,_,_,_,_,_,_,_,rfl,le146,hS,m147,m148,m149,m150⟩
theorem vf_step_w (hg:Le Gm μ0) {chec_2:TVerifyChecker} {u_8:TUnit} {at_18:List (Int×TVerifyShape)} {todo_23 stac_27:List Int} {has_31:List Bool} {err_35:Int} {p_2:TInstr} {r:Bool×List (Int×TVerifyShape)×List Int×List Int×List Bool×Int} (m6:Np μ0 v5 chec_2.m) (m7:At μ0 b3 o4 [v5]) (m13:Sl μ0 a11 c12 u_8.Locals) (m16:Sl μ0 a14 c15 u_8.Code) (m17:At μ0 b9 o10 [.int .i64 u_8.Kind,.int .i64 u_8.Params,.slice a11 u_8.Locals.length c12,.int .i64 u_8.Result,.int .i64 u_8.Takes,.slice a14 u_8.Code.length c15]) (m22:Mq μ0 es20 c21 at_18) (m26:Rw μ0 cs25 todo_23) (m30:Rw μ0 cs29 stac_27) (m34:Rw μ0 cs33 has_31) (h:vf_step fu chec_2 u_8 at_18 todo_23 stac_27 has_31 err_35 p_2=some r) (hS:Sq μ0 w0 w (.blk b1 174 [.pointer (some ⟨b3,o4,none⟩),.pointer (some ⟨b9,o10,none⟩),.map (some b19),v24,v28,v32,.int .i64 err_35]::.map b19 es20 c21::.row v24 3 1 todo_23.length cs25::.row v28 3 1 stac_27.length cs29::.row v32 4 1 has_31.length cs33::rsF)):CallsV prog 81 [.pointer (some ⟨b1,0,none⟩),.agg ⟨[.int .i64 p_2.Op,.int .i64 p_2.A,.int .i64 p_2.N]⟩] w (fun v w'=>∃ (μ':M) (es36:List MapEntry) (c37:Nat) (v39:Value) (cs40:List Value) (v42:Value) (cs43:List Value) (v45:Value) (cs46:List Value),v=.bool r.1∧Le μ0 μ'∧Sq μ' w0 w' (.blk b1 174 [.pointer (some ⟨b3,o4,none⟩),.pointer (some ⟨b9,o10,none⟩),.map (some b19),v39,v42,v45,.int .i64 r.2.2.2.2.2]::.map b19 es36 c37::.row v39 3 1 r.2.2.1.length cs40::.row v42 3 1 r.2.2.2.1.length cs43::.row v45 4 1 r.2.2.2.2.1.length cs46::rsF)∧Mq μ' es36 c37 r.2.1∧Rw μ' cs40 r.2.2.1∧Rw μ' cs43 r.2.2.2.1∧Rw μ' cs46 r.2.2.2.2.1):=by
 unfold vf_step at h
 refine enter func81 rfl (frm:=_::_::u1 (u20 (u20 (u50 (u50 (u50 [])))))) rfl (nz ?_)
 refine wl (s_box (et d1) rfl hS ?_); clear hS; intro b48 w1 hb49 hS; refine po ?_
 refine st (nx ?_)
 iterate 2 refine st ?_
 refine ny (nz (st (ld ((hS.blk d0).cell d0) (st (nw ?_)))))
 refine ccutE ([4]++[8]++List.range' 11 182) (by decide +kernel) (fun m w=>∃ μx i50 l53 es51 c52 l57 v55 cs56 l61 v59 cs60 l65 v63 cs64,m=(yK4 (yO1 4 (yK3 (yO1 8 (yK2 (yO50 11 (yO50 61 (yO50 111 (yO20 161 (yO10 181 (yO2 191 [])))))))))))∧vf_step_j1 i50 l53 l57 l61 l65=some r∧Le μ0 μx∧Sq μx w0 w (.blk b1 174 [.pointer (some ⟨b3,o4,none⟩),.pointer (some ⟨b9,o10,none⟩),.map (some b19),v55,v59,v63,.int .i64 i50]::.map b19 es51 c52::.row v55 3 1 l57.length cs56::.row v59 3 1 l61.length cs60::.row v63 4 1 l65.length cs64::rsF)∧Mq μx es51 c52 l53∧Rw μx cs56 l57∧Rw μx cs60 l61∧Rw μx cs64 l65) (by rintro _ _ ⟨_,_,_,_,_,_,_,_,_,_,_,_,_,_,rfl,_⟩; rfl) ?_ ?_
 ·refine cblock (nz ?_)
  iterate 3 refine st ?_
  refine nw ?_
  refine cifd (et (k10 d4)) (fun h67=>?_) (fun h67=>?_)
  ·replace h:=iT h67 h
   refine creg ?_
   iterate 2 refine st ?_
   replace h:=bI h; obtain ⟨r68,g69,h⟩:=h
   replace hS:=((((hS.bg Y5).bg Y5).bg Y5).bg Y5).bg Y5
   refine ca (vf_push_w hg m6 m7 m13 m16 m17 m22 m26 m30 m34 g69 hS) ?_
   rintro _ w2 ⟨μ1,es71,c72,v74,cs75,v77,cs78,v80,cs81,rfl,le70,hS,m73,m76,m79,m82⟩
   refine po (wnil ?_)
   refine (fun h=>bn (xl h)) ?_
   replace hS:=hS.drop (Rm.s (Rm.s (Rm.s (Rm.s (Rm.s Rm.z)))))
   exact ⟨_,_,rfl,(aK4 (aO1 (aK3 (aO1 (aK2 (aO50 (aO50 (aO50 (aO20 (aO10 (aO2 aZ))))))))))),_,r68.2.2.2.2,r68.1,es71,_,r68.2.1,_,_,r68.2.2.1,_,_,r68.2.2.2.1,_,_,rfl,h,le70,hS,m73,m76,m79,m82⟩
  ·replace h:=iF h67 h
   refine nz ?_
   iterate 3 refine st ?_
   refine nw ?_
   refine cifd (et (k20 d0)) (fun h83=>?_) (fun h83=>?_)
   ·replace h:=iT h83 h
    refine creg ?_
    iterate 2 refine st ?_
    replace h:=bI h; obtain ⟨r84,g85,h⟩:=h
    replace hS:=((((hS.bg Y5).bg Y5).bg Y5).bg Y5).bg Y5
    refine ca (vf_push_w hg m6 m7 m13 m16 m17 m22 m26 m30 m34 g85 hS) ?_
    rintro _ w3 ⟨μ2,es87,c88,v90,cs91,v93,cs94,v96,cs97,rfl,le86,hS,m89,m92,m95,m98⟩
    refine po (wnil ?_)
    refine (fun h=>bn (xl h)) ?_
    replace hS:=hS.drop (Rm.s (Rm.s (Rm.s (Rm.s (Rm.s Rm.z)))))
    exact ⟨_,_,rfl,(aK4 (aO1 (aK3 (aO1 (aK2 (aO50 (aO50 (aO50 (aO20 (aO10 (aO2 aZ))))))))))),_,r84.2.2.2.2,r84.1,es87,_,r84.2.1,_,_,r84.2.2.1,_,_,r84.2.2.2.1,_,_,rfl,h,le86,hS,m89,m92,m95,m98⟩
   ·replace h:=iF h83 h
    refine nz ?_
    iterate 3 refine st ?_
    refine nw ?_
    refine cifd (et (k20 d6)) (fun h99=>?_) (fun h99=>?_)
    ·replace h:=iT h99 h
     refine cseq (cseq ?_)
     refine cdraw (by kernel_rfl) rfl fun w4 hh_ ho_ ht_ hu_=>?_
     replace hS:=hS.drew hh_ ho_ ht_ hu_
     refine sf_start (fpi 0 [0,1,2,3,4,7,8,9] rfl (fpi 1 [1,2,3,4,7,8,9] rfl (fpi 2 [2,3,4,7,8,9] rfl (fpi 3 [3,4,7,8,9] rfl (fr_ 4 [4,7,8,9] rfl (u_load ti26 (et (k30 d2)) ((hS.blk d1).cell d5)) (q30 p3) (fpi 5 [5,6,7,8,9] rfl (fr_ 6 [6,7,8,9] rfl (u_load ti3 (et (k30 d4)) ((hS.blk d0).cell d1)) (q30 p5) ?_)))))))
     replace h:=bI h; obtain ⟨x100,g101,h⟩:=h
     obtain ⟨b102,o103,pc104,cs105,sc106,ec107,e108,f109,m110,pn111,st112,m113⟩:=Row.elemS (α:=Bool) (hS.get d5) m34 rfl g101
     rw [ec107] at hS
     obtain rfl:=m110
     refine fp 7 [7,8,9] rfl (u_iax underlying26 ti4 (et (k30 d3)) (et (k30 d5)) e108) (q30 p6) (fr_ 8 [8,9] rfl (u_load ti4 (et (k30 d6)) ((f109 _ _ _ (hS.get d5) rfl).one d0)) (q30 p7) (fpi 9 [9] rfl (sf_nil (xn ?_))))
     refine cifnb (et (k30 d8)) (xF h) fun h114=>?_
     replace h:=iT h114 h
     refine cskip (xn ?_)
     refine cdraw (by kernel_rfl) rfl fun w5 hh_ ho_ ht_ hu_=>?_
     replace hS:=hS.drew hh_ ho_ ht_ hu_
     refine sf_start (fpi 0 [0,12] rfl (fpi 1 [1,2,3,4,5,6,7,10,11,12] rfl (fpi 2 [2,3,4,5,6,7,10,11,12] rfl (fpi 3 [3,4,5,6,7,10,11,12] rfl (fr_ 4 [4,5,6,7,10,11,12] rfl (u_load ti166 (et (k40 d4)) ((hS.blk d1).cell d1)) (q40 p5) (fpi 5 [5,6,7,10,11,12] rfl (fpi 6 [6,7,10,11,12] rfl (fr_ 7 [7,10,11,12] rfl (u_load ti30 (et (k40 d7)) ((m17 _ hS.a).one d2)) (q40 p8) (fpi 8 [8,9,10,11,12] rfl (fr_ 9 [9,10,11,12] rfl (u_load ti3 (et (k40 d9)) ((hS.blk d0).cell d1)) (q50 p0) ?_))))))))))
     replace h:=bI h; obtain ⟨x115,g116,h⟩:=h
     obtain ⟨b117,o118,cs119,e120,f121,m122⟩:=SlR.elem m13 g116
     obtain rfl:=m122
     refine fp 10 [10,11,12] rfl (u_iax underlying30 ti3 (et (k40 d8)) (et (k50 d0)) e120) (q50 p1) (fr_ 11 [11,12] rfl (u_load ti3 (et (k50 d1)) ((f121 _ hS.a).one d0)) (q50 p2) ?_)
     replace h:=bI h; obtain ⟨r123,g124,h⟩:=h
     replace hS:=((((hS.bg Y5).bg Y5).bg Y5).bg Y5).bg Y5
     refine sf1 rfl rfl rfl rfl (wanted_0 rfl) (s_callv isfn119 ef (e1 (et (k40 d1)) (e1 (et (k50 d2)) e0)) (vf_push_w hg m6 m7 m13 m16 m17 m22 m26 m30 m113 g124 hS) ?_)
     rintro _ w6 ⟨μ3,es126,c127,v129,cs130,v132,cs133,v135,cs136,rfl,le125,hS,m128,m131,m134,m137⟩
     refine po ?_
     refine ⟨Mons.z,?_⟩
     refine sf_nil ?_
     refine (fun h=>bn (xl h)) ?_
     replace hS:=hS.drop (Rm.s (Rm.s (Rm.s (Rm.s (Rm.s Rm.z)))))
     exact ⟨_,_,rfl,(aK4 (aO1 (aK3 (aO1 (aK2 (aO50 (aO50 (aO50 (aO20 (aO10 (aO2 aZ))))))))))),_,r123.2.2.2.2,r123.1,es126,_,r123.2.1,_,_,r123.2.2.1,_,_,r123.2.2.2.1,_,_,rfl,h,le125,hS,m128,m131,m134,m137⟩
    ·replace h:=iF h99 h
     refine nz ?_
     iterate 3 refine st ?_
     refine nw ?_
     refine cifd (et (k50 d4)) (fun h138=>?_) (fun h138=>?_)
     ·replace h:=iT h138 h
      refine cseq ?_
      refine cdraw (by kernel_rfl) rfl fun w7 hh_ ho_ ht_ hu_=>?_
      replace hS:=hS.drew hh_ ho_ ht_ hu_
      refine sf_start (fpi 0 [0,13] rfl (fpi 1 [1,2,3,4,5,6,7,10,11,12,13] rfl (fpi 2 [2,3,4,5,6,7,10,11,12,13] rfl (fpi 3 [3,4,5,6,7,10,11,12,13] rfl (fr_ 4 [4,5,6,7,10,11,12,13] rfl (u_load ti166 (et (k60 d0)) ((hS.blk d1).cell d1)) (q60 p1) (fpi 5 [5,6,7,10,11,12,13] rfl (fpi 6 [6,7,10,11,12,13] rfl (fr_ 7 [7,10,11,12,13] rfl (u_load ti30 (et (k60 d3)) ((m17 _ hS.a).one d2)) (q60 p4) (fpi 8 [8,9,10,11,12,13] rfl (fr_ 9 [9,10,11,12,13] rfl (u_load ti3 (et (k60 d5)) ((hS.blk d0).cell d1)) (q60 p6) ?_))))))))))
      replace h:=bI h; obtain ⟨x139,g140,h⟩:=h
      obtain ⟨b141,o142,cs143,e144,f145,m146⟩:=SlR.elem m13 g140
      obtain rfl:=m146
      refine fp 10 [10,11,12,13] rfl (u_iax underlying30 ti3 (et (k60 d4)) (et (k60 d6)) e144) (q60 p7) (fr_ 11 [11,12,13] rfl (u_load ti3 (et (k60 d7)) ((f145 _ hS.a).one d0)) (q60 p8) ?_)
      refine sf1 rfl rfl rfl rfl (wanted_0 rfl) (s_bsl underlying30 ti3 (Parts.s (et (k60 d8)) rfl Parts.z) rfl rfl hS ?_); clear hS; intro b147 w8 hb148 hS; refine po ?_
      refine ⟨Mons.z,?_⟩
      obtain ⟨μ4,le150,m149,hS⟩:=Sep.frzBlk (l:=([x139]:List Int)) hS (Rw.one (α:=Int) rfl) (Nat.le_of_ble_eq_true rfl)
      replace h:=bI h; obtain ⟨r151,g152,h⟩:=h
      replace hS:=((((hS.bg Y5).bg Y5).bg Y5).bg Y5).bg Y5
      refine sf1 rfl rfl rfl rfl (wanted_0 rfl) (s_callv isfn120 ef (e1 (et (k50 d7)) (e1 (et (k60 d9)) e0)) (vf_want_w (hg.t le150) (m6.up le150) (m7.up le150) (m13.up le150) (m16.up le150) (m17.up le150) (m22.up le150) (m26.up le150) (m30.up le150) (m34.up le150) m149 g152 hS) ?_)
      rintro _ w9 ⟨μ5,es154,c155,v157,cs158,v160,cs161,v163,cs164,rfl,le153,hS,m156,m159,m162,m165⟩
      refine po ?_
      refine ⟨Mons.z,?_⟩
      refine sf_nil (xn ?_)
      refine cdraw (by kernel_rfl) rfl fun w10 hh_ ho_ ht_ hu_=>?_
      replace hS:=hS.drew hh_ ho_ ht_ hu_
      refine sf_start (fpi 0 [0,1,2,3,4,7,8] rfl (fpi 1 [1,2,3,4,7,8] rfl (fpi 2 [2,3,4,7,8] rfl (fpi 3 [3,4,7,8] rfl (fr_ 4 [4,7,8] rfl (u_load ti26 (et (k70 d4)) ((hS.blk d0).cell d5)) (q70 p5) (fpi 5 [5,6,7,8] rfl (fr_ 6 [6,7,8] rfl (u_load ti3 (et (k70 d6)) ((hS.blk d5).cell d1)) (q70 p7) ?_)))))))
      replace h:=bI h; obtain ⟨x166,g167,h⟩:=h
      obtain ⟨b168,o169,pc170,cs171,sc172,ec173,e174,f175,m176,pn177,st178,m179⟩:=Row.elemS (α:=Bool) (hS.get d4) m165 rfl g167
      rw [ec173] at hS
      obtain rfl:=m176
      refine fp 7 [7,8] rfl (u_iax underlying26 ti4 (et (k70 d5)) (et (k70 d7)) e174) (q70 p8) ?_
      have m180:=st178 _ [.bool true] true Le.r rfl
      refine sf1 rfl rfl rfl rfl (wanted_0 rfl) (s_storeR (off:=0) ti4 (et (k70 d8)) ec rfl rfl rfl hS d4 e174 (Nat.le_of_ble_eq_true rfl) (open_store pn177 rfl (Nat.le_of_ble_eq_true rfl)) p4 dn ?_); clear hS; intro w11 hS
      replace hS:Sq μ5 w0 w11 (.blk b1 174 [.pointer (some ⟨b3,o4,none⟩),.pointer (some ⟨b9,o10,none⟩),.map (some b19),v157,v160,v163,.int .i64 r151.2.2.2.2]::.map b19 es154 c155::.row v157 3 1 r151.2.1.length cs158::.row v160 3 1 r151.2.2.1.length cs161::.row v163 4 1 (r151.2.2.2.1.set p_2.A.toNat true).length (pc170++([.bool true]++sc172))::.blk b48 122 [.int .i64 p_2.Op,.int .i64 p_2.A,.int .i64 p_2.N]::rsF):=by rw [List.length_set]; exact hS
      refine ⟨Mons.z,?_⟩
      refine sf_nil ?_
      refine (fun h=>bn (xl h)) ?_
      replace hS:=hS.drop (Rm.s (Rm.s (Rm.s (Rm.s (Rm.s Rm.z)))))
      exact ⟨_,_,rfl,(aK4 (aO1 (aK3 (aO1 (aK2 (aO50 (aO50 (aO50 (aO20 (aO10 (aO2 aZ))))))))))),_,r151.2.2.2.2,r151.1,es154,_,r151.2.1,_,_,r151.2.2.1,_,_,(r151.2.2.2.1.set p_2.A.toNat true),_,(pc170++([.bool true]++sc172)),rfl,h,(le150.t le153),hS,m156,m159,m162,m180⟩
     ·replace h:=iF h138 h
      refine nz ?_
      iterate 3 refine st ?_
      refine nw ?_
      refine cifd (et (k70 d9)) (xT h) fun h181=>?_
      replace h:=iF h181 h
      refine nz ?_
      iterate 3 refine st ?_
      refine nw ?_
      refine cifd (et (k80 d4)) (xT h) fun h182=>?_
      replace h:=iF h182 h
      refine nz ?_
      iterate 3 refine st ?_
      refine nw ?_
      refine cifd (et (k90 d4)) (xT h) fun h183=>?_
      replace h:=iF h183 h
      refine nz ?_
      iterate 3 refine st ?_
      refine wspd (k100 d7) (q100 p7) (q100 p7) (fun h184=>?_) (xF h)
      replace h:=iT h184 h
      refine sy rfl (sy rfl ?_)
      iterate 2 refine st ?_
      refine nw ?_
      refine cifd (et (k100 d4)) (fun h185=>?_) (fun h185=>?_)
      ·replace h:=iT h185 h
       refine nz ?_
       iterate 3 refine st ?_
       refine wl (s_bsl underlying30 ti3 (Parts.s (et (k100 (k10 d2))) rfl (Parts.s (et (k100 (k10 d3))) rfl Parts.z)) rfl rfl hS ?_); clear hS; intro b186 w12 hb187 hS; refine po ?_
       obtain ⟨μ6,le189,m188,hS⟩:=Sep.frzBlk (l:=([1,1]:List Int)) hS (Rw.cons (α:=Int) (cs:=[.int .i64 1]) rfl (Rw.cons (α:=Int) (cs:=[.int .i64 1]) rfl Rw.nil)) (Nat.le_of_ble_eq_true rfl)
       replace h:=bI h; obtain ⟨r190,g191,h⟩:=h
       replace hS:=((((hS.bg Y5).bg Y5).bg Y5).bg Y5).bg Y5
       refine ca (vf_want_w (hg.t le189) (m6.up le189) (m7.up le189) (m13.up le189) (m16.up le189) (m17.up le189) (m22.up le189) (m26.up le189) (m30.up le189) (m34.up le189) m188 g191 hS) ?_
       rintro _ w13 ⟨μ7,es193,c194,v196,cs197,v199,cs200,v202,cs203,rfl,le192,hS,m195,m198,m201,m204⟩
       refine po (nw (creg ?_))
       iterate 2 refine st ?_
       replace h:=bI h; obtain ⟨r205,g206,h⟩:=h
       replace hS:=((((hS.bg Y4).bg Y4).bg Y4).bg Y4).bg Y4
       refine ca (vf_push_w (hg.t (le189.t le192)) (m6.up (le189.t le192)) (m7.up (le189.t le192)) (m13.up (le189.t le192)) (m16.up (le189.t le192)) (m17.up (le189.t le192)) m195 m198 m201 m204 g206 hS) ?_
       rintro _ w14 ⟨μ8,es208,c209,v211,cs212,v214,cs215,v217,cs218,rfl,le207,hS,m210,m213,m216,m219⟩
       refine po (wnil ?_)
       refine (fun h=>bn (xl h)) ?_
       replace hS:=hS.drop (Rm.s (Rm.s (Rm.s (Rm.s (Rm.s Rm.z)))))
       exact ⟨_,_,rfl,(aK4 (aO1 (aK3 (aO1 (aK2 (aO50 (aO50 (aO50 (aO20 (aO10 (aO2 aZ))))))))))),_,r205.2.2.2.2,r205.1,es208,_,r205.2.1,_,_,r205.2.2.1,_,_,r205.2.2.2.1,_,_,rfl,h,(le189.t (le192.t le207)),hS,m210,m213,m216,m219⟩
      ·replace h:=iF h185 h
       refine cseq ?_
       refine ccutE (List.range' 120 6) (by decide) (fun m w=>∃ μx b220,m=(yK50 (yK50 (yK10 (yK9 (.i (.bool b220)::(yO6 120 []))))))∧vf_step_j2 fu chec_2 p_2 u_8 at_18 todo_23 stac_27 has_31 err_35 b220=some r∧Le μ0 μx∧Sq μx w0 w (.blk b1 174 [.pointer (some ⟨b3,o4,none⟩),.pointer (some ⟨b9,o10,none⟩),.map (some b19),v24,v28,v32,.int .i64 err_35]::.map b19 es20 c21::.row v24 3 1 todo_23.length cs25::.row v28 3 1 stac_27.length cs29::.row v32 4 1 has_31.length cs33::.blk b48 122 [.int .i64 p_2.Op,.int .i64 p_2.A,.int .i64 p_2.N]::rsF)) (by rintro _ _ ⟨_,_,rfl,_⟩; rfl) ?_ ?_
       ·refine creg ?_
        iterate 3 refine st ?_
        refine wspd (k100 (k20 d2)) (q100 (q20 p2)) (q100 (q20 p2)) (fun h221=>?_) (fun h221=>?_)
        ·replace h:=iT h221 h
         refine sn rfl rfl (sn rfl rfl ?_)
         iterate 2 refine st ?_
         refine wnil (xl ?_)
         replace hS:=((((hS.bg Y5).bg Y5).bg Y5).bg Y5).bg Y5
         exact ⟨_,_,rfl,(aK50 (aK50 (aK10 (aK9 (aI (aO6 aZ)))))),_,true,rfl,h,Le.r,hS⟩
        ·replace h:=iF h221 h
         refine sy rfl (sy rfl ?_)
         iterate 2 refine st ?_
         refine wnil (xl ?_)
         replace hS:=((((hS.bg Y5).bg Y5).bg Y5).bg Y5).bg Y5
         exact ⟨_,_,rfl,(aK50 (aK50 (aK10 (aK9 (aI (aO6 aZ)))))),_,(decide (p_2.Op=14)),rfl,h,Le.r,hS⟩
       ·rintro _ t w15 ⟨μ9,b220,rfl,h,le222,hS⟩
        unfold vf_step_j2 at h
        refine nrm (mK50 (mK50 (mK10 (mK9 (mi (mO6 mz)))))) (xn ?_)
        refine cifb (et (k100 (k10 d9))) (fun h223=>?_) (fun h223=>?_)
        ·replace h:=iT h223 h
         refine nz (st ?_)
         replace h:=bI h; obtain ⟨r224,g225,h⟩:=h
         replace hS:=((((hS.bg Y4).bg Y4).bg Y4).bg Y4).bg Y4
         refine ca (vf_pop_w (hg.t le222) (m6.up le222) (m7.up le222) (m13.up le222) (m16.up le222) (m17.up le222) (m22.up le222) (m26.up le222) (m30.up le222) (m34.up le222) g225 hS) ?_
         rintro _ w16 ⟨μ10,es227,c228,v230,cs231,v233,cs234,v236,cs237,rfl,le226,hS,m229,m232,m235,m238⟩
         refine po (st (ny (nz ?_)))
         iterate 4 refine st ?_
         refine wspd (k100 (k30 d1)) (q100 (q30 p1)) (q100 (q30 p1)) (xT h) fun h239=>?_
         replace h:=iF h239 h
         refine sn rfl rfl (sn rfl rfl (sn rfl rfl (st (nw (ciff (et (k100 (k30 d5))) (cskip (xn (nz ?_))))))))
         iterate 2 refine st ?_
         refine wl (s_bsl underlying30 ti3 (Parts.s (et (k100 (k30 d9))) rfl Parts.z) rfl rfl hS ?_); clear hS; intro b240 w17 hb241 hS; refine po ?_
         obtain ⟨μ11,le243,m242,hS⟩:=Sep.frzBlk (l:=([r224.1]:List Int)) hS (Rw.one (α:=Int) rfl) (Nat.le_of_ble_eq_true rfl)
         replace h:=bI h; obtain ⟨r244,g245,h⟩:=h
         replace hS:=((((hS.bg Y4).bg Y4).bg Y4).bg Y4).bg Y4
         refine ca (vf_want_w (hg.t (le222.t (le226.t le243))) (m6.up (le222.t (le226.t le243))) (m7.up (le222.t (le226.t le243))) (m13.up (le222.t (le226.t le243))) (m16.up (le222.t (le226.t le243))) (m17.up (le222.t (le226.t le243))) (m229.up le243) (m232.up le243) (m235.up le243) (m238.up le243) m242 g245 hS) ?_
         rintro _ w18 ⟨μ12,es247,c248,v250,cs251,v253,cs254,v256,cs257,rfl,le246,hS,m249,m252,m255,m258⟩
         refine po (nw (creg ?_))
         iterate 2 refine st ?_
         replace h:=bI h; obtain ⟨r259,g260,h⟩:=h
         replace hS:=((((hS.bg Y4).bg Y4).bg Y4).bg Y4).bg Y4
         refine ca (vf_push_w (hg.t (le222.t (le226.t (le243.t le246)))) (m6.up (le222.t (le226.t (le243.t le246)))) (m7.up (le222.t (le226.t (le243.t le246)))) (m13.up (le222.t (le226.t (le243.t le246)))) (m16.up (le222.t (le226.t (le243.t le246)))) (m17.up (le222.t (le226.t (le243.t le246)))) m249 m252 m255 m258 g260 hS) ?_
         rintro _ w19 ⟨μ13,es262,c263,v265,cs266,v268,cs269,v271,cs272,rfl,le261,hS,m264,m267,m270,m273⟩
         refine po (wnil ?_)
         refine (fun h=>bn (xl h)) ?_
         replace hS:=hS.drop (Rm.s (Rm.s (Rm.s (Rm.s (Rm.s Rm.z)))))
         exact ⟨_,_,rfl,(aK4 (aO1 (aK3 (aO1 (aK2 (aO50 (aO50 (aO50 (aO20 (aO10 (aO2 aZ))))))))))),_,r259.2.2.2.2,r259.1,es262,_,r259.2.1,_,_,r259.2.2.1,_,_,r259.2.2.2.1,_,_,rfl,h,(le222.t (le226.t (le243.t (le246.t le261)))),hS,m264,m267,m270,m273⟩
        ·replace h:=iF h223 h
         refine nz ?_
         iterate 3 refine st ?_
         refine wspd (k100 (k40 d8)) (q100 (q40 p8)) (q100 (q40 p8)) (fun h274=>?_) (xF h)
         replace h:=iT h274 h
         refine sy rfl (sy rfl ?_)
         iterate 2 refine st ?_
         refine nw ?_
         refine cifd (et (k100 (k40 d5))) (fun h275=>?_) (fun h275=>?_)
         ·replace h:=iT h275 h
          refine nz ?_
          iterate 3 refine st ?_
          refine wl (s_bsl underlying30 ti3 (Parts.s (et (k100 (k50 d3))) rfl (Parts.s (et (k100 (k50 d4))) rfl Parts.z)) rfl rfl hS ?_); clear hS; intro b276 w20 hb277 hS; refine po ?_
          obtain ⟨μ14,le279,m278,hS⟩:=Sep.frzBlk (l:=([1,1]:List Int)) hS (Rw.cons (α:=Int) (cs:=[.int .i64 1]) rfl (Rw.cons (α:=Int) (cs:=[.int .i64 1]) rfl Rw.nil)) (Nat.le_of_ble_eq_true rfl)
          replace h:=bI h; obtain ⟨r280,g281,h⟩:=h
          replace hS:=((((hS.bg Y4).bg Y4).bg Y4).bg Y4).bg Y4
          refine ca (vf_want_w (hg.t (le222.t le279)) (m6.up (le222.t le279)) (m7.up (le222.t le279)) (m13.up (le222.t le279)) (m16.up (le222.t le279)) (m17.up (le222.t le279)) (m22.up (le222.t le279)) (m26.up (le222.t le279)) (m30.up (le222.t le279)) (m34.up (le222.t le279)) m278 g281 hS) ?_
          rintro _ w21 ⟨μ15,es283,c284,v286,cs287,v289,cs290,v292,cs293,rfl,le282,hS,m285,m288,m291,m294⟩
          refine po (nw (creg ?_))
          iterate 2 refine st ?_
          replace h:=bI h; obtain ⟨r295,g296,h⟩:=h
          replace hS:=((((hS.bg Y4).bg Y4).bg Y4).bg Y4).bg Y4
          refine ca (vf_push_w (hg.t (le222.t (le279.t le282))) (m6.up (le222.t (le279.t le282))) (m7.up (le222.t (le279.t le282))) (m13.up (le222.t (le279.t le282))) (m16.up (le222.t (le279.t le282))) (m17.up (le222.t (le279.t le282))) m285 m288 m291 m294 g296 hS) ?_
          rintro _ w22 ⟨μ16,es298,c299,v301,cs302,v304,cs305,v307,cs308,rfl,le297,hS,m300,m303,m306,m309⟩
          refine po (wnil ?_)
          refine (fun h=>bn (xl h)) ?_
          replace hS:=hS.drop (Rm.s (Rm.s (Rm.s (Rm.s (Rm.s Rm.z)))))
          exact ⟨_,_,rfl,(aK4 (aO1 (aK3 (aO1 (aK2 (aO50 (aO50 (aO50 (aO20 (aO10 (aO2 aZ))))))))))),_,r295.2.2.2.2,r295.1,es298,_,r295.2.1,_,_,r295.2.2.1,_,_,r295.2.2.2.1,_,_,rfl,h,(le222.t (le279.t (le282.t le297))),hS,m300,m303,m306,m309⟩
         ·replace h:=iF h275 h
          refine nz ?_
          iterate 3 refine st ?_
          refine wspd (k100 (k60 d3)) (q100 (q60 p3)) (q100 (q60 p3)) (xT h) fun h310=>?_
          replace h:=iF h310 h
          refine sy rfl (sy rfl ?_)
          iterate 2 refine st ?_
          refine nw ?_
          refine cifd (et (k100 (k60 d0))) (xT h) fun h311=>?_
          replace h:=iF h311 h
          refine nz ?_
          iterate 3 refine st ?_
          refine nw ?_
          refine cifd (et (k100 (k70 d5))) (fun h312=>?_) (fun h312=>?_)
          ·replace h:=iT h312 h
           refine nz ?_
           iterate 2 refine st ?_
           refine ld ((hS.blk d5).cell d1) ?_
           replace h:=bI h; obtain ⟨r313,g314,h⟩:=h
           replace hS:=((((hS.bg Y4).bg Y4).bg Y4).bg Y4).bg Y4
           refine ca (vf_to_w (hg.t le222) (m6.up le222) (m7.up le222) (m13.up le222) (m16.up le222) (m17.up le222) (m22.up le222) (m26.up le222) (m30.up le222) (m34.up le222) g314 hS) ?_
           rintro _ w23 ⟨μ17,es316,c317,v319,cs320,v322,cs323,v325,cs326,rfl,le315,hS,m318,m321,m324,m327⟩
           refine po (nx (st (nw (cret ?_))))
           refine (fun h=>br (xr (xr h))) ?_
           obtain rfl:=Option.some.inj h
           refine ret1 rfl d4 ?_
           replace hS:=hS.drop (Rm.s (Rm.s (Rm.s (Rm.s (Rm.s Rm.z)))))
           exact ⟨_,es316,_,_,_,_,_,_,_,rfl,(le222.t le315),hS,m318,m321,m324,m327⟩
          ·replace h:=iF h312 h
           refine nz ?_
           iterate 3 refine st ?_
           refine nw ?_
           refine cifd (et (k100 (k80 d2))) (fun h328=>?_) (fun h328=>?_)
           ·replace h:=iT h328 h
            refine nz ?_
            iterate 2 refine st ?_
            refine wl (s_bsl underlying30 ti3 (Parts.s (et (k100 (k80 d6))) rfl Parts.z) rfl rfl hS ?_); clear hS; intro b329 w24 hb330 hS; refine po ?_
            obtain ⟨μ18,le332,m331,hS⟩:=Sep.frzBlk (l:=([2]:List Int)) hS (Rw.one (α:=Int) rfl) (Nat.le_of_ble_eq_true rfl)
            replace h:=bI h; obtain ⟨r333,g334,h⟩:=h
            replace hS:=((((hS.bg Y4).bg Y4).bg Y4).bg Y4).bg Y4
            refine ca (vf_want_w (hg.t (le222.t le332)) (m6.up (le222.t le332)) (m7.up (le222.t le332)) (m13.up (le222.t le332)) (m16.up (le222.t le332)) (m17.up (le222.t le332)) (m22.up (le222.t le332)) (m26.up (le222.t le332)) (m30.up (le222.t le332)) (m34.up (le222.t le332)) m331 g334 hS) ?_
            rintro _ w25 ⟨μ19,es336,c337,v339,cs340,v342,cs343,v345,cs346,rfl,le335,hS,m338,m341,m344,m347⟩
            refine po (nw (creg ?_))
            iterate 2 refine st ?_
            refine ld ((hS.blk d5).cell d1) ?_
            replace h:=bI h; obtain ⟨r348,g349,h⟩:=h
            replace hS:=((((hS.bg Y4).bg Y4).bg Y4).bg Y4).bg Y4
            refine ca (vf_to_w (hg.t (le222.t (le332.t le335))) (m6.up (le222.t (le332.t le335))) (m7.up (le222.t (le332.t le335))) (m13.up (le222.t (le332.t le335))) (m16.up (le222.t (le332.t le335))) (m17.up (le222.t (le332.t le335))) m338 m341 m344 m347 g349 hS) ?_
            rintro _ w26 ⟨μ20,es351,c352,v354,cs355,v357,cs358,v360,cs361,rfl,le350,hS,m353,m356,m359,m362⟩
            refine po (wnil ?_)
            refine (fun h=>bn (xl h)) ?_
            replace hS:=hS.drop (Rm.s (Rm.s (Rm.s (Rm.s (Rm.s Rm.z)))))
            exact ⟨_,_,rfl,(aK4 (aO1 (aK3 (aO1 (aK2 (aO50 (aO50 (aO50 (aO20 (aO10 (aO2 aZ))))))))))),_,r348.2.2.2.2,r348.1,es351,_,r348.2.1,_,_,r348.2.2.1,_,_,r348.2.2.2.1,_,_,rfl,h,(le222.t (le332.t (le335.t le350))),hS,m353,m356,m359,m362⟩
           ·replace h:=iF h328 h
            refine nz (st (lds (hS.blk d5).cells rfl ?_))
            replace h:=bI h; obtain ⟨r363,g364,h⟩:=h
            replace hS:=((((hS.bg Y4).bg Y4).bg Y4).bg Y4).bg Y4
            refine ca (vf_special_w (hg.t le222) (m6.up le222) (m7.up le222) (m13.up le222) (m16.up le222) (m17.up le222) (m22.up le222) (m26.up le222) (m30.up le222) (m34.up le222) g364 hS) ?_
            rintro _ w27 ⟨μ21,es366,c367,v369,cs370,v372,cs373,v375,cs376,rfl,le365,hS,m368,m371,m374,m377⟩
            refine po (st (nw (cret ?_)))
            refine (fun h=>br (xr (xr h))) ?_
            obtain rfl:=Option.some.inj h
            refine ret1 rfl d4 ?_
            replace hS:=hS.drop (Rm.s (Rm.s (Rm.s (Rm.s (Rm.s Rm.z)))))
            exact ⟨_,es366,_,_,_,_,_,_,_,rfl,(le222.t le365),hS,m368,m371,m374,m377⟩
 ·rintro _ t w28 ⟨μ22,i50,l53,es51,c52,l57,v55,cs56,l61,v59,cs60,l65,v63,cs64,rfl,h,le378,hS,m379,m380,m381,m382⟩
  unfold vf_step_j1 at h
  refine nrm (mK4 (mO1 (mK3 (mO1 (mK2 (mO50 (mO50 (mO50 (mO20 (mO10 (mO2 mz))))))))))) (xn (nz (st (nw (cret ?_)))))
  obtain rfl:=Option.some.inj h
  refine ret1 rfl d4 ?_
  exact ⟨_,es51,_,_,_,_,_,_,_,rfl,le378,hS,m379,m380,m381,m382⟩
theorem vf_code_w (hg:Le Gm μ0) {p_1:TVerifyChecker} {p_2:Int} {r:TWhere} (m4:Np μ0 v3 p_1.m) (m5:At μ0 b1 o2 [v3]) (h:vf_code fu p_1 p_2=some r) (hS:Sq μ0 w0 w (rsF)):CallsV prog 42 [.pointer (some ⟨b1,o2,none⟩),.int .i64 p_2] w (fun v w'=>∃ (μ':M) ,v=.agg ⟨[.int .i64 r.Err,.int .i64 r.Unit,.int .i64 r.At]⟩∧Le μ0 μ'∧Sq μ' w0 w' (rsF)):=by
 unfold vf_code at h
 refine enter func42 rfl (frm:=_::_::u2 (u2 (u50 (u50 [])))) rfl (nz ?_)
 refine wl (s_alloc ti53 hS ?_); clear hS; intro b6 w1 hb7 hS; refine po ?_
 refine nx ?_
 iterate 3 refine st ?_
 refine ld ((m5 _ hS.a).one d0) ?_
 replace h:=bI h; obtain ⟨x8,g9,h⟩:=h
 obtain ⟨b10,o11,cs12,rfl,f13,m14⟩:=Np.get m4 g9
 obtain ⟨a15,c16,a18,c19,rfl,m17,m20⟩:=m14
 iterate 2 refine st ?_
 refine ld ((f13 _ hS.a).one d1) (st ?_)
 replace h:=bI h; obtain ⟨x21,g22,h⟩:=h
 obtain ⟨b23,o24,cs25,e26,f27,m28⟩:=SlR.elem m20 g22
 obtain ⟨a29,c30,a32,c33,rfl,m31,m34⟩:=m28
 refine wl (s_iax underlying37 ti105 (et (k10 d5)) (et (k10 d6)) e26 (dt (q10 p7)) (st (nx ?_)))
 iterate 2 refine st ?_
 refine wl (s_mkmap hS ?_); clear hS; intro b35 w2 hb36 hS; refine po ?_
 refine wl (s_build ti174 pl174 (Fl.o rfl (et (k10 d8)) rfl rfl p0 (Fl.o rfl (et (k10 d9)) rfl rfl p1 (Fl.o rfl (et (k20 d0)) rfl rfl p2 Fl.z))) (dt (q20 p1)) ?_)
 refine wl (s_box (et (k20 d1)) rfl hS ?_); clear hS; intro b37 w3 hb38 hS; refine po ?_
 refine st (nx ?_)
 iterate 4 refine st ?_
 refine ld ((f27 _ hS.a).one d2) (wl (s_lensl underlying30 (et (k20 d7)) (dt (q20 p8)) ?_))
 replace h:=bI h; obtain ⟨k39,g40,h⟩:=h
 have m42:Rw μ0 (List.replicate k39 (.bool false)) ((List.replicate k39 (false:Bool)):List Bool):=rw_rep (α:=Bool) (by intro; exact rfl) k39
 refine wl (s_mkslice underlying26 ti4 (by decide) (et (k20 d8)) (et (k20 d8)) g40 hS ?_); clear hS; intro b41 w4 hS; refine po ?_
 replace hS:Sq μ0 w0 w4 (.row (.slice (some ⟨b41,0,none⟩) k39 k39) 4 1 (List.replicate k39 (false:Bool)).length (List.replicate k39 (.bool false))::.blk b37 174 [.pointer (some ⟨b1,o2,none⟩),.pointer (some ⟨b23,o24,none⟩),.map (some b35),.slice none 0 0,.slice none 0 0,.slice none 0 0,.int .i64 0]::.map b35 [] 0::.blk b6 53 [.int .i64 0,.int .i64 0,.int .i64 0]::rsF):=by rw [List.length_replicate]; exact hS
 iterate 3 refine st ?_
 refine wl (s_store1 ti26 (et (k30 d2)) (et (k20 d9)) rfl hS d1 p5 rfl p1 dn ?_)
 clear hS; intro w5 hS
 refine ny (nz ?_)
 iterate 3 refine st ?_
 refine ld ((f27 _ hS.a).one d1) (st (nw (cblock ?_)))
 replace hS:=((hS.bg Y1).bg Y2).bg Y3
 refine cloopE ([7]++List.range' 38 10) (by decide) (fun n m w=>∃ (μx:M) ,m=(yK7 (yO1 7 (yK20 (yK9 (.i (.int .i64 0)::(yO10 38 []))))))∧vf_code_l1 fu p_1 x21 k39 n =some r∧Le μ0 μx∧Sq μx w0 w (.blk b6 53 [.int .i64 0,.int .i64 0,.int .i64 0]::.map b35 [] 0::.blk b37 174 [.pointer (some ⟨b1,o2,none⟩),.pointer (some ⟨b23,o24,none⟩),.map (some b35),.slice none 0 0,.slice none 0 0,(.slice (some ⟨b41,0,none⟩) k39 k39),.int .i64 0]::.row (.slice (some ⟨b41,0,none⟩) k39 k39) 4 1 (List.replicate k39 (false:Bool)).length (List.replicate k39 (.bool false))::rsF)) (by rintro _ _ _ ⟨_,rfl,_⟩; rfl) _ _ (aK7 (aO1 (aK20 (aK9 (aI (aO10 aZ)))))) ⟨_,rfl,h,Le.r,hS⟩ ?_
 rintro n_1 _ t w6 ⟨μ1,rfl,h,le43,hS⟩
 cases n_1 with
 | zero=>cases h
 | succ n_1 =>
 unfold vf_code_l1 at h
 refine cnrm (mK7 (mO1 (mK20 (mK9 (mi (mO10 mz)))))) (nz (st (ny ?_)))
 refine cifd (et (k30 d8)) (xT h) fun h44=>?_
 replace h:=iF h44 h
 refine cexit ?_
 refine (fun h=>xe (xe (bh h))) ?_
 refine xn (nz (st ?_))
 replace hS:=hS.nilRow 3 (Mo.sz Int)
 replace hS:=hS.nilRow 3 (Mo.sz Int)
 replace h:=bI h; obtain ⟨r47,g48,h⟩:=h
 replace hS:=((((hS.bg Y5).bg Y1).bg Y2).bg Y4).bg Y5
 refine ca (vf_to_w (hg.t le43) (m4.up le43) (m5.up le43) (m31.up le43) (m34.up le43) (f27.up le43) ((Mq.nil (κ:=Int) (β:=TVerifyShape) (μ:=μ0) (c:=0)).up le43) (Rw.nil (α:=Int) (μ:=μ1)) (Rw.nil (α:=Int) (μ:=μ1)) (m42.up le43) g48 hS) ?_
 rintro _ w7 ⟨μ2,es50,c51,v53,cs54,v56,cs57,v59,cs60,rfl,le49,hS,m52,m55,m58,m61⟩
 refine po (ny (cblock ?_))
 replace hS:=(((((hS.bg Y3).bg Y3).bg Y4).bg Y3).bg Y4).bg Y5
 refine cloopE ([8]++List.range' 50 55) (by decide +kernel) (fun n m w=>∃ μx l163 es161 c162 i165 l168 v166 cs167 l172 v170 cs171 l176 v174 cs175,m=(yK8 (yO1 8 (yK20 (yK20 (yK1 (yO50 50 (yO5 100 [])))))))∧vf_code_l2 fu p_1 x21 n l163 i165 l168 l172 l176=some r∧Le μ2 μx∧Sq μx w0 w (.blk b6 53 [.int .i64 0,.int .i64 0,.int .i64 0]::.map b35 es161 c162::.blk b37 174 [.pointer (some ⟨b1,o2,none⟩),.pointer (some ⟨b23,o24,none⟩),.map (some b35),v170,v174,v166,.int .i64 i165]::.row v166 4 1 l168.length cs167::.row v170 3 1 l172.length cs171::.row v174 3 1 l176.length cs175::rsF)∧Mq μx es161 c162 l163∧Rw μx cs167 l168∧Rw μx cs171 l172∧Rw μx cs175 l176) (by rintro _ _ _ ⟨_,_,_,_,_,_,_,_,_,_,_,_,_,_,rfl,_⟩; rfl) _ _ (aK8 (aO1 (aK20 (aK20 (aK1 (aO50 (aO5 aZ))))))) ⟨_,r47.1,es50,c51,r47.2.2.2.2,r47.2.2.2.1,v59,cs60,r47.2.1,v53,cs54,r47.2.2.1,v56,cs57,rfl,h,Le.r,hS,m52,m61,m55,m58⟩ ?_
 rintro n_2 _ t w8 ⟨μ3,l163,es161,c162,i165,l168,v166,cs167,l172,v170,cs171,l176,v174,cs175,rfl,h,le277,hS,m278,m279,m280,m281⟩
 cases n_2 with
 | zero=>cases h
 | succ n_2 =>
 unfold vf_code_l2 at h
 refine cnrm (mK8 (mO1 (mK20 (mK20 (mK1 (mO50 (mO5 mz))))))) (cseq (nz ?_))
 iterate 3 refine st ?_
 refine ld ((hS.blk d2).cell d3) (wl (s_lenv underlying30 (et (k50 d3)) (hS.get d4).isSl (dt (q50 p4)) (st (nw ?_))))
 refine cifd (et (k50 d5)) (fun h282=>?_) (fun h282=>?_)
 ·replace h:=iT h282 h
  refine cskip (xn (cblock (nz ?_)))
  iterate 3 refine st ?_
  refine ld ((hS.blk d2).cell d3) ?_
  replace h:=bI h; obtain ⟨x283,g284,h⟩:=h
  obtain ⟨b285,o286,pc287,cs288,sc289,ec290,e291,f292,m293,pn294,st295,m296⟩:=Row.elemS (α:=Int) (hS.get d4) m280 rfl g284
  rw [ec290] at hS
  obtain rfl:=m293
  refine wl (s_iax underlying30 ti3 (et (k50 d9)) ec e291 (dt (q60 p0)) (ld ((f292 _ _ _ (hS.get d4) rfl).one d0) (st (nx ?_))))
  iterate 4 refine st ?_
  refine ld ((hS.blk d2).cell d3) ?_
  replace h:=bI h; obtain ⟨l297,g298,h⟩:=h
  obtain ⟨v299,cs304,e300,hb301,hr302,m303⟩:=Row.cutQ (hS.get d4) m296 g298
  replace hS:=hS.reRow d4 hb301 hr302 p4
  refine wl (s_slc underlying30 ti3 (et (k60 d6)) (.s ec) .n e300 (dt (q60 p7)) ?_)
  iterate 2 refine st ?_
  refine wl (s_store1 ti30 (et (k60 d9)) (et (k60 d7)) (hS.get d4).cellV hS d2 p3 rfl p2 dn ?_)
  clear hS; intro w9 hS
  refine nx ?_
  iterate 4 refine st ?_
  refine ld ((hS.blk d2).cell d2) (st ?_)
  refine wl (s_mget1 (κ:=Int) (k:=x283) (β:=TVerifyShape) (zx:=(TVerifyShape.mk ([]:List Int) ([]:List Bool))) underlying170 underlying3 (et (k70 d4)) (et (k70 d5)) zv172 ⟨_,rfl,(TVerifyShape.i ⟨none,0,none,0,rfl,Sl.nil,Sl.nil⟩)⟩ (hS.get d1) m278 ?_); rintro _ ⟨_,rfl,⟨a310,c311,a313,c314,rfl,m312,m315⟩⟩; refine po ?_
  replace h:=bI h; obtain ⟨r316,g317,h⟩:=h
  refine ca (vf_copied_w (hg.t (le43.t (le49.t le277))) m312 m315 g317 hS) ?_
  rintro _ w10 ⟨μ4,v319,cs320,v322,cs323,rfl,le318,hS,m321,m324⟩
  refine po ?_
  iterate 2 refine st ?_
  refine wl (s_store ti172 (et (k70 d9)) (et (k70 d7)) rfl rfl (cv_s ((hS.get d0).cellV) (cv_s ((hS.get d1).cellV) cv_z)) hS d4 (Spl.s p4 (of_decide_eq_true rfl) (Spl.s p5 (of_decide_eq_true rfl) Spl.z)) rfl p4 dn ?_)
  clear hS; intro w11 hS
  replace hS:=(hS.drop (Rm.s (Rm.s (Rm.s (Rm.s (Rm.s (Rm.s (Rm.s Rm.z)))))))).drop (Rm.s (Rm.s (Rm.s (Rm.s (Rm.s Rm.z)))))
  refine ny (nz ?_)
  iterate 4 refine st ?_
  refine ld ((f27 _ ((le43.t (le49.t (le277.t le318))) _ hS.a)).one d5) (st ?_)
  replace h:=bI h; obtain ⟨x325,g326,h⟩:=h
  obtain ⟨b327,o328,cs329,e330,f331,m332⟩:=SlR.elem (m34.up (le43.t (le49.t (le277.t le318)))) g326
  obtain rfl:=m332
  refine wl (s_iax underlying103 ti122 (et (k80 d4)) (et (k80 d5)) e330 (dt (q80 p6)) (lds (f331 _ hS.a) rfl ?_))
  replace h:=bI h; obtain ⟨r333,g334,h⟩:=h
  replace hS:=((((hS.bg Y1).bg Y1).bg Y5).bg Y4).bg Y5
  refine ca (vf_step_w (hg.t (le43.t (le49.t (le277.t le318)))) (m4.up (le43.t (le49.t (le277.t le318)))) (m5.up (le43.t (le49.t (le277.t le318)))) (m31.up (le43.t (le49.t (le277.t le318)))) (m34.up (le43.t (le49.t (le277.t le318)))) (f27.up (le43.t (le49.t (le277.t le318)))) (m278.up le318) (m303.up le318) m321 m324 g334 hS) ?_
  rintro _ w12 ⟨μ5,es336,c337,v339,cs340,v342,cs343,v345,cs346,rfl,le335,hS,m338,m341,m344,m347⟩
  refine po (nw ?_)
  refine ccutE (List.range' 89 4) (by decide) (fun m w=>∃ μx l350 es348 c349 i352 l355 v353 cs354 l359 v357 cs358 l363 v361 cs362,m=(yK50 (yK20 (yK10 (yK9 (yO4 89 [])))))∧vf_code_j1 (vf_code_l2 fu p_1 x21 n_2) l350 i352 l355 l359 l363=some r∧Le μ5 μx∧Sq μx w0 w (.blk b6 53 [.int .i64 0,.int .i64 0,.int .i64 0]::.map b35 es348 c349::.blk b37 174 [.pointer (some ⟨b1,o2,none⟩),.pointer (some ⟨b23,o24,none⟩),.map (some b35),v357,v361,v353,.int .i64 i352]::.row v353 4 1 l355.length cs354::.row v357 3 1 l359.length cs358::.row v361 3 1 l363.length cs362::rsF)∧Mq μx es348 c349 l350∧Rw μx cs354 l355∧Rw μx cs358 l359∧Rw μx cs362 l363) (by rintro _ _ ⟨_,_,_,_,_,_,_,_,_,_,_,_,_,_,rfl,_⟩; rfl) ?_ ?_
  ·refine cifb (et (k80 d8)) (fun h365=>?_) (fun h365=>?_)
   ·replace h:=iT h365 h
    refine creg ?_
    iterate 2 refine st ?_
    replace h:=bI h; obtain ⟨i366,g367,h⟩:=h
    refine wl (s_addc (et (k90 d0)) ec g367 (dt (q90 p1)) ?_)
    replace h:=bI h; obtain ⟨r368,g369,h⟩:=h
    replace hS:=((((hS.bg Y4).bg Y4).bg Y4).bg Y4).bg Y4
    refine ca (vf_to_w (hg.t (le43.t (le49.t (le277.t (le318.t le335))))) (m4.up (le43.t (le49.t (le277.t (le318.t le335))))) (m5.up (le43.t (le49.t (le277.t (le318.t le335))))) (m31.up (le43.t (le49.t (le277.t (le318.t le335))))) (m34.up (le43.t (le49.t (le277.t (le318.t le335))))) (f27.up (le43.t (le49.t (le277.t (le318.t le335))))) m338 m341 m344 m347 g369 hS) ?_
    rintro _ w13 ⟨μ6,es371,c372,v374,cs375,v377,cs378,v380,cs381,rfl,le370,hS,m373,m376,m379,m382⟩
    refine po (wnil (xl ?_))
    replace hS:=(((((hS.bg Y3).bg Y3).bg Y4).bg Y3).bg Y4).bg Y5
    exact ⟨_,_,rfl,(aK50 (aK20 (aK10 (aK9 (aO4 aZ))))),_,r368.1,es371,_,r368.2.2.2.2,r368.2.2.2.1,_,_,r368.2.1,_,_,r368.2.2.1,_,_,rfl,h,le370,hS,m373,m382,m376,m379⟩
   ·replace h:=iF h365 h
    refine cskip (xl ?_)
    replace hS:=(((((hS.bg Y3).bg Y3).bg Y4).bg Y3).bg Y4).bg Y5
    exact ⟨_,_,rfl,(aK50 (aK20 (aK10 (aK9 (aO4 aZ))))),_,r333.2.1,es336,_,r333.2.2.2.2.2,r333.2.2.2.2.1,_,_,r333.2.2.1,_,_,r333.2.2.2.1,_,_,rfl,h,Le.r,hS,m338,m347,m341,m344⟩
  ·rintro _ t w14 ⟨μ7,l350,es348,c349,i352,l355,v353,cs354,l359,v357,cs358,l363,v361,cs362,rfl,h,le383,hS,m384,m385,m386,m387⟩
   unfold vf_code_j1 at h
   refine nrm (mK50 (mK20 (mK10 (mK9 (mO4 mz))))) (xn (nz ?_))
   iterate 3 refine st ?_
   refine ld ((hS.blk d2).cell d6) (st (nw ?_))
   refine cifd (et (k90 d7)) (xT h) fun h388=>?_
   replace h:=iF h388 h
   refine cskip ?_
   refine (fun h=>bn (xl h)) ?_
   exact ⟨n_2,_,_,rfl,(aK8 (aO1 (aK20 (aK20 (aK1 (aO50 (aO5 aZ))))))),⟨_,l350,es348,c349,i352,l355,v353,cs354,l359,v357,cs358,l363,v361,cs362,rfl,h,(le277.t (le318.t (le335.t le383))),hS,m384,m385,m386,m387⟩,Nat.lt_succ_self _⟩
 ·replace h:=iF h282 h
  refine cexit ?_
  refine (fun h=>xe (xe (bh h))) ?_
  refine xn (nz (wl (s_build ti53 pl53 Fl.z (dt (q100 p5)) (wl (s_storeA ti53 (et d4) (et (k100 d5)) rfl rfl hS d0 rfl p0 dn ?_)))))
  clear hS; intro w15 hS
  refine nw (cret ?_)
  obtain rfl:=Option.some.inj h
  refine retN rfl (RVs.s (.a d4 ti53 (hS.blk d0).cells rfl) RVs.z) ?_
  replace hS:=(((((hS.drop Rm.z).drop Rm.z).drop Rm.z).drop Rm.z).drop Rm.z).drop Rm.z
  exact ⟨_,rfl,(le43.t (le49.t le277)),hS⟩
theorem vf_reach_w (hg:Le Gm μ0) {p_1:TVerifyChecker} {p_2:Int} {r:List Int} (m4:Np μ0 v3 p_1.m) (m5:At μ0 b1 o2 [v3]) (h:vf_reach fu p_1 p_2=some r) (hS:Sq μ0 w0 w (rsF)):CallsV prog 83 [.pointer (some ⟨b1,o2,none⟩),.int .i64 p_2] w (fun v w'=>∃ (μ':M) (a6:Option Addr) (c7:Nat),v=.slice a6 r.length c7∧Le μ0 μ'∧Sq μ' w0 w' (rsF)∧Sl μ' a6 c7 r):=by
 unfold vf_reach at h
 refine enter func83 rfl (frm:=_::_::u1 (u5 (u50 []))) rfl (nz (st (nx (st ?_))))
 refine wl (s_bsl underlying30 ti3 (Parts.s (et d9) rfl Parts.z) rfl rfl hS ?_); clear hS; intro b9 w1 hb10 hS; refine po ?_
 refine st (ny (nz (st (nw (cblock ?_)))))
 replace hS:=hS.blkRow (n:=1) (sz:=Mo.sz Int) d0 rfl (by decide) p0
 have m11:Rw μ0 [.int .i64 p_2] ([p_2]:List Int):=(Rw.one (α:=Int) rfl)
 refine cloopE ([8]++List.range' 11 46) (by decide +kernel) (fun n m w=>∃ μx i98,m=(yK5 (.i (.slice (some ⟨b9,0,none⟩) 1 1)::(.i (.int .i64 i98)::(yK1 (yO1 8 (yK2 (yO20 11 (yO20 31 (yO6 51 [])))))))))∧vf_reach_l1 p_1 p_2 n i98=some r∧Le μ0 μx∧Sq μx w0 w (.row (.slice (some ⟨b9,0,none⟩) 1 1) 3 1 ([p_2]:List Int).length [.int .i64 p_2]::rsF)) (by rintro _ _ _ ⟨_,_,rfl,_⟩; rfl) _ _ (aK5 (aI (aI (aK1 (aO1 (aK2 (aO20 (aO20 (aO6 aZ))))))))) ⟨_,0,rfl,h,Le.r,hS⟩ ?_
 rintro n_1 _ t w2 ⟨μ1,i98,rfl,h,le185,hS⟩
 cases n_1 with
 | zero=>cases h
 | succ n_1 =>
 unfold vf_reach_l1 at h
 refine cnrm (mK5 (mi (mi (mK1 (mO1 (mK2 (mO20 (mO20 (mO6 mz))))))))) (cseq (nz ?_))
 iterate 2 refine st ?_
 refine wl (s_lenv underlying30 (et (k10 d2)) (hS.get d0).isSl (dt (q10 p3)) (st (nw ?_)))
 refine cifd (et (k10 d4)) (fun h186=>?_) (fun h186=>?_)
 ·replace h:=iT h186 h
  refine cskip (xn (cseq (cblock (cseq ?_))))
  refine cdraw (by kernel_rfl) rfl fun w3 hh_ ho_ ht_ hu_=>?_
  replace hS:=hS.drew hh_ ho_ ht_ hu_
  refine cpi 0 rfl (cpi 1 rfl (cpi 2 rfl (cpi 7 rfl (cpi 8 rfl ?_))))
  replace h:=bI h; obtain ⟨x187,g188,h⟩:=h
  obtain ⟨b189,o190,pc191,cs192,sc193,ec194,e195,f196,m197,pn198,st199,m200⟩:=Row.elemS (α:=Int) (hS.get d0) (m11.up le185) rfl g188
  rw [ec194] at hS
  obtain rfl:=m197
  refine cp 9 rfl (u_iax underlying30 ti3 (et (k20 d4)) (et (k20 d5)) e195) (q20 p6) (cpi 15 rfl (cr 3 [3,4,5,6,11,12,13,14] rfl (u_load ti56 (et (k10 d9)) ((m5 _ (le185 _ hS.a)).one d0)) (q20 p0) ?_))
  replace h:=bI h; obtain ⟨x201,g202,h⟩:=h
  obtain ⟨b203,o204,cs205,rfl,f206,m207⟩:=Np.get (m4.up le185) g202
  obtain ⟨a208,c209,a211,c212,rfl,m210,m213⟩:=m207
  refine cpi 4 rfl (cpi 5 rfl (cr 6 [6,11,12,13,14] rfl (u_load ti37 (et (k20 d2)) ((f206 _ hS.a).one d1)) (q20 p3) (cr 10 [10,11,12,13,14] rfl (u_load ti3 (et (k20 d6)) ((f196 _ _ _ (hS.get d0) rfl).one d0)) (q20 p7) ?_)))
  replace h:=bI h; obtain ⟨x214,g215,h⟩:=h
  obtain ⟨b216,o217,cs218,e219,f220,m221⟩:=SlR.elem m213 g215
  obtain ⟨a222,c223,a225,c226,rfl,m224,m227⟩:=m221
  refine cp 11 rfl (u_iax underlying37 ti105 (et (k20 d3)) (et (k20 d7)) e219) (q20 p8) (cpi 12 rfl (cr 13 [13,14] rfl (u_load ti103 (et (k20 d9)) ((f220 _ hS.a).one d5)) (q30 p0) (cp 14 rfl (u_lensl underlying103 (et (k30 d0))) (q30 p1) (nu (cblock ?_)))))
  rw [← ec194] at hS
  refine cloopE ([8]++List.range' 33 24) (by decide +kernel) (fun n m w=>∃ μx i242,m=(yK5 (.i (.slice (some ⟨b9,0,none⟩) 1 1)::(yK2 (yO1 8 (yK20 (yK3 (.i (.int .i64 i242)::(yO20 33 (yO4 53 [])))))))))∧vf_reach_l2 i98 x214 (vf_reach_l1 p_1 p_2 n_1) n i242=some r∧Le μ1 μx∧Sq μx w0 w (.row (.slice (some ⟨b9,0,none⟩) 1 1) 3 1 ([p_2]:List Int).length [.int .i64 p_2]::rsF)) (by rintro _ _ _ ⟨_,_,rfl,_⟩; rfl) _ _ (aK5 (aI (aK2 (aO1 (aK20 (aK3 (aI (aO20 (aO4 aZ))))))))) ⟨_,0,rfl,h,Le.r,hS⟩ ?_
  rintro n_2 _ t w4 ⟨μ2,i242,rfl,h,le257,hS⟩
  cases n_2 with
  | zero=>cases h
  | succ n_2 =>
  unfold vf_reach_l2 at h
  refine cnrm (mK5 (mi (mK2 (mO1 (mK20 (mK3 (mi (mO20 (mO4 mz))))))))) (nz (st (ny ?_)))
  refine cifd (et (k30 d3)) (fun h258=>?_) (fun h258=>?_)
  ·replace h:=iT h258 h
   refine cskip (xn (cseq (cblock (nz ?_))))
   replace h:=bI h; obtain ⟨x259,g260,h⟩:=h
   obtain ⟨b261,o262,cs263,e264,f265,m266⟩:=SlR.elem (m227.up le257) g260
   obtain rfl:=m266
   refine wl (s_iax underlying103 ti122 (et (k30 d0)) (et (k30 d2)) e264 (dt (q30 p4)) (lds (f265 _ hS.a) rfl ?_))
   refine wl (s_alloc ti122 hS ?_); clear hS; intro b267 w5 hb268 hS; refine po ?_
   refine wl (s_storeA ti122 (et d8) (et (k30 d5)) rfl rfl hS d0 rfl p0 dn ?_)
   clear hS; intro w6 hS
   refine nx (st (ld ((hS.blk d0).cell d0) ?_))
   iterate 2 refine st ?_
   refine wspd (k30 d9) (q30 p9) (q30 p9) (xT h) fun h269=>?_
   replace h:=iF h269 h
   refine sy rfl (wy rfl (k30 d9) (s_load ti3 (et (k40 d0)) ((hS.blk d0).cell d0) (dt (q40 p1)) (sy rfl ?_)))
   iterate 2 refine st ?_
   refine wspd (k40 d4) (q40 p4) (q40 p4) (xT h) fun h270=>?_
   replace h:=iF h270 h
   refine sn rfl rfl (sn rfl rfl (sn rfl rfl (sn rfl rfl (sn rfl rfl (st (nw (ciff (et (k50 d0)) (cskip ?_))))))))
   refine (fun h=>bn (xn h)) ?_
   refine creg ?_
   replace h:=bI h; obtain ⟨i271,g272,h⟩:=h
   refine wl (s_addc (et (k30 d2)) ec g272 (dt (q50 p6)) (st (wnil (xl ?_))))
   replace hS:=hS.drop Rm.z
   exact ⟨n_2,_,_,rfl,(aK5 (aI (aK2 (aO1 (aK20 (aK3 (aI (aO20 (aO4 aZ))))))))),⟨_,i271,rfl,h,le257,hS⟩,Nat.lt_succ_self _⟩
  ·replace h:=iF h258 h
   refine cexit ?_
   refine (fun h=>xe (xe (bh h))) ?_
   refine (fun h=>bn (xn h)) ?_
   refine creg (st ?_)
   replace h:=bI h; obtain ⟨i273,g274,h⟩:=h
   refine wl (s_addc (et (k10 d5)) ec g274 (dt (q10 p6)) (st (wnil (xl ?_))))
   exact ⟨n_1,_,_,rfl,(aK5 (aI (aI (aK1 (aO1 (aK2 (aO20 (aO20 (aO6 aZ))))))))),⟨_,i273,rfl,h,(le185.t le257),hS⟩,Nat.lt_succ_self _⟩
 ·replace h:=iF h186 h
  refine cexit ?_
  refine (fun h=>xe (xe (bh h))) ?_
  refine xn (nz ?_)
  iterate 2 refine st ?_
  refine nw (cret ?_)
  obtain ⟨μ3,a275,c276,e279,le278,m277,hq_⟩:=Sep.frzRow hS (m11.up le185) rfl; clear hS
  obtain ⟨rfl,-,rfl⟩:=Value.slice.inj e279; have hS:=hq_; clear hq_
  obtain rfl:=Option.some.inj h
  refine ret1 rfl d4 ?_
  exact ⟨_,(some ⟨b9,0,none⟩),1,rfl,(le185.t le278),hS,m277⟩
theorem vf_owned11_w (hg:Le Gm μ0) {p_1:TInstr} {p_2 p_3:Int} {r:Bool} (m3:At μ0 b1 o2 [.int .i64 p_2]) (m6:At μ0 b4 o5 [.int .i64 p_3]) (h:vf_owned11 p_1 p_2 p_3=some r) (hS:Sq μ0 w0 w (rsF)):CallsV prog 86 [.agg ⟨[.int .i64 p_1.Op,.int .i64 p_1.A,.int .i64 p_1.N]⟩,.pointer (some ⟨b1,o2,none⟩),.pointer (some ⟨b4,o5,none⟩)] w (fun v w'=>∃ (μ':M) ,v=.bool r∧Le μ0 μ'∧Sq μ' w0 w' (rsF)):=by
 unfold vf_owned11 at h
 refine enter func86 rfl (frm:=_::_::_::u2 (u10 [])) rfl (nz ?_)
 refine wl (s_box (et d0) rfl hS ?_); clear hS; intro b7 w1 hb8 hS; refine po ?_
 refine st (nx (st (ld ((hS.blk d0).cell d0) (ld ((m3 _ hS.a).one d0) ?_))))
 iterate 2 refine st ?_
 refine wspd d9 p9 p9 (fun h9=>?_) (fun h9=>?_)
 ·replace h:=iT h9 h
  refine sy rfl (wy rfl d9 (s_load ti3 (et (k10 d0)) ((hS.blk d0).cell d1) (dt (q10 p1)) (wy rfl d9 (s_load ti3 (et d2) ((m6 _ hS.a).one d0) (dt (q10 p2)) (sy rfl ?_)))))
  iterate 2 refine st ?_
  refine nw (cret ?_)
  obtain rfl:=Option.some.inj h
  refine ret1 rfl d4 ?_
  replace hS:=hS.drop Rm.z
  exact ⟨_,rfl,Le.r,hS⟩
 ·replace h:=iF h9 h
  refine sn rfl rfl (sn rfl rfl (sn rfl rfl (sn rfl rfl ?_)))
  iterate 2 refine st ?_
  refine nw (cret ?_)
  obtain rfl:=Option.some.inj h
  refine ret1 rfl d4 ?_
  replace hS:=hS.drop Rm.z
  exact ⟨_,rfl,Le.r,hS⟩
theorem vf_owned1_w (hg:Le Gm μ0) {p_1:Int} {p_2:Option TVerifyChecker} {p_3 p_4:Int} {r:Bool} (m5:Np μ0 v4 p_2) (m3:At μ0 b1 o2 [v4]) (m8:At μ0 b6 o7 [.int .i64 p_3]) (m11:At μ0 b9 o10 [.int .i64 p_4]) (h:vf_owned1 p_1 p_2 p_3 p_4=some r) (hS:Sq μ0 w0 w (rsF)):CallsV prog 84 [.int .i64 p_1,.pointer (some ⟨b1,o2,none⟩),.pointer (some ⟨b6,o7,none⟩),.pointer (some ⟨b9,o10,none⟩)] w (fun v w'=>∃ (μ':M) ,v=.bool r∧Le μ0 μ'∧Sq μ' w0 w' (rsF)):=by
 unfold vf_owned1 at h
 refine enter func84 rfl (frm:=_::_::_::_::u5 (u10 [])) rfl (nz (st (nx (ld ((m3 _ hS.a).one d0) ?_))))
 replace h:=bI h; obtain ⟨x12,g13,h⟩:=h
 obtain ⟨b14,o15,cs16,rfl,f17,m18⟩:=Np.get m5 g13
 obtain ⟨v19,rfl,m20⟩:=m18
 iterate 2 refine st ?_
 refine ld ((f17 _ hS.a).one d0) ?_
 replace h:=bI h; obtain ⟨x21,g22,h⟩:=h
 obtain ⟨b23,o24,cs25,rfl,f26,m27⟩:=Np.get m20 g22
 obtain ⟨a28,c29,a31,c32,rfl,m30,m33⟩:=m27
 iterate 2 refine st ?_
 refine ld ((f26 _ hS.a).one d1) (st ?_)
 replace h:=bI h; obtain ⟨x34,g35,h⟩:=h
 obtain ⟨b36,o37,cs38,e39,f40,m41⟩:=SlR.elem m33 g35
 obtain ⟨a42,c43,a45,c46,rfl,m44,m47⟩:=m41
 refine wl (s_iax underlying37 ti105 (et (k10 d2)) (et (k10 d3)) e39 (dt (q10 p4)) (st (ld ((f40 _ hS.a).one d5) (wl (s_mkfn e0 (e1 (et d2) (e1 (et d3) e0)) (dt (q10 p7)) ?_)))))
 replace h:=bI h; obtain ⟨r48,g49,h⟩:=h
 refine wl (s_callv isfn85 ef (e1 (et (k10 d6)) (e1 (et (k10 d7)) e0)) (conf_n_w hg m47 (⟨isfn86,fun hle_ hm_ g_ hS_=>by obtain rfl:=hm_; exact vf_owned11_w (hg.t hle_) (m8.up hle_) (m11.up hle_) g_ hS_⟩) g49 hS) ?_)
 rintro _ w1 ⟨μ1,rfl,le50,hS⟩
 refine po (st (nw (cret ?_)))
 obtain rfl:=Option.some.inj h
 refine ret1 rfl d5 ?_
 exact ⟨_,rfl,le50,hS⟩
theorem vf_owned_w (hg:Le Gm μ0) {p_1:TVerifyChecker} {r:TWhere} (m4:Np μ0 v3 p_1.m) (m5:At μ0 b1 o2 [v3]) (h:vf_owned fu p_1=some r) (hS:Sq μ0 w0 w (rsF)):CallsV prog 43 [.pointer (some ⟨b1,o2,none⟩)] w (fun v w'=>∃ (μ':M) ,v=.agg ⟨[.int .i64 r.Err,.int .i64 r.Unit,.int .i64 r.At]⟩∧Le μ0 μ'∧Sq μ' w0 w' (rsF)):=by
 unfold vf_owned at h
 refine enter func43 rfl (frm:=_::u1 (u2 (u5 (u50 [])))) rfl (nz ?_)
 refine wl (s_box (et d0) rfl hS ?_); clear hS; intro b6 w1 hb7 hS; refine po ?_
 refine wl (s_alloc ti53 hS ?_); clear hS; intro b8 w2 hb9 hS; refine po ?_
 refine ny (nz (ld ((hS.blk d1).cell d0) ?_))
 iterate 2 refine st ?_
 refine ld ((m5 _ hS.a).one d0) ?_
 replace h:=bI h; obtain ⟨x10,g11,h⟩:=h
 obtain ⟨b12,o13,cs14,rfl,f15,m16⟩:=Np.get m4 g11
 obtain ⟨a17,c18,a20,c21,rfl,m19,m22⟩:=m16
 iterate 2 refine st ?_
 refine ld ((f15 _ hS.a).one d0) (wl (s_lensl underlying36 (et (k10 d5)) (dt (q10 p6)) (st (nw (cblock ?_)))))
 replace hS:=hS.bg Y1
 obtain ⟨μ1,le24,m23,hS⟩:=Sep.frzAt hS
 refine cloopE ([3]++List.range' 5 4++List.range' 18 40) (by decide +kernel) (fun n m w=>∃ μx i363,m=(yK3 (yO1 3 (yK1 (yO4 5 (yK8 (.i (.int .i64 i363)::(yO20 18 (yO20 38 []))))))))∧vf_owned_l1 fu p_1 x10 n i363=some r∧Le μ1 μx∧Sq μx w0 w (.blk b8 53 [.int .i64 0,.int .i64 0,.int .i64 0]::rsF)) (by rintro _ _ _ ⟨_,_,rfl,_⟩; rfl) _ _ (aK3 (aO1 (aK1 (aO4 (aK8 (aI (aO20 (aO20 aZ)))))))) ⟨_,0,rfl,h,Le.r,hS⟩ ?_
 rintro n_1 _ t w3 ⟨μ2,i363,rfl,h,le702,hS⟩
 cases n_1 with
 | zero=>cases h
 | succ n_1 =>
 unfold vf_owned_l1 at h
 refine cnrm (mK3 (mO1 (mK1 (mO4 (mK8 (mi (mO20 (mO20 mz)))))))) (nz (st (ny ?_)))
 refine cifd (et (k10 d8)) (fun h703=>?_) (fun h703=>?_)
 ·replace h:=iT h703 h
  refine cskip (xn (cseq (cblock (nz (st ?_)))))
  refine wl (s_alloc ti3 hS ?_); clear hS; intro b704 w4 hb705 hS; refine po ?_
  refine wl (s_store1 ti3 (et d3) (et (k10 d9)) rfl hS d0 p0 rfl p0 dn ?_)
  clear hS; intro w5 hS
  refine nx ?_
  refine wl (s_bsl underlying30 ti3 (Parts.s ec rfl (Parts.s ec rfl Parts.z)) rfl rfl hS ?_); clear hS; intro b706 w6 hb707 hS; refine po ?_
  refine wl (s_lensl underlying30 (et (k20 d0)) (dt (q20 p1)) (st (nw (cblock ?_))))
  replace hS:=hS.bg Y1
  obtain ⟨μ3,le709,m708,hS⟩:=Sep.frzAt hS
  obtain ⟨μ4,le711,m710,hS⟩:=Sep.frzBlk (l:=([26,27]:List Int)) hS (Rw.cons (α:=Int) (cs:=[.int .i64 26]) rfl (Rw.cons (α:=Int) (cs:=[.int .i64 27]) rfl Rw.nil)) (Nat.le_of_ble_eq_true rfl)
  refine cloopE (List.range' 5 4++List.range' 23 34) (by decide +kernel) (fun n m w=>∃ μx i821,m=(yK5 (yO4 5 (yK10 (yK3 (.i (.int .i64 i821)::(yO20 23 (yO10 43 (yO4 53 []))))))))∧vf_owned_l2 fu p_1 x10 i363 (vf_owned_l1 fu p_1 x10 n_1) n i821=some r∧Le μ4 μx∧Sq μx w0 w (.blk b8 53 [.int .i64 0,.int .i64 0,.int .i64 0]::rsF)) (by rintro _ _ _ ⟨_,_,rfl,_⟩; rfl) _ _ (aK5 (aO4 (aK10 (aK3 (aI (aO20 (aO10 (aO4 aZ)))))))) ⟨_,0,rfl,h,Le.r,hS⟩ ?_
  rintro n_2 _ t w7 ⟨μ5,i821,rfl,h,le931,hS⟩
  cases n_2 with
  | zero=>cases h
  | succ n_2 =>
  unfold vf_owned_l2 at h
  refine cnrm (mK5 (mO4 (mK10 (mK3 (mi (mO20 (mO10 (mO4 mz)))))))) (nz (st (ny ?_)))
  refine cifd (et (k20 d3)) (fun h932=>?_) (fun h932=>?_)
  ·replace h:=iT h932 h
   refine cskip (xn (cseq (cblock (nz ?_))))
   replace h:=bI h; obtain ⟨x933,g934,h⟩:=h
   obtain ⟨b935,o936,cs937,e938,f939,m940⟩:=SlR.elem (m710.up le931) g934
   obtain rfl:=m940
   refine wl (s_iax underlying30 ti3 (et (k20 d0)) (et (k20 d2)) e938 (dt (q20 p4)) (ld ((f939 _ hS.a).one d0) ?_))
   refine wl (s_alloc ti3 hS ?_); clear hS; intro b941 w8 hb942 hS; refine po ?_
   refine wl (s_store1 ti3 (et d5) (et (k20 d5)) rfl hS d0 p0 rfl p0 dn ?_)
   clear hS; intro w9 hS
   refine nx (st (ny (nz (ld ((m23 _ ((le702.t (le709.t (le711.t le931))) _ hS.a)).one d0) ?_))))
   iterate 2 refine st ?_
   refine ld ((m5 _ ((le24.t (le702.t (le709.t (le711.t le931)))) _ hS.a)).one d0) ?_
   iterate 2 refine st ?_
   refine ld ((f15 _ ((le24.t (le702.t (le709.t (le711.t le931)))) _ hS.a)).one d1) (wl (s_lensl underlying37 (et (k30 d2)) (dt (q30 p3)) (st (nw (cblock ?_)))))
   obtain ⟨μ6,le944,m943,hS⟩:=Sep.frzAt hS
   refine cloopE (List.range' 7 2++List.range' 35 17) (by decide) (fun n m w=>∃ μx i976 i977,m=(yK6 (.i (.int .i64 i976)::(yO2 7 (yK20 (yK5 (.i (.int .i64 i977)::(yO10 35 (yO7 45 []))))))))∧vf_owned_l3 fu p_1 x10 i363 i821 x933 (vf_owned_l2 fu p_1 x10 i363 (vf_owned_l1 fu p_1 x10 n_1) n_2) n i976 i977=some r∧Le μ6 μx∧Sq μx w0 w (.blk b8 53 [.int .i64 0,.int .i64 0,.int .i64 0]::rsF)) (by rintro _ _ _ ⟨_,_,_,rfl,_⟩; rfl) _ _ (aK6 (aI (aO2 (aK20 (aK5 (aI (aO10 (aO7 aZ)))))))) ⟨_,0,0,rfl,h,Le.r,hS⟩ ?_
   rintro n_3 _ t w10 ⟨μ7,i976,i977,rfl,h,le1009,hS⟩
   cases n_3 with
   | zero=>cases h
   | succ n_3 =>
   unfold vf_owned_l3 at h
   refine cnrm (mK6 (mi (mO2 (mK20 (mK5 (mi (mO10 (mO7 mz)))))))) (nz (st (ny ?_)))
   refine cifd (et (k30 d5)) (fun h1010=>?_) (fun h1010=>?_)
   ·replace h:=iT h1010 h
    refine cskip (xn (cseq (cblock (nz (st ?_)))))
    replace h:=bI h; obtain ⟨x1011,g1012,h⟩:=h
    obtain ⟨b1013,o1014,cs1015,e1016,f1017,m1018⟩:=SlR.elem (m22.up (le24.t (le702.t (le709.t (le711.t (le931.t (le944.t le1009))))))) g1012
    obtain ⟨a1019,c1020,a1022,c1023,rfl,m1021,m1024⟩:=m1018
    refine wl (s_iax underlying37 ti105 (et (k30 d2)) (et (k30 d4)) e1016 (dt (q30 p7)) (lds (f1017 _ hS.a) rfl ?_))
    refine wl (s_alloc ti105 hS ?_); clear hS; intro b1025 w11 hb1026 hS; refine po ?_
    refine st (wl (s_storeA ti105 (et d8) (et (k30 d8)) rfl rfl hS d0 rfl p0 dn ?_))
    clear hS; intro w12 hS
    refine nx (st (ld ((hS.blk d0).cell d0) ?_))
    iterate 2 refine st ?_
    refine wspd (k40 d2) (q40 p2) (q40 p2) (fun h1027=>?_) (xF h)
    replace h:=iT h1027 h
    refine wy rfl (k40 d2) (s_load ti107 (et d1) ((m23 _ ((le702.t (le709.t (le711.t (le931.t (le944.t le1009))))) _ hS.a)).one d0) (dt (q40 p3)) (sy rfl ?_))
    replace h:=bI h; obtain ⟨r1028,g1029,h⟩:=h
    refine wy rfl (k40 d2) (s_callv isfn83 ef (e1 (et (k40 d3)) (e1 (et (k40 d4)) e0)) (vf_reach_w (hg.t (le24.t (le702.t (le709.t (le711.t (le931.t (le944.t le1009))))))) (m4.up (le24.t (le702.t (le709.t (le711.t (le931.t (le944.t le1009))))))) (m5.up (le24.t (le702.t (le709.t (le711.t (le931.t (le944.t le1009))))))) g1029 hS) ?_)
    rintro _ w13 ⟨μ8,a1031,c1032,rfl,le1030,hS,m1033⟩
    refine po (wy rfl (k40 d2) (s_mkfn e0 (e1 (et d1) (e1 (et d5) (e1 (et d3) e0))) (dt (q40 p6)) ?_))
    replace h:=bI h; obtain ⟨r1034,g1035,h⟩:=h
    refine wy rfl (k40 d2) (s_callv isfn82 ef (e1 (et (k40 d5)) (e1 (et (k40 d6)) e0)) (conf_i_w (hg.t (le24.t (le702.t (le709.t (le711.t (le931.t (le944.t (le1009.t le1030)))))))) m1033 (⟨isfn84,fun hle_ hm_ g_ hS_=>by obtain rfl:=hm_; exact vf_owned1_w ((hg.t (le24.t (le702.t (le709.t (le711.t (le931.t (le944.t (le1009.t le1030)))))))).t hle_) ((Np.of (α:=TVerifyChecker) (m5.up (le24.t (le702.t (le709.t (le711.t (le931.t (le944.t (le1009.t le1030)))))))) (TVerifyChecker.i ⟨(.pointer (some ⟨b12,o13,none⟩)),rfl,(m4.up (le24.t (le702.t (le709.t (le711.t (le931.t (le944.t (le1009.t le1030))))))))⟩)).up hle_) ((m23.up (le702.t (le709.t (le711.t (le931.t (le944.t (le1009.t le1030))))))).up hle_) ((m943.up (le1009.t le1030)).up hle_) ((m708.up (le711.t (le931.t (le944.t (le1009.t le1030))))).up hle_) g_ hS_⟩) g1035 hS) ?_)
    rintro _ w14 ⟨μ9,rfl,le1036,hS⟩
    refine po (st (nw ?_))
    refine cifb (et (k40 d8)) (fun h1037=>?_) (fun h1037=>?_)
    ·replace h:=iT h1037 h
     refine creg (st ?_)
     replace h:=bI h; obtain ⟨i1038,g1039,h⟩:=h
     refine wl (s_addc (et (k40 d9)) ec g1039 (dt (q50 p0)) (st (wnil ?_)))
     refine (fun h=>bn (xn h)) ?_
     refine creg ?_
     replace h:=bI h; obtain ⟨i1040,g1041,h⟩:=h
     refine wl (s_addc (et (k30 d4)) ec g1041 (dt (q50 p1)) (st (wnil (xl ?_))))
     replace hS:=hS.drop Rm.z
     exact ⟨n_3,_,_,rfl,(aK6 (aI (aO2 (aK20 (aK5 (aI (aO10 (aO7 aZ)))))))),⟨_,i1038,i1040,rfl,h,(le1009.t (le1030.t le1036)),hS⟩,Nat.lt_succ_self _⟩
    ·replace h:=iF h1037 h
     refine cskip ?_
     refine (fun h=>bn (xn h)) ?_
     refine creg ?_
     replace h:=bI h; obtain ⟨i1042,g1043,h⟩:=h
     refine wl (s_addc (et (k30 d4)) ec g1043 (dt (q50 p1)) (st (wnil (xl ?_))))
     replace hS:=hS.drop Rm.z
     exact ⟨n_3,_,_,rfl,(aK6 (aI (aO2 (aK20 (aK5 (aI (aO10 (aO7 aZ)))))))),⟨_,i976,i1042,rfl,h,(le1009.t (le1030.t le1036)),hS⟩,Nat.lt_succ_self _⟩
   ·replace h:=iF h1010 h
    refine cexit ?_
    refine (fun h=>xe (xe (bh h))) ?_
    refine xn (nz ?_)
    iterate 2 refine st ?_
    refine nw ?_
    refine cifd (et (k50 d3)) (xT h) fun h1044=>?_
    replace h:=iF h1044 h
    refine cskip ?_
    refine (fun h=>bn (xn h)) ?_
    refine creg ?_
    replace h:=bI h; obtain ⟨i1045,g1046,h⟩:=h
    refine wl (s_addc (et (k20 d2)) ec g1046 (dt (q50 p6)) (st (wnil (xl ?_))))
    exact ⟨n_2,_,_,rfl,(aK5 (aO4 (aK10 (aK3 (aI (aO20 (aO10 (aO4 aZ)))))))),⟨_,i1045,rfl,h,(le931.t (le944.t le1009)),hS⟩,Nat.lt_succ_self _⟩
  ·replace h:=iF h932 h
   refine cexit ?_
   refine (fun h=>xe (xe (bh h))) ?_
   refine (fun h=>bn (xn h)) ?_
   refine creg ?_
   replace h:=bI h; obtain ⟨i1047,g1048,h⟩:=h
   refine wl (s_addc (et (k10 d7)) ec g1048 (dt (q50 p7)) (st (wnil (xl ?_))))
   exact ⟨n_1,_,_,rfl,(aK3 (aO1 (aK1 (aO4 (aK8 (aI (aO20 (aO20 aZ)))))))),⟨_,i1047,rfl,h,(le702.t (le709.t (le711.t le931))),hS⟩,Nat.lt_succ_self _⟩
 ·replace h:=iF h703 h
  refine cexit ?_
  refine (fun h=>xe (xe (bh h))) ?_
  refine xn (nz (wl (s_build ti53 pl53 Fl.z (dt (q50 p8)) (wl (s_storeA ti53 (et d2) (et (k50 d8)) rfl rfl hS d0 rfl p0 dn ?_)))))
  clear hS; intro w15 hS
  refine nw (cret ?_)
  obtain rfl:=Option.some.inj h
  refine retN rfl (RVs.s (.a d2 ti53 (hS.blk d0).cells rfl) RVs.z) ?_
  replace hS:=hS.drop Rm.z
  exact ⟨_,rfl,(le24.t le702),hS⟩
theorem vf_verify_w (hg:Le Gm μ0) {p_1:TModule} {r:TWhere} (m3:Sl μ0 a1 c2 p_1.Boxes) (m6:Sl μ0 a4 c5 p_1.Units) (h:vf_verify fu p_1=some r) (hS:Sq μ0 w0 w (rsF)):CallsV prog 24 [.agg ⟨[.slice a1 p_1.Boxes.length c2,.slice a4 p_1.Units.length c5]⟩] w (fun v w'=>∃ (μ':M) ,v=.agg ⟨[.int .i64 r.Err,.int .i64 r.Unit,.int .i64 r.At]⟩∧Le μ0 μ'∧Sq μ' w0 w' (rsF)):=by
 unfold vf_verify at h
 refine enter func24 rfl (frm:=_::u10 (u20 [])) rfl (nz ?_)
 refine wl (s_box (et d0) rfl hS ?_); clear hS; intro b7 w1 hb8 hS; refine po ?_
 refine wl (s_alloc ti53 hS ?_); clear hS; intro b9 w2 hb10 hS; refine po ?_
 refine nx (wl (s_build ti109 pl109 (Fl.o rfl (et d1) rfl rfl p0 Fl.z) (dt p7) ?_))
 refine wl (s_box (et d7) rfl hS ?_); clear hS; intro b11 w3 hb12 hS; refine po ?_
 refine st (ny (nz (st ?_)))
 replace hS:=hS.bg Y2
 obtain ⟨μ1,le14,m13,hS⟩:=Sep.frzAt hS
 obtain ⟨μ2,le16,m15,hS⟩:=Sep.frzAt hS
 replace h:=bI h; obtain ⟨r17,g18,h⟩:=h
 refine ca (vf_form_w (p_1:=(TVerifyChecker.mk (some p_1))) (hg.t (le14.t le16)) (Np.of (α:=TModule) (m13.up le16) (TModule.i ⟨a1,c2,a4,c5,rfl,(m3.up (le14.t le16)),(m6.up (le14.t le16))⟩)) m15 g18 hS) ?_
 rintro _ w4 ⟨μ3,rfl,le19,hS⟩
 refine po ?_
 refine wl (s_alloc ti53 hS ?_); clear hS; intro b20 w5 hb21 hS; refine po ?_
 refine wl (s_storeA ti53 (et d4) (et (k10 d0)) rfl rfl hS d0 rfl p0 dn ?_)
 clear hS; intro w6 hS
 refine nx (st (ld ((hS.blk d0).cell d0) (st (nw ?_))))
 refine cifd (et (k10 d3)) (xT h) fun h22=>?_
 replace h:=iF h22 h
 refine cskip (xn (cseq (nz (st (ld ((m13 _ ((le16.t le19) _ hS.a)).one d1) (wl (s_lensl underlying37 (et (k10 d6)) (dt (q10 p7)) (st (nw (cblock ?_))))))))))
 replace hS:=hS.drop Rm.z
 refine cloopE (List.range' 5 2++List.range' 19 10) (by decide) (fun n m w=>∃ μx i30,m=(yK5 (yO2 5 (yK10 (yK1 (.i (.int .i64 i30)::(yO10 19 []))))))∧vf_verify_l1 fu p_1 n i30=some r∧Le μ3 μx∧Sq μx w0 w (.blk b9 53 [.int .i64 0,.int .i64 0,.int .i64 0]::rsF)) (by rintro _ _ _ ⟨_,_,rfl,_⟩; rfl) _ _ (aK5 (aO2 (aK10 (aK1 (aI (aO10 aZ)))))) ⟨_,0,rfl,h,Le.r,hS⟩ ?_
 rintro n_1 _ t w7 ⟨μ4,i30,rfl,h,le38,hS⟩
 cases n_1 with
 | zero=>cases h
 | succ n_1 =>
 unfold vf_verify_l1 at h
 refine cnrm (mK5 (mO2 (mK10 (mK1 (mi (mO10 mz)))))) (nz (st (ny ?_)))
 refine cifd (et (k10 d9)) (fun h39=>?_) (fun h39=>?_)
 ·replace h:=iT h39 h
  refine cskip (xn (cseq (cblock (nz ?_))))
  iterate 2 refine st ?_
  refine nx ?_
  iterate 2 refine st ?_
  replace h:=bI h; obtain ⟨r40,g41,h⟩:=h
  refine ca (vf_code_w (p_1:=(TVerifyChecker.mk (some p_1))) (hg.t (le14.t (le16.t (le19.t le38)))) (Np.of (α:=TModule) (m13.up (le16.t (le19.t le38))) (TModule.i ⟨a1,c2,a4,c5,rfl,(m3.up (le14.t (le16.t (le19.t le38)))),(m6.up (le14.t (le16.t (le19.t le38))))⟩)) (m15.up (le19.t le38)) g41 hS) ?_
  rintro _ w8 ⟨μ5,rfl,le42,hS⟩
  refine po ?_
  refine wl (s_alloc ti53 hS ?_); clear hS; intro b43 w9 hb44 hS; refine po ?_
  refine wl (s_storeA ti53 (et d6) (et (k20 d3)) rfl rfl hS d0 rfl p0 dn ?_)
  clear hS; intro w10 hS
  refine nx (st (ld ((hS.blk d0).cell d0) (st (nw ?_))))
  refine cifd (et (k20 d6)) (xT h) fun h45=>?_
  replace h:=iF h45 h
  refine cskip ?_
  refine (fun h=>bn (xn h)) ?_
  refine creg ?_
  replace h:=bI h; obtain ⟨i46,g47,h⟩:=h
  refine wl (s_addc (et (k10 d8)) ec g47 (dt (q20 p8)) (st (wnil (xl ?_))))
  replace hS:=hS.drop Rm.z
  exact ⟨n_1,_,_,rfl,(aK5 (aO2 (aK10 (aK1 (aI (aO10 aZ)))))),⟨_,i46,rfl,h,(le38.t le42),hS⟩,Nat.lt_succ_self _⟩
 ·replace h:=iF h39 h
  refine cexit ?_
  refine (fun h=>xe (xe (bh h))) ?_
  refine xn (nz (st ?_))
  replace h:=bI h; obtain ⟨r48,g49,h⟩:=h
  refine ca (vf_owned_w (p_1:=(TVerifyChecker.mk (some p_1))) (hg.t (le14.t (le16.t (le19.t le38)))) (Np.of (α:=TModule) (m13.up (le16.t (le19.t le38))) (TModule.i ⟨a1,c2,a4,c5,rfl,(m3.up (le14.t (le16.t (le19.t le38)))),(m6.up (le14.t (le16.t (le19.t le38))))⟩)) (m15.up (le19.t le38)) g49 hS) ?_
  rintro _ w11 ⟨μ6,rfl,le50,hS⟩
  refine po (wl (s_storeA ti53 (et d2) (et (k30 d0)) rfl rfl hS d0 rfl p0 dn ?_))
  clear hS; intro w12 hS
  refine nw (cret ?_)
  obtain rfl:=Option.some.inj h
  refine retN rfl (RVs.s (.a d2 ti53 (hS.blk d0).cells rfl) RVs.z) ?_
  replace hS:=hS.drop Rm.z
  exact ⟨_,rfl,(le14.t (le16.t (le19.t (le38.t le50)))),hS⟩
end Go.Proofs.YtegmgfljdeabeaaGreatDoor
set_option maxRecDepth 100000
set_option maxHeartbeats 20000000
namespace Go.Proofs.YtegmgfljdeabeaaGreatDoor
open Go.Wk Go.Xt Go.Y Tryz
variable {b1 c4 c7 o2:Nat} {a3 a6:Option Addr} {v2 v3 v4 v5 v6 v7 v8 v9:Value} {cs4:List Value} {μ0:M} {w0 w:World} {rsF:List Res}
theorem st_new_w (hg:Le Gm μ0) {p_1 p_2:Int} {r:List Int×Int×Int×Int}  (h:st_new p_1 p_2=some r) (hS:Sq μ0 w0 w (rsF)):CallsV prog 87 [.int .i64 p_1,.int .i64 p_2] w (fun v w'=>∃ (μ':M) (b1:Nat) (v2:Value) (cs3:List Value),v=.pointer (some ⟨b1,0,none⟩)∧Le μ0 μ'∧Sq μ' w0 w' (.blk b1 182 [v2,.int .i64 r.2.1,.int .i64 r.2.2.1,.int .i64 r.2.2.2]::.row v2 2 1 r.1.length cs3::rsF)∧Rw μ' cs3 r.1):=by
 unfold st_new at h
 refine enter func87 rfl (frm:=_::_::u2 (u2 (u5 []))) rfl (nz (st (nx (st ?_))))
 replace h:=bI h; obtain ⟨k5,g6,h⟩:=h
 have m8:Rw μ0 (List.replicate k5 (.int .i64 0)) ((List.replicate k5 (0:Int)):List Int):=rw_rep (α:=Int) (by intro; exact rfl) k5
 refine wl (s_mkslice underlying22 ti2 (by decide) (et d5) (et d5) g6 hS ?_); clear hS; intro b7 w1 hS; refine po ?_
 replace hS:Sq μ0 w0 w1 (.row (.slice (some ⟨b7,0,none⟩) k5 k5) 2 1 (List.replicate k5 (0:Int)).length (List.replicate k5 (.int .i64 0))::rsF):=by rw [List.length_replicate]; exact hS
 iterate 2 refine st ?_
 refine wl (s_build ti182 pl182 (Fl.o rfl (et d6) rfl rfl p0 (Fl.o rfl (et d7) rfl rfl p2 (Fl.o rfl (et d8) rfl rfl p3 Fl.z))) (dt p9) ?_)
 refine wl (s_box (et d9) rfl hS ?_); clear hS; intro b9 w2 hb10 hS; refine po ?_
 refine st (nw (cret ?_))
 obtain rfl:=Option.some.inj h
 refine ret1 rfl d4 ?_
 exact ⟨_,_,(.slice (some ⟨b7,0,none⟩) k5 k5),((List.replicate k5 (.int .i64 0)):List Value),rfl,Le.r,hS,m8⟩
theorem st_live_w (hg:Le Gm μ0) {live_3 r:Int}  (h:st_live live_3=some r) (hS:Sq μ0 w0 w (.blk b1 182 [v2,.int .i64 live_3,v4,v5]::rsF)):CallsV prog 89 [.pointer (some ⟨b1,0,none⟩)] w (fun v w'=>∃ (μ':M) ,v=.int .i64 r∧Le μ0 μ'∧Sq μ' w0 w' (.blk b1 182 [v2,.int .i64 live_3,v4,v5]::rsF)):=by
 unfold st_live at h
 refine enter func89 rfl (frm:=_::u1 (u5 [])) rfl (nz (st (nx ?_)))
 iterate 3 refine st ?_
 refine ld ((hS.blk d0).cell d1) (st (nw (cret ?_)))
 obtain rfl:=Option.some.inj h
 refine ret1 rfl d2 ?_
 exact ⟨_,rfl,Le.r,hS⟩
theorem st_sized_w (hg:Le Gm μ0) {l_2:List Int} {live_6 min_7 most_8 p_2:Int} {r:List Int×Int×Int×Int} (m5:Rw μ0 cs4 l_2) (h:st_sized l_2 live_6 min_7 most_8 p_2=some r) (hS:Sq μ0 w0 w (.blk b1 182 [v3,.int .i64 live_6,.int .i64 min_7,.int .i64 most_8]::.row v3 2 1 l_2.length cs4::rsF)):CallsV prog 126 [.pointer (some ⟨b1,0,none⟩),.int .i64 p_2] w (fun v w'=>∃ (μ':M) (v9:Value) (cs10:List Value),v=.tuple ⟨[]⟩∧Le μ0 μ'∧Sq μ' w0 w' (.blk b1 182 [v9,.int .i64 r.2.1,.int .i64 r.2.2.1,.int .i64 r.2.2.2]::.row v9 2 1 r.1.length cs10::rsF)∧Rw μ' cs10 r.1):=by
 unfold st_sized at h
 refine enter func126 rfl (frm:=_::_::u20 []) rfl (nz (st ?_))
 replace h:=bI h; obtain ⟨k12,g13,h⟩:=h
 have m15:Rw μ0 (List.replicate k12 (.int .i64 0)) ((List.replicate k12 (0:Int)):List Int):=rw_rep (α:=Int) (by intro; exact rfl) k12
 refine wl (s_mkslice underlying22 ti2 (by decide) (et d5) (et d5) g13 hS ?_); clear hS; intro b14 w1 hS; refine po ?_
 replace hS:Sq μ0 w0 w1 (.row (.slice (some ⟨b14,0,none⟩) k12 k12) 2 1 (List.replicate k12 (0:Int)).length (List.replicate k12 (.int .i64 0))::.blk b1 182 [v3,.int .i64 live_6,.int .i64 min_7,.int .i64 most_8]::.row v3 2 1 l_2.length cs4::rsF):=by rw [List.length_replicate]; exact hS
 refine st (ny ?_)
 refine cdraw (by kernel_rfl) rfl fun w2 hh_ ho_ ht_ hu_=>?_
 replace hS:=hS.drew hh_ ho_ ht_ hu_
 refine cpi 0 rfl (cpi 1 rfl (cpi 2 rfl (cpi 3 rfl (cpi 5 rfl (cpi 6 rfl (cpi 7 rfl (cr 4 [4,9,10] rfl (u_load ti22 (et (k10 d0)) ((hS.blk d1).cell d0)) (q10 p1) (cr 8 [8,9,10] rfl (u_load ti3 (et (k10 d4)) ((hS.blk d1).cell d1)) (q10 p5) ?_))))))))
 replace hS:=hS.bg Y2
 obtain ⟨μ1,a16,c17,e20,le19,m18,hq_⟩:=Sep.frzRow hS m5 rfl; clear hS
 subst e20; have hS:=hq_; clear hq_
 replace h:=bI h; obtain ⟨l21,g22,h⟩:=h
 obtain ⟨a23,c24,e25,m26⟩:=Sl.slc (i:=none) (j:=some live_6) m18 g22
 refine cp 9 rfl (u_slc underlying22 ti2 (et (k10 d1)) .n (.s (et (k10 d5))) e25) (q10 p6) ?_
 obtain ⟨cs27,m28,m29⟩:=Sl.cells m26
 have m30:=rw_cpy (α:=Int) rfl (m15.up le19) m28
 refine sc1 rfl rfl rfl (s_copy (α:=Int) rfl underlying22 ti2 (et d7) (et (k10 d6)) hS d0 (m15.up le19) m28 m29 ?_); clear hS; intro i31 w3 rs_ hp_ hS; cases (show _=rs_ from hp_)
 replace hS:=Sep.reput hS p0; refine po ?_
 replace hS:Sq μ1 w0 w3 (.row (.slice (some ⟨b14,0,none⟩) k12 k12) 2 1 (cpy (List.replicate k12 (0:Int)) l21).length (cs27.take (List.replicate k12 (0:Int)).length++(List.replicate k12 (.int .i64 0)).drop l21.length)::.blk b1 182 [.slice a16 l_2.length c17,.int .i64 live_6,.int .i64 min_7,.int .i64 most_8]::rsF):=by rw [cpy_len]; exact hS
 refine nu (creg ?_)
 iterate 4 refine st ?_
 refine wl (s_store1 ti22 (et (k20 d1)) (et (k10 d9)) rfl hS d1 p0 rfl p1 dn ?_)
 clear hS; intro w4 hS
 refine wnil ?_
 obtain rfl:=Option.some.inj h
 refine end0 rfl ?_
 replace hS:=hS.bg Y1
 exact ⟨_,(.slice (some ⟨b14,0,none⟩) k12 k12),((cs27.take (List.replicate k12 (0:Int)).length++(List.replicate k12 (.int .i64 0)).drop l21.length):List Value),rfl,le19,hS,m30⟩
theorem st_push_w (hg:Le Gm μ0) {l_2:List Int} {live_6 min_7 most_8 p_2:Int} {r:Bool×List Int×Int×Int×Int} (m5:Rw μ0 cs4 l_2) (h:st_push l_2 live_6 min_7 most_8 p_2=some r) (hS:Sq μ0 w0 w (.blk b1 182 [v3,.int .i64 live_6,.int .i64 min_7,.int .i64 most_8]::.row v3 2 1 l_2.length cs4::rsF)):CallsV prog 88 [.pointer (some ⟨b1,0,none⟩),.int .i64 p_2] w (fun v w'=>∃ (μ':M) (v9:Value) (cs10:List Value),v=.bool r.1∧Le μ0 μ'∧Sq μ' w0 w' (.blk b1 182 [v9,.int .i64 r.2.2.1,.int .i64 r.2.2.2.1,.int .i64 r.2.2.2.2]::.row v9 2 1 r.2.1.length cs10::rsF)∧Rw μ' cs10 r.2.1):=by
 unfold st_push at h
 refine enter func88 rfl (frm:=_::_::u2 (u50 [])) rfl (nz (st (ny (cseq ?_))))
 refine cdraw (by kernel_rfl) rfl fun w1 hh_ ho_ ht_ hu_=>?_
 replace hS:=hS.drew hh_ ho_ ht_ hu_
 refine sf_start (fpi 0 [0,1,2,3,8] rfl (fpi 1 [1,2,3,8] rfl (fpi 2 [2,3,8] rfl (fr_ 3 [3,8] rfl (u_load ti3 (et d7) ((hS.blk d0).cell d1)) p8 (fpi 4 [4,5,6,7,8] rfl (fpi 5 [5,6,7,8] rfl (fpi 6 [6,7,8] rfl (fr_ 7 [7,8] rfl (u_load ti3 (et (k10 d1)) ((hS.blk d0).cell d3)) (q10 p2) (fpi 8 [8] rfl (sf_nil (xn ?_)))))))))))
 refine cifd (et (k10 d3)) (xT h) fun h12=>?_
 replace h:=iF h12 h
 refine cskip (xn (cseq (cseq ?_)))
 refine ccutE (List.range' 14 9) (by decide) (fun m w=>∃ (μx:M) ,m=(yK10 (yK4 (yO9 14 (.i (.bool (decide (live_6=(l_2.length:Int))))::[]))))∧st_push_j1 l_2 p_2 live_6 min_7 most_8 =some r∧Le μ0 μx∧Sq μx w0 w (.blk b1 182 [v3,.int .i64 live_6,.int .i64 min_7,.int .i64 most_8]::.row v3 2 1 l_2.length cs4::rsF)) (by rintro _ _ ⟨_,rfl,_⟩; rfl) ?_ ?_
 ·refine cdraw (by kernel_rfl) rfl fun w2 hh_ ho_ ht_ hu_=>?_
  replace hS:=hS.drew hh_ ho_ ht_ hu_
  refine sf_start (fpi 0 [0,1,2,3,9] rfl (fpi 1 [1,2,3,9] rfl (fpi 2 [2,3,9] rfl (fr_ 3 [3,9] rfl (u_load ti3 (et (k10 d6)) ((hS.blk d0).cell d1)) (q10 p7) (fpi 4 [4,5,6,7,8,9] rfl (fpi 5 [5,6,7,8,9] rfl (fpi 6 [6,7,8,9] rfl (fr_ 7 [7,8,9] rfl (u_load ti22 (et (k20 d0)) ((hS.blk d0).cell d0)) (q20 p1) (sf1 rfl rfl rfl rfl (wanted_0 rfl) (s_lenv underlying22 (et (k20 d1)) (hS.get d1).isSl (dt (q20 p2)) ?_))))))))))
  refine ⟨(Mons.s (u_load ti3 (et (k10 d6)) ((hS.blk d0).cell d1)) Mons.z),?_⟩
  refine fpi 9 [9] rfl (sf_nil (xl ?_))
  exact ⟨_,_,rfl,(aK10 (aK4 (aO9 (aI aZ)))),_,rfl,h,Le.r,hS⟩
 ·rintro _ t w3 ⟨μ1,rfl,h,le13,hS⟩
  unfold st_push_j1 at h
  refine nrm (mK10 (mK4 (mO9 (mi mz)))) (xn ?_)
  refine ccutE (List.range' 24 13) (by decide) (fun m w=>∃ μx i14 i15 i16 l19 v17 cs18,m=(yK20 (yK4 (yO10 24 (yO3 34 []))))∧st_push_j2 p_2 i14 i15 i16 l19=some r∧Le μ1 μx∧Sq μx w0 w (.blk b1 182 [v17,.int .i64 i14,.int .i64 i15,.int .i64 i16]::.row v17 2 1 l19.length cs18::rsF)∧Rw μx cs18 l19) (by rintro _ _ ⟨_,_,_,_,_,_,_,rfl,_⟩; rfl) ?_ ?_
  ·refine cifd (et (k20 d3)) (fun h21=>?_) (fun h21=>?_)
   ·replace h:=iT h21 h
    refine ccutE (List.range' 24 13) (by decide) (fun m w=>∃ μx i22 i23 i24 l27 v25 cs26,m=(yK20 (yK4 (yO10 24 (yO3 34 []))))∧st_push_j3 p_2 i22 i23 i24 l27=some r∧Le μ1 μx∧Sq μx w0 w (.blk b1 182 [v25,.int .i64 i22,.int .i64 i23,.int .i64 i24]::.row v25 2 1 l27.length cs26::rsF)∧Rw μx cs26 l27) (by rintro _ _ ⟨_,_,_,_,_,_,_,rfl,_⟩; rfl) ?_ ?_
    ·refine cdraw (by kernel_rfl) rfl fun w4 hh_ ho_ ht_ hu_=>?_
     replace hS:=hS.drew hh_ ho_ ht_ hu_
     refine sf_start (fpi 0 [0,12] rfl (fpi 1 [1,2,3,4,5,6,11,12] rfl (fpi 2 [2,3,4,5,6,11,12] rfl (fpi 3 [3,4,5,6,11,12] rfl (fr_ 4 [4,5,6,11,12] rfl (u_load ti22 (et (k20 d7)) ((hS.blk d0).cell d0)) (q20 p8) (fpi 7 [7,8,9,10,11,12] rfl (fpi 8 [8,9,10,11,12] rfl (fpi 9 [9,10,11,12] rfl (fr_ 10 [10,11,12] rfl (u_load ti3 (et (k30 d3)) ((hS.blk d0).cell d3)) (q30 p4) (sf1 rfl rfl rfl rfl (wanted_0 rfl) (s_lenv underlying22 (et (k20 d8)) (hS.get d1).isSl (dt (q20 p9)) ?_)))))))))))
     refine ⟨(Mons.s (u_load ti3 (et (k30 d3)) ((hS.blk d0).cell d3)) Mons.z),?_⟩
     replace h:=bI h; obtain ⟨i29,g30,h⟩:=h
     refine fp 6 [6,11,12] rfl (u_mulc ec (et (k20 d9)) g30) (q30 p0) (sf1 rfl rfl rfl rfl (wanted_0 rfl) (s_mini underlying3 (et (k30 d0)) (et (k30 d4)) (dt (q30 p5)) ?_))
     refine ⟨Mons.z,?_⟩
     replace h:=bI h; obtain ⟨r31,g32,h⟩:=h
     replace hS:=(hS.bg Y1).bg Y1
     refine sf1 rfl rfl rfl rfl (wanted_0 rfl) (s_callv isfn126 ef (e1 (et (k20 d4)) (e1 (et (k30 d5)) e0)) (st_sized_w (hg.t le13) (m5.up le13) g32 hS) ?_)
     rintro _ w5 ⟨μ2,v34,cs35,rfl,le33,hS,m36⟩
     refine po ?_
     refine ⟨Mons.z,?_⟩
     refine sf_nil (xl ?_)
     exact ⟨_,_,rfl,(aK20 (aK4 (aO10 (aO3 aZ)))),_,r31.2.1,r31.2.2.1,r31.2.2.2,r31.1,_,_,rfl,h,le33,hS,m36⟩
    ·rintro _ t w6 ⟨μ3,i22,i23,i24,l27,v25,cs26,rfl,h,le37,hS,m38⟩
     unfold st_push_j3 at h
     refine nrm (mK20 (mK4 (mO10 (mO3 mz)))) (xl ?_)
     exact ⟨_,_,rfl,(aK20 (aK4 (aO10 (aO3 aZ)))),_,_,_,_,_,_,_,rfl,h,le37,hS,m38⟩
   ·replace h:=iF h21 h
    refine cskip (xl ?_)
    exact ⟨_,_,rfl,(aK20 (aK4 (aO10 (aO3 aZ)))),_,live_6,min_7,most_8,l_2,_,_,rfl,h,Le.r,hS,(m5.up le13)⟩
  ·rintro _ t w7 ⟨μ4,i14,i15,i16,l19,v17,cs18,rfl,h,le39,hS,m40⟩
   unfold st_push_j2 at h
   refine nrm (mK20 (mK4 (mO10 (mO3 mz)))) (xn (cseq ?_))
   refine cdraw (by kernel_rfl) rfl fun w8 hh_ ho_ ht_ hu_=>?_
   replace hS:=hS.drew hh_ ho_ ht_ hu_
   refine sf_start (fpi 0 [0,1,2,3,9,10] rfl (fpi 1 [1,2,3,9,10] rfl (fpi 2 [2,3,9,10] rfl (fr_ 3 [3,9,10] rfl (u_load ti22 (et (k30 d9)) ((hS.blk d0).cell d0)) (q40 p0) (fpi 4 [4,5,6,7,9,10] rfl (fpi 5 [5,6,7,9,10] rfl (fpi 6 [6,7,9,10] rfl (fr_ 7 [7,9,10] rfl (u_load ti3 (et (k40 d3)) ((hS.blk d0).cell d1)) (q40 p4) (fpi 8 [8,9,10] rfl ?_)))))))))
   replace h:=bI h; obtain ⟨x41,g42,h⟩:=h
   obtain ⟨b43,o44,pc45,cs46,sc47,ec48,e49,f50,m51,pn52,st53,m54⟩:=Row.elemS (α:=Int) (hS.get d1) m40 rfl g42
   rw [ec48] at hS
   obtain rfl:=m51
   refine fp 9 [9,10] rfl (u_iax underlying22 ti2 (et (k40 d0)) (et (k40 d4)) e49) (q40 p6) ?_
   have m55:=st53 _ [.int .i64 p_2] p_2 Le.r rfl
   refine sf1 rfl rfl rfl rfl (wanted_0 rfl) (s_storeR (off:=0) ti2 (et (k40 d6)) (et (k40 d5)) rfl rfl rfl hS d1 e49 (Nat.le_of_ble_eq_true rfl) (open_store pn52 rfl (Nat.le_of_ble_eq_true rfl)) p1 dn ?_); clear hS; intro w9 hS
   replace hS:Sq μ4 w0 w9 (.blk b1 182 [v17,.int .i64 i14,.int .i64 i15,.int .i64 i16]::.row v17 2 1 (l19.set i14.toNat p_2).length (pc45++([.int .i64 p_2]++sc47))::rsF):=by rw [List.length_set]; exact hS
   refine ⟨Mons.z,?_⟩
   refine sf_nil (xn (nz ?_))
   iterate 3 refine st ?_
   refine ld ((hS.blk d0).cell d1) ?_
   replace h:=bI h; obtain ⟨i56,g57,h⟩:=h
   refine wl (s_addc (et (k50 d0)) ec g57 (dt (q50 p1)) ?_)
   iterate 2 refine st ?_
   refine wl (s_store1 ti3 (et (k50 d3)) (et (k50 d1)) rfl hS d0 p1 rfl p0 dn ?_)
   clear hS; intro w10 hS
   refine nx (st (nw (cret ?_)))
   obtain rfl:=Option.some.inj h
   refine ret1 rfl d4 ?_
   exact ⟨_,_,((pc45++([.int .i64 p_2]++sc47)):List Value),rfl,(le13.t le39),hS,m55⟩
theorem st_pop_w (hg:Le Gm μ0) {l_2:List Int} {live_6 min_7 most_8 p_2:Int} {r:List Int×Int×Int×Int} (m5:Rw μ0 cs4 l_2) (h:st_pop l_2 live_6 min_7 most_8 p_2=some r) (hS:Sq μ0 w0 w (.blk b1 182 [v3,.int .i64 live_6,.int .i64 min_7,.int .i64 most_8]::.row v3 2 1 l_2.length cs4::rsF)):CallsV prog 90 [.pointer (some ⟨b1,0,none⟩),.int .i64 p_2] w (fun v w'=>∃ (μ':M) (v9:Value) (cs10:List Value),v=.tuple ⟨[]⟩∧Le μ0 μ'∧Sq μ' w0 w' (.blk b1 182 [v9,.int .i64 r.2.1,.int .i64 r.2.2.1,.int .i64 r.2.2.2]::.row v9 2 1 r.1.length cs10::rsF)∧Rw μ' cs10 r.1):=by
 unfold st_pop at h
 refine enter func90 rfl (frm:=_::_::u1 (u5 (u20 (u20 [])))) rfl (nz ?_)
 iterate 3 refine st ?_
 refine ld ((hS.blk d0).cell d1) (st ?_)
 replace h:=bI h; obtain ⟨i12,g13,h⟩:=h
 refine wl (s_subc (et d7) (et d8) g13 (dt p9) ?_)
 iterate 2 refine st ?_
 refine wl (s_store1 ti3 (et (k10 d1)) (et d9) rfl hS d0 p1 rfl p0 dn ?_)
 clear hS; intro w1 hS
 refine ny ?_
 refine ccutE (List.range' 12 22) (by decide +kernel) (fun m w=>∃ μx b14,m=(yK10 (yK2 (yO20 12 (yO2 32 (.i (.bool b14)::[])))))∧st_pop_j1 l_2 min_7 most_8 i12 b14=some r∧Le μ0 μx∧Sq μx w0 w (.blk b1 182 [v3,.int .i64 i12,.int .i64 min_7,.int .i64 most_8]::.row v3 2 1 l_2.length cs4::rsF)) (by rintro _ _ ⟨_,_,rfl,_⟩; rfl) ?_ ?_
 ·refine cdraw (by kernel_rfl) rfl fun w2 hh_ ho_ ht_ hu_=>?_
  replace hS:=hS.drew hh_ ho_ ht_ hu_
  refine sf_start (fpi 0 [0,1,2,3,10,11,12,13,14,15,16,17,18,19,20,21,22] rfl (fpi 1 [1,2,3,10,11,12,13,14,15,16,17,18,19,20,21,22] rfl (fpi 2 [2,3,10,11,12,13,14,15,16,17,18,19,20,21,22] rfl (fr_ 3 [3,10,11,12,13,14,15,16,17,18,19,20,21,22] rfl (u_load ti3 (et (k10 d4)) ((hS.blk d0).cell d1)) (q10 p5) (fpi 4 [4,5,6,7,8,9,10,11,12,13,14,15,16,17,18,19,20,21,22] rfl (fpi 5 [5,6,7,8,9,10,11,12,13,14,15,16,17,18,19,20,21,22] rfl (fpi 6 [6,7,8,9,10,11,12,13,14,15,16,17,18,19,20,21,22] rfl (fr_ 7 [7,8,9,10,11,12,13,14,15,16,17,18,19,20,21,22] rfl (u_load ti22 (et (k10 d8)) ((hS.blk d0).cell d0)) (q10 p9) (sf1 rfl rfl rfl rfl (wanted_0 rfl) (s_lenv underlying22 (et (k10 d9)) (hS.get d1).isSl (dt (q20 p0)) ?_))))))))))
  refine ⟨(Mons.s (u_load ti3 (et (k10 d4)) ((hS.blk d0).cell d1)) Mons.z),?_⟩
  replace h:=bI h; obtain ⟨i15,g16,h⟩:=h
  refine fp 9 [9,10,11,12,13,14,15,16,17,18,19,20,21,22] rfl (u_quo (et (k20 d0)) ec (quo_nz g16).1 (quo_nz g16).2) (q20 p1) (fpi 10 [10,11,12,13,14,15,16,17,18,19,20,21,22] rfl (fpi 11 [11,12,13,14,15,16,17,18,19,20,21,22] rfl ?_))
  refine sfsd (k20 d3) (q20 p3) (q20 p3) (fun h17=>?_) (fun h17=>?_)
  ·replace h:=iT h17 h
   refine fpY 12 [12,13,14,15,16,21,22] rfl rfl (k20 d3) (u_move (et d0)) (q20 p4) (fpY 13 [13,14,15,16,21,22] rfl rfl (k20 d3) (u_nilck (et (k20 d4))) (q20 p5) (fpY 14 [14,15,16,21,22] rfl rfl (k20 d3) (u_fa fa182_0 (et (k20 d5)) rfl) (q20 p6) (fr_Y 15 [15,16,21,22] rfl rfl (k20 d3) (u_load ti22 (et (k20 d6)) ((hS.blk d0).cell d0)) (q20 p7) (fpY 17 [17,18,19,20,21,22] rfl rfl (k20 d3) (u_move (et d0)) (q20 p9) (fpY 18 [18,19,20,21,22] rfl rfl (k20 d3) (u_nilck (et (k20 d9))) (q30 p0) (fpY 19 [19,20,21,22] rfl rfl (k20 d3) (u_fa fa182_2 (et (k30 d0)) rfl) (q30 p1) (fr_Y 20 [20,21,22] rfl rfl (k20 d3) (u_load ti3 (et (k30 d1)) ((hS.blk d0).cell d2)) (q30 p2) (sf1 rfl rfl rfl rfl (wanted_t rfl rfl (k20 d3)) (s_lenv underlying22 (et (k20 d7)) (hS.get d1).isSl (dt (q20 p8)) ?_)))))))))
   refine ⟨(Mons.s (u_load ti3 (et (k30 d1)) ((hS.blk d0).cell d2)) Mons.z),?_⟩
   refine fpY 21 [21,22] rfl rfl (k20 d3) (u_gtr (et (k20 d8)) (et (k30 d2))) (q30 p3) (fpi 22 [22] rfl (sf_nil (xl ?_)))
   exact ⟨_,_,rfl,(aK10 (aK2 (aO20 (aO2 (aI aZ))))),_,(decide (min_7<(l_2.length:Int))),rfl,h,Le.r,hS⟩
  ·replace h:=iF h17 h
   refine fpN 12 [12,13,14,15,16,21,22] rfl rfl (k20 d3) rfl (q20 p4) (fpN 13 [13,14,15,16,21,22] rfl rfl (k20 d3) rfl (q20 p5) (fpN 14 [14,15,16,21,22] rfl rfl (k20 d3) rfl (q20 p6) (fpN 15 [15,16,21,22] rfl rfl (k20 d3) rfl (q20 p7) (fpN 16 [16,21,22] rfl rfl (k20 d3) rfl (q20 p8) (fpN 17 [17,18,19,20,21,22] rfl rfl (k20 d3) rfl (q20 p9) (fpN 18 [18,19,20,21,22] rfl rfl (k20 d3) rfl (q30 p0) (fpN 19 [19,20,21,22] rfl rfl (k20 d3) rfl (q30 p1) (fpN 20 [20,21,22] rfl rfl (k20 d3) rfl (q30 p2) (fpN 21 [21,22] rfl rfl (k20 d3) rfl (q30 p3) (fpi 22 [22] rfl (sf_nil (xl ?_))))))))))))
   exact ⟨_,_,rfl,(aK10 (aK2 (aO20 (aO2 (aI aZ))))),_,false,rfl,h,Le.r,hS⟩
 ·rintro _ t w3 ⟨μ1,b14,rfl,h,le18,hS⟩
  unfold st_pop_j1 at h
  refine nrm (mK10 (mK2 (mO20 (mO2 (mi mz))))) (xn ?_)
  refine cifb (et (k30 d4)) (fun h19=>?_) (fun h19=>?_)
  ·replace h:=iT h19 h
   refine ccutE (List.range' 35 13) (by decide) (fun m w=>∃ μx i20 i21 i22 l25 v23 cs24,m=(yK20 (yK10 (yK5 (yO10 35 (yO3 45 [])))))∧st_pop_j2 i20 i21 i22 l25=some r∧Le μ1 μx∧Sq μx w0 w (.blk b1 182 [v23,.int .i64 i20,.int .i64 i21,.int .i64 i22]::.row v23 2 1 l25.length cs24::rsF)∧Rw μx cs24 l25) (by rintro _ _ ⟨_,_,_,_,_,_,_,rfl,_⟩; rfl) ?_ ?_
   ·refine cdraw (by kernel_rfl) rfl fun w4 hh_ ho_ ht_ hu_=>?_
    replace hS:=hS.drew hh_ ho_ ht_ hu_
    refine sf_start (fpi 0 [0,12] rfl (fpi 1 [1,2,3,4,5,6,11,12] rfl (fpi 2 [2,3,4,5,6,11,12] rfl (fpi 3 [3,4,5,6,11,12] rfl (fr_ 4 [4,5,6,11,12] rfl (u_load ti22 (et (k30 d8)) ((hS.blk d0).cell d0)) (q30 p9) (fpi 7 [7,8,9,10,11,12] rfl (fpi 8 [8,9,10,11,12] rfl (fpi 9 [9,10,11,12] rfl (fr_ 10 [10,11,12] rfl (u_load ti3 (et (k40 d4)) ((hS.blk d0).cell d2)) (q40 p5) (sf1 rfl rfl rfl rfl (wanted_0 rfl) (s_lenv underlying22 (et (k30 d9)) (hS.get d1).isSl (dt (q40 p0)) ?_)))))))))))
    refine ⟨(Mons.s (u_load ti3 (et (k40 d4)) ((hS.blk d0).cell d2)) Mons.z),?_⟩
    replace h:=bI h; obtain ⟨i27,g28,h⟩:=h
    refine fp 6 [6,11,12] rfl (u_quo (et (k40 d0)) ec (quo_nz g28).1 (quo_nz g28).2) (q40 p1) (sf1 rfl rfl rfl rfl (wanted_0 rfl) (s_maxi underlying3 (et (k40 d1)) (et (k40 d5)) (dt (q40 p6)) ?_))
    refine ⟨Mons.z,?_⟩
    replace h:=bI h; obtain ⟨r29,g30,h⟩:=h
    replace hS:=(hS.bg Y1).bg Y1
    refine sf1 rfl rfl rfl rfl (wanted_0 rfl) (s_callv isfn126 ef (e1 (et (k30 d5)) (e1 (et (k40 d6)) e0)) (st_sized_w (hg.t le18) (m5.up le18) g30 hS) ?_)
    rintro _ w5 ⟨μ2,v32,cs33,rfl,le31,hS,m34⟩
    refine po ?_
    refine ⟨Mons.z,?_⟩
    refine sf_nil (xl ?_)
    exact ⟨_,_,rfl,(aK20 (aK10 (aK5 (aO10 (aO3 aZ))))),_,r29.2.1,r29.2.2.1,r29.2.2.2,r29.1,_,_,rfl,h,le31,hS,m34⟩
   ·rintro _ t w6 ⟨μ3,i20,i21,i22,l25,v23,cs24,rfl,h,le35,hS,m36⟩
    unfold st_pop_j2 at h
    refine nrm (mK20 (mK10 (mK5 (mO10 (mO3 mz))))) ?_
    obtain rfl:=Option.some.inj h
    refine end0 rfl ?_
    exact ⟨_,_,_,rfl,(le18.t le35),hS,m36⟩
  ·replace h:=iF h19 h
   refine cskip ?_
   obtain rfl:=Option.some.inj h
   refine end0 rfl ?_
   exact ⟨_,_,_,rfl,le18,hS,(m5.up le18)⟩
theorem vm_tell_w (hg:Le Gm μ0) {p_2 p_3 p_4:Int} {r:Unit}  (h:vm_tell p_2 p_3 p_4=some r) (hS:Sq μ0 w0 w (.blk b1 71 [v2,v3,v4,v5,v6,v7,v8,v9,.nilFunc]::rsF)):CallsV prog 51 [.pointer (some ⟨b1,0,none⟩),.int .i64 p_2,.int .i64 p_3,.int .i64 p_4] w (fun v w'=>∃ (μ':M) ,v=.tuple ⟨[]⟩∧Le μ0 μ'∧Sq μ' w0 w' (.blk b1 71 [v2,v3,v4,v5,v6,v7,v8,v9,.nilFunc]::rsF)):=by
 unfold vm_tell at h
 refine enter func51 rfl (frm:=_::_::_::_::u2 (u5 (u10 []))) rfl (nz ?_)
 iterate 3 refine st ?_
 refine ld ((hS.blk d0).cell d8) (wl (s_nilfneq underlying69 (et (k10 d1)) (dt (q10 p2)) (nw (ciff (et (k10 d2)) (cskip ?_)))))
 obtain rfl:=Option.some.inj h
 refine end0 rfl ?_
 exact ⟨_,rfl,Le.r,hS⟩
theorem vm_truth_w (hg:Le Gm μ0) {p_1:Bool} {r:Int}  (h:vm_truth p_1=some r) (hS:Sq μ0 w0 w (rsF)):CallsV prog 91 [.bool p_1] w (fun v w'=>∃ (μ':M) ,v=.int .i64 r∧Le μ0 μ'∧Sq μ' w0 w' (rsF)):=by
 unfold vm_truth at h
 refine enter func91 rfl (frm:=_::u1 (u2 [])) rfl (nz (st (ny (nz (st (nw ?_))))))
 refine cifb (et d3) (fun h1=>?_) (fun h1=>?_)
 ·replace h:=iT h1 h
  refine nz (st (nw (cret (xr ?_))))
  obtain rfl:=Option.some.inj h
  refine ret1 rfl d2 ?_
  exact ⟨_,rfl,Le.r,hS⟩
 ·replace h:=iF h1 h
  refine cskip (xn (nz (st (nw (cret ?_)))))
  obtain rfl:=Option.some.inj h
  refine ret1 rfl d2 ?_
  exact ⟨_,rfl,Le.r,hS⟩
theorem vm_two_w (hg:Le Gm μ0) {p_1 p_2 p_3 r:Int}  (h:vm_two p_1 p_2 p_3=some r) (hS:Sq μ0 w0 w (rsF)):CallsV prog 50 [.int .i64 p_1,.int .i64 p_2,.int .i64 p_3] w (fun v w'=>∃ (μ':M) ,v=.int .i64 r∧Le μ0 μ'∧Sq μ' w0 w' (rsF)):=by
 unfold vm_two at h
 refine enter func50 rfl (frm:=_::_::_::u1 (u5 (u10 (u20 (u50 []))))) rfl (nz (st (ny (nz (st (nw (cblock (nz ?_))))))))
 iterate 2 refine st ?_
 refine nw ?_
 refine cifd (et d8) (fun h1=>?_) (fun h1=>?_)
 ·replace h:=iT h1 h
  refine nz ?_
  iterate 2 refine st ?_
  refine wl (s_add (et (k10 d0)) (et (k10 d1)) rfl (dt (q10 p2)) (st (nw (cret ?_))))
  refine (fun h=>br (xr h)) ?_
  obtain rfl:=Option.some.inj h
  refine ret1 rfl d6 ?_
  exact ⟨_,rfl,Le.r,hS⟩
 ·replace h:=iF h1 h
  refine nz ?_
  iterate 2 refine st ?_
  refine nw ?_
  refine cifd (et (k10 d3)) (fun h2=>?_) (fun h2=>?_)
  ·replace h:=iT h2 h
   refine nz ?_
   iterate 2 refine st ?_
   refine wl (s_sub (et (k10 d5)) (et (k10 d6)) rfl (dt (q10 p7)) (st (nw (cret ?_))))
   refine (fun h=>br (xr h)) ?_
   obtain rfl:=Option.some.inj h
   refine ret1 rfl d6 ?_
   exact ⟨_,rfl,Le.r,hS⟩
  ·replace h:=iF h2 h
   refine nz ?_
   iterate 2 refine st ?_
   refine nw ?_
   refine cifd (et (k10 d8)) (fun h3=>?_) (fun h3=>?_)
   ·replace h:=iT h3 h
    refine nz ?_
    iterate 2 refine st ?_
    refine wl (s_mul (et (k20 d0)) (et (k20 d1)) rfl (dt (q20 p2)) (st (nw (cret ?_))))
    refine (fun h=>br (xr h)) ?_
    obtain rfl:=Option.some.inj h
    refine ret1 rfl d6 ?_
    exact ⟨_,rfl,Le.r,hS⟩
   ·replace h:=iF h3 h
    refine cseq (nz ?_)
    iterate 2 refine st ?_
    refine nw ?_
    refine ccutE ([25]) (by decide) (fun m w=>∃ μx b4,m=(yK20 (yK3 (.i (.bool b4)::(yK1 (yO1 25 [])))))∧vm_two_j1 p_1 p_2 p_3 b4=some r∧Le μ0 μx∧Sq μx w0 w (rsF)) (by rintro _ _ ⟨_,_,rfl,_⟩; rfl) ?_ ?_
    ·refine cifd (et (k20 d3)) (fun h5=>?_) (fun h5=>?_)
     ·replace h:=iT h5 h
      refine cskip (xl ?_)
      exact ⟨_,_,rfl,(aK20 (aK3 (aI (aK1 (aO1 aZ))))),_,(decide (p_1=11)),rfl,h,Le.r,hS⟩
     ·replace h:=iF h5 h
      refine creg ?_
      iterate 2 refine st ?_
      refine wnil (xl ?_)
      exact ⟨_,_,rfl,(aK20 (aK3 (aI (aK1 (aO1 aZ))))),_,(decide (p_1=12)),rfl,h,Le.r,hS⟩
    ·rintro _ t w1 ⟨μ1,b4,rfl,h,le6,hS⟩
     unfold vm_two_j1 at h
     refine nrm (mK20 (mK3 (mi (mK1 (mO1 mz))))) (xn ?_)
     refine cifb (et (k20 d3)) (fun h7=>?_) (fun h7=>?_)
     ·replace h:=iT h7 h
      refine cseq (cseq ?_)
      refine ccutE (List.range' 26 5) (by decide) (fun m w=>∃ μx b8,m=(yK20 (yK6 (yO5 26 (.i (.bool b8)::[]))))∧vm_two_j2 p_1 p_2 p_3 b8=some r∧Le μ1 μx∧Sq μx w0 w (rsF)) (by rintro _ _ ⟨_,_,rfl,_⟩; rfl) ?_ ?_
      ·refine creg ?_
       iterate 3 refine st ?_
       refine wspd (k20 d8) (q20 p8) (q20 p8) (fun h9=>?_) (fun h9=>?_)
       ·replace h:=iT h9 h
        refine sy rfl (sy rfl (st (wnil (xl ?_))))
        exact ⟨_,_,rfl,(aK20 (aK6 (aO5 (aI aZ)))),_,(decide (p_3=(-1))),rfl,h,Le.r,hS⟩
       ·replace h:=iF h9 h
        refine sn rfl rfl (sn rfl rfl (st (wnil (xl ?_))))
        exact ⟨_,_,rfl,(aK20 (aK6 (aO5 (aI aZ)))),_,false,rfl,h,Le.r,hS⟩
      ·rintro _ t w2 ⟨μ2,b8,rfl,h,le10,hS⟩
       unfold vm_two_j2 at h
       refine nrm (mK20 (mK6 (mO5 (mi mz)))) (xn ?_)
       refine cifb (et (k30 d1)) (fun h11=>?_) (fun h11=>?_)
       ·replace h:=iT h11 h
        refine nz ?_
        iterate 2 refine st ?_
        replace h:=bI h; obtain ⟨r12,g13,h⟩:=h
        refine ca (vm_truth_w (hg.t (le6.t le10)) g13 hS) ?_
        rintro _ w3 ⟨μ3,rfl,le14,hS⟩
        refine po (st (wl (s_mul (et (k30 d4)) (et (k30 d5)) rfl (dt (q30 p6)) (st (nw (cret ?_))))))
        refine (fun h=>xr (br (xr h))) ?_
        obtain rfl:=Option.some.inj h
        refine ret1 rfl d6 ?_
        exact ⟨_,rfl,(le6.t (le10.t le14)),hS⟩
       ·replace h:=iF h11 h
        refine cskip (xn (cseq (nz ?_)))
        iterate 2 refine st ?_
        refine nw ?_
        refine cifd (et (k30 d8)) (fun h15=>?_) (fun h15=>?_)
        ·replace h:=iT h15 h
         refine nz ?_
         iterate 2 refine st ?_
         replace h:=bI h; obtain ⟨i16,g17,h⟩:=h
         refine wl (s_quo (et (k30 d9)) (et (k40 d0)) (quo_nz g17).1 (quo_nz g17).2 (dt (q40 p1)) (st (nw (cret ?_))))
         refine (fun h=>xr (br (xr h))) ?_
         obtain rfl:=Option.some.inj h
         refine ret1 rfl d6 ?_
         exact ⟨_,rfl,(le6.t le10),hS⟩
        ·replace h:=iF h15 h
         refine cskip (xn (nz ?_))
         iterate 2 refine st ?_
         replace h:=bI h; obtain ⟨i18,g19,h⟩:=h
         refine wl (s_rem (et (k40 d2)) (et (k40 d3)) (remt_nz g19).1 (remt_nz g19).2 (dt (q40 p4)) (st (nw (cret ?_))))
         refine (fun h=>br (xr h)) ?_
         obtain rfl:=Option.some.inj h
         refine ret1 rfl d6 ?_
         exact ⟨_,rfl,(le6.t le10),hS⟩
     ·replace h:=iF h7 h
      refine nz ?_
      iterate 2 refine st ?_
      refine nw ?_
      refine cifd (et (k40 d5)) (fun h20=>?_) (fun h20=>?_)
      ·replace h:=iT h20 h
       refine nz ?_
       iterate 3 refine st ?_
       replace h:=bI h; obtain ⟨r21,g22,h⟩:=h
       refine ca (vm_truth_w (hg.t le6) g22 hS) ?_
       rintro _ w4 ⟨μ4,rfl,le23,hS⟩
       refine po (st (nw (cret ?_)))
       refine (fun h=>br (xr h)) ?_
       obtain rfl:=Option.some.inj h
       refine ret1 rfl d6 ?_
       exact ⟨_,rfl,(le6.t le23),hS⟩
      ·replace h:=iF h20 h
       refine nz ?_
       iterate 2 refine st ?_
       refine nw ?_
       refine cifd (et (k50 d1)) (fun h24=>?_) (fun h24=>?_)
       ·replace h:=iT h24 h
        refine nz ?_
        iterate 3 refine st ?_
        replace h:=bI h; obtain ⟨r25,g26,h⟩:=h
        refine ca (vm_truth_w (hg.t le6) g26 hS) ?_
        rintro _ w5 ⟨μ5,rfl,le27,hS⟩
        refine po (st (nw (cret ?_)))
        refine (fun h=>br (xr h)) ?_
        obtain rfl:=Option.some.inj h
        refine ret1 rfl d6 ?_
        exact ⟨_,rfl,(le6.t le27),hS⟩
       ·replace h:=iF h24 h
        refine nz ?_
        iterate 2 refine st ?_
        refine nw ?_
        refine cifd (et (k50 d7)) (fun h28=>?_) (fun h28=>?_)
        ·replace h:=iT h28 h
         refine nz ?_
         iterate 3 refine st ?_
         replace h:=bI h; obtain ⟨r29,g30,h⟩:=h
         refine ca (vm_truth_w (hg.t le6) g30 hS) ?_
         rintro _ w6 ⟨μ6,rfl,le31,hS⟩
         refine po (st (nw (cret ?_)))
         refine (fun h=>br (xr h)) ?_
         obtain rfl:=Option.some.inj h
         refine ret1 rfl d6 ?_
         exact ⟨_,rfl,(le6.t le31),hS⟩
        ·replace h:=iF h28 h
         refine nz ?_
         iterate 2 refine st ?_
         refine nw ?_
         refine cifd (et (k60 d3)) (fun h32=>?_) (fun h32=>?_)
         ·replace h:=iT h32 h
          refine nz ?_
          iterate 3 refine st ?_
          replace h:=bI h; obtain ⟨r33,g34,h⟩:=h
          refine ca (vm_truth_w (hg.t le6) g34 hS) ?_
          rintro _ w7 ⟨μ7,rfl,le35,hS⟩
          refine po (st (nw (cret ?_)))
          refine (fun h=>br (xr h)) ?_
          obtain rfl:=Option.some.inj h
          refine ret1 rfl d6 ?_
          exact ⟨_,rfl,(le6.t le35),hS⟩
         ·replace h:=iF h32 h
          refine nz ?_
          iterate 2 refine st ?_
          refine nw ?_
          refine cifd (et (k60 d9)) (fun h36=>?_) (xF h)
          replace h:=iT h36 h
          refine nz ?_
          iterate 3 refine st ?_
          replace h:=bI h; obtain ⟨r37,g38,h⟩:=h
          refine ca (vm_truth_w (hg.t le6) g38 hS) ?_
          rintro _ w8 ⟨μ8,rfl,le39,hS⟩
          refine po (st (nw (cret ?_)))
          refine (fun h=>br (xr h)) ?_
          obtain rfl:=Option.some.inj h
          refine ret1 rfl d6 ?_
          exact ⟨_,rfl,(le6.t le39),hS⟩
theorem vm_tasks_w (hg:Le Gm μ0) {p_1:TModule} {r:List Int} (m5:Sl μ0 a3 c4 p_1.Boxes) (m8:Sl μ0 a6 c7 p_1.Units) (m9:At μ0 b1 o2 [.slice a3 p_1.Boxes.length c4,.slice a6 p_1.Units.length c7]) (h:vm_tasks p_1=some r) (hS:Sq μ0 w0 w (rsF)):CallsV prog 25 [.pointer (some ⟨b1,o2,none⟩)] w (fun v w'=>∃ (μ':M) (a10:Option Addr) (c11:Nat),v=.slice a10 r.length c11∧Le μ0 μ'∧Sq μ' w0 w' (rsF)∧Sl μ' a10 c11 r):=by
 unfold vm_tasks at h
 refine enter func25 rfl (frm:=_::u2 (u2 (u20 []))) rfl (nz (st (nx (st (ny (nz ?_))))))
 iterate 3 refine st ?_
 refine ld ((m9 _ hS.a).one d1) (wl (s_lensl underlying37 (et d9) (dt (q10 p0)) (st (nw (cblock ?_)))))
 replace hS:=hS.nilRow 3 (Mo.sz Int)
 refine cloopE (List.range' 4 2++List.range' 12 12) (by decide) (fun n m w=>∃ μx i43 l46 v44 cs45,m=(yK3 (.i (v44)::(yO2 4 (yK5 (.i (.int .i64 i43)::(yO10 12 (yO2 22 [])))))))∧vm_tasks_l1 p_1 n i43 l46=some r∧Le μ0 μx∧Sq μx w0 w (.row v44 3 1 l46.length cs45::rsF)∧Rw μx cs45 l46) (by rintro _ _ _ ⟨_,_,_,_,_,rfl,_⟩; rfl) _ _ (aK3 (aI (aO2 (aK5 (aI (aO10 (aO2 aZ))))))) ⟨_,0,[],(.slice none 0 0),[],rfl,h,Le.r,hS,Rw.nil⟩ ?_
 rintro n_1 _ t w1 ⟨μ1,i43,l46,v44,cs45,rfl,h,le77,hS,m78⟩
 cases n_1 with
 | zero=>cases h
 | succ n_1 =>
 unfold vm_tasks_l1 at h
 refine cnrm (mK3 (mi (mO2 (mK5 (mi (mO10 (mO2 mz))))))) (nz (st (ny ?_)))
 refine cifd (et (k10 d2)) (fun h79=>?_) (fun h79=>?_)
 ·replace h:=iT h79 h
  refine cskip (xn (cseq (cblock (nz (st ?_)))))
  replace h:=bI h; obtain ⟨x80,g81,h⟩:=h
  obtain ⟨b82,o83,cs84,e85,f86,m87⟩:=SlR.elem (m8.up le77) g81
  obtain ⟨a88,c89,a91,c92,rfl,m90,m93⟩:=m87
  refine wl (s_iax underlying37 ti105 (et d9) (et (k10 d1)) e85 (dt (q10 p4)) (lds (f86 _ hS.a) rfl ?_))
  refine wl (s_alloc ti105 hS ?_); clear hS; intro b94 w2 hb95 hS; refine po ?_
  refine st (wl (s_storeA ti105 (et d5) (et (k10 d5)) rfl rfl hS d0 rfl p0 dn ?_))
  clear hS; intro w3 hS
  refine nx (st (ld ((hS.blk d0).cell d0) (st (nw ?_))))
  refine cifd (et (k10 d8)) (fun h96=>?_) (fun h96=>?_)
  ·replace h:=iT h96 h
   refine creg ?_
   iterate 2 refine st ?_
   refine wl (s_bsl underlying30 ti3 (Parts.s (et (k20 d0)) rfl Parts.z) rfl rfl hS ?_); clear hS; intro b97 w4 hb98 hS; refine po ?_
   replace h:=bI h; obtain ⟨l101,g102,h⟩:=h
   have m103:Rw μ1 [.int .i64 i43] [i43]:=(Rw.one (α:=Int) rfl)
   have m100:=Rw.app m78 m103 g102
   refine wl (s_app1 underlying30 ti3 rfl (et (k10 d9)) (et (k20 d1)) hS d2 (hS.blk d0).cells m103 rfl g102 (by decide) ?_); clear hS; intro v99 w5 rs_ hp_ hS; cases (show _=rs_ from hp_)
   replace hS:=Sep.reput hS p2; refine po ?_
   replace hS:=hS.drop Rm.z
   refine st (wnil ?_)
   refine (fun h=>bn (xn h)) ?_
   refine creg ?_
   replace h:=bI h; obtain ⟨i104,g105,h⟩:=h
   refine wl (s_addc (et (k10 d1)) ec g105 (dt (q20 p3)) (st (wnil (xl ?_))))
   replace hS:=hS.drop Rm.z
   exact ⟨n_1,_,_,rfl,(aK3 (aI (aO2 (aK5 (aI (aO10 (aO2 aZ))))))),⟨_,i104,l101,v99,(cs45++[.int .i64 i43]),rfl,h,le77,hS,m100⟩,Nat.lt_succ_self _⟩
  ·replace h:=iF h96 h
   refine cskip ?_
   refine (fun h=>bn (xn h)) ?_
   refine creg ?_
   replace h:=bI h; obtain ⟨i106,g107,h⟩:=h
   refine wl (s_addc (et (k10 d1)) ec g107 (dt (q20 p3)) (st (wnil (xl ?_))))
   replace hS:=hS.drop Rm.z
   exact ⟨n_1,_,_,rfl,(aK3 (aI (aO2 (aK5 (aI (aO10 (aO2 aZ))))))),⟨_,i106,l46,v44,cs45,rfl,h,le77,hS,m78⟩,Nat.lt_succ_self _⟩
 ·replace h:=iF h79 h
  refine cexit ?_
  refine (fun h=>xe (xe (bh h))) ?_
  refine xn (nz ?_)
  iterate 2 refine st ?_
  refine nw (cret ?_)
  obtain ⟨μ2,a108,c109,e112,le111,m110,hq_⟩:=Sep.frzRow hS m78 rfl; clear hS
  subst e112; have hS:=hq_; clear hq_
  obtain rfl:=Option.some.inj h
  refine ret1 rfl d2 ?_
  exact ⟨_,_,_,rfl,(le77.t le111),hS,m110⟩
end Go.Proofs.YtegmgfljdeabeaaGreatDoor
set_option maxRecDepth 100000
set_option maxHeartbeats 20000000
namespace Go.Proofs.YtegmgfljdeabeaaGreatDoor
open Go.Wk Go.Xt Go.Y Tryz
variable {b1 b3 b9 b12 b13 b17 b18 b24 b25 b30 c4 c6 c9 c12 c20 c28 o4:Nat} {a3 a5 a8 a11 a19 a27:Option Addr} {a1 a2 v2 v3 v4 v7 v8 v10 v11 v12 v13 v14 v15 v16 v17 v19 v20 v21 v22 v23 v26 v27 v31 v32 v34 v37:Value} {cs8 cs15 cs16 cs22 cs23 cs24 cs27 cs28 cs35:List Value} {μ0:M} {w0 w:World} {rsF:List Res}
theorem ls_empty_w (hg:Le Gm μ0) {feed_2:List (List Int)} {took_6:List Int} {sent_10:List (List Int)} {p_2:Int} {r:Bool×List (List Int)×List Int×List (List Int)} (m5:Sl μ0 a3 c4 feed_2) (m9:Rw μ0 cs8 took_6) (m13:Sl μ0 a11 c12 sent_10) (h:ls_empty feed_2 took_6 sent_10 p_2=some r) (hS:Sq μ0 w0 w (.blk b1 61 [.slice a3 feed_2.length c4,v7,.slice a11 sent_10.length c12]::.row v7 3 1 took_6.length cs8::rsF)):CallsV prog 215 [.pointer (some ⟨b1,0,none⟩),.int .i64 p_2] w (fun v w'=>∃ (μ':M) (a14:Option Addr) (c15:Nat) (v17:Value) (cs18:List Value) (a20:Option Addr) (c21:Nat),v=.bool r.1∧Le μ0 μ'∧Sq μ' w0 w' (.blk b1 61 [.slice a14 r.2.1.length c15,v17,.slice a20 r.2.2.2.length c21]::.row v17 3 1 r.2.2.1.length cs18::rsF)∧Sl μ' a14 c15 r.2.1∧Rw μ' cs18 r.2.2.1∧Sl μ' a20 c21 r.2.2.2):=by
 unfold ls_empty at h
 refine enter func215 rfl (frm:=_::_::u2 (u2 (u5 (u10 [])))) rfl (nz (st (ny ?_)))
 refine cdraw (by kernel_rfl) rfl fun w1 hh_ ho_ ht_ hu_=>?_
 replace hS:=hS.drew hh_ ho_ ht_ hu_
 refine cpi 0 rfl (cpi 1 rfl (cpi 2 rfl (cpi 4 rfl (cpi 7 rfl (cpi 8 rfl (cpi 9 rfl (cpi 11 rfl (cr 10 [10,12,13,14,15,16] rfl (u_load ti29 (et (k10 d4)) ((hS.blk d0).cell d0)) (q10 p5) ?_))))))))
 replace h:=bI h; obtain ⟨x23,g24,h⟩:=h
 obtain ⟨b25,o26,cs27,e28,f29,m30⟩:=SlR.elem m5 g24
 obtain ⟨a31,c32,rfl,m33⟩:=m30
 refine cp 12 rfl (u_iax underlying29 ti22 (et (k10 d5)) (et (k10 d6)) e28) (q10 p7) (cr 13 [13,14,15,16] rfl (u_load ti22 (et (k10 d7)) ((f29 _ hS.a).one d0)) (q10 p8) (cp 14 rfl (u_lensl underlying22 (et (k10 d8))) (q10 p9) (cr 3 [3,5,6,15,16] rfl (u_load ti30 (et d7) ((hS.blk d0).cell d1)) p8 ?_)))
 replace h:=bI h; obtain ⟨x34,g35,h⟩:=h
 obtain ⟨b36,o37,pc38,cs39,sc40,ec41,e42,f43,m44,pn45,st46,m47⟩:=Row.elemS (α:=Int) (hS.get d1) m9 rfl g35
 rw [ec41] at hS
 obtain rfl:=m44
 refine cp 5 rfl (u_iax underlying30 ti3 (et d8) (et d9) e42) (q10 p0) (cr 6 [6,15,16] rfl (u_load ti3 (et (k10 d0)) ((f43 _ _ _ (hS.get d1) rfl).one d0)) (q10 p1) (cpi 15 rfl (cpi 16 rfl (nu (cret ?_)))))
 obtain rfl:=Option.some.inj h
 refine ret1 rfl d4 ?_
 exact ⟨_,_,_,_,((pc38++([.int .i64 x34]++sc40)):List Value),_,_,rfl,Le.r,hS,m5,m47,m13⟩
theorem ls_take_w (hg:Le Gm μ0) {feed_2:List (List Int)} {took_6:List Int} {sent_10:List (List Int)} {p_2:Int} {r:Int×List (List Int)×List Int×List (List Int)} (m5:Sl μ0 a3 c4 feed_2) (m9:Rw μ0 cs8 took_6) (m13:Sl μ0 a11 c12 sent_10) (h:ls_take feed_2 took_6 sent_10 p_2=some r) (hS:Sq μ0 w0 w (.blk b1 61 [.slice a3 feed_2.length c4,v7,.slice a11 sent_10.length c12]::.row v7 3 1 took_6.length cs8::rsF)):CallsV prog 218 [.pointer (some ⟨b1,0,none⟩),.int .i64 p_2] w (fun v w'=>∃ (μ':M) (a14:Option Addr) (c15:Nat) (v17:Value) (cs18:List Value) (a20:Option Addr) (c21:Nat),v=.int .i64 r.1∧Le μ0 μ'∧Sq μ' w0 w' (.blk b1 61 [.slice a14 r.2.1.length c15,v17,.slice a20 r.2.2.2.length c21]::.row v17 3 1 r.2.2.1.length cs18::rsF)∧Sl μ' a14 c15 r.2.1∧Rw μ' cs18 r.2.2.1∧Sl μ' a20 c21 r.2.2.2):=by
 unfold ls_take at h
 refine enter func218 rfl (frm:=_::_::u2 (u2 (u5 (u20 [])))) rfl (nz (st (nx ?_)))
 iterate 3 refine st ?_
 refine ld ((hS.blk d0).cell d1) (st ?_)
 replace h:=bI h; obtain ⟨x23,g24,h⟩:=h
 obtain ⟨b25,o26,pc27,cs28,sc29,ec30,e31,f32,m33,pn34,st35,m36⟩:=Row.elemS (α:=Int) (hS.get d1) m9 rfl g24
 rw [ec30] at hS
 obtain rfl:=m33
 refine wl (s_iax underlying30 ti3 (et d8) (et d9) e31 (dt (q10 p0)) (ld ((f32 _ _ _ (hS.get d1) rfl).one d0) ?_))
 replace h:=bI h; obtain ⟨i37,g38,h⟩:=h
 refine wl (s_addc (et (k10 d1)) ec g38 (dt (q10 p2)) ?_)
 replace h:=bI h; obtain ⟨x39,g40,h⟩:=h
 obtain ⟨b41,o42,pc43,cs44,sc45,ec46,e47,f48,m49,pn50,st51,m52⟩:=Row.elemS (α:=Int) (hS.get d1) m36 rfl g40
 rw [ec46] at hS
 obtain rfl:=m49
 refine wl (s_iax underlying30 ti3 (et d8) (et d9) e47 (dt (q10 p3)) ?_)
 have m53:=st51 _ [.int .i64 i37] i37 Le.r rfl
 refine wl (s_storeR (off:=0) ti3 (et (k10 d3)) (et (k10 d2)) rfl rfl rfl hS d1 e47 (Nat.le_of_ble_eq_true rfl) (open_store pn50 rfl (Nat.le_of_ble_eq_true rfl)) p1 dn ?_); clear hS; intro w1 hS
 replace hS:Sq μ0 w0 w1 (.blk b1 61 [.slice a3 feed_2.length c4,v7,.slice a11 sent_10.length c12]::.row v7 3 1 (took_6.set p_2.toNat i37).length (pc43++([.int .i64 i37]++sc45))::rsF):=by rw [List.length_set]; exact hS
 refine ny ?_
 refine cdraw (by kernel_rfl) rfl fun w2 hh_ ho_ ht_ hu_=>?_
 replace hS:=hS.drew hh_ ho_ ht_ hu_
 refine cpi 0 rfl (cpi 1 rfl (cpi 2 rfl (cpi 4 rfl (cpi 7 rfl (cpi 8 rfl (cpi 9 rfl (cpi 11 rfl (cr 10 [10,12,13,14,15,16,17] rfl (u_load ti30 (et (k20 d3)) ((hS.blk d0).cell d1)) (q20 p4) ?_))))))))
 replace h:=bI h; obtain ⟨x54,g55,h⟩:=h
 obtain ⟨b56,o57,pc58,cs59,sc60,ec61,e62,f63,m64,pn65,st66,m67⟩:=Row.elemS (α:=Int) (hS.get d1) m53 rfl g55
 rw [ec61] at hS
 obtain rfl:=m64
 refine cp 12 rfl (u_iax underlying30 ti3 (et (k20 d4)) (et (k20 d5)) e62) (q20 p6) (cr 13 [13,14,15,16,17] rfl (u_load ti3 (et (k20 d6)) ((f63 _ _ _ (hS.get d1) rfl).one d0)) (q20 p7) ?_)
 replace h:=bI h; obtain ⟨i68,g69,h⟩:=h
 refine cp 14 rfl (u_subc (et (k20 d7)) ec g69) (q20 p8) (cr 3 [3,5,6,15,16,17] rfl (u_load ti29 (et (k10 d6)) ((hS.blk d0).cell d0)) (q10 p7) ?_)
 replace h:=bI h; obtain ⟨x70,g71,h⟩:=h
 obtain ⟨b72,o73,cs74,e75,f76,m77⟩:=SlR.elem m5 g71
 obtain ⟨a78,c79,rfl,m80⟩:=m77
 refine cp 5 rfl (u_iax underlying29 ti22 (et (k10 d7)) (et (k10 d8)) e75) (q10 p9) (cr 6 [6,15,16,17] rfl (u_load ti22 (et (k10 d9)) ((f76 _ hS.a).one d0)) (q20 p0) ?_)
 replace h:=bI h; obtain ⟨x81,g82,h⟩:=h
 obtain ⟨b83,o84,cs85,e86,f87,m88⟩:=SlR.elem m80 g82
 obtain rfl:=m88
 refine cp 15 rfl (u_iax underlying22 ti2 (et (k20 d0)) (et (k20 d8)) e86) (q20 p9) (cr 16 [16,17] rfl (u_load ti2 (et (k20 d9)) ((f87 _ hS.a).one d0)) (q30 p0) (cpi 17 rfl (nu (cret ?_))))
 obtain rfl:=Option.some.inj h
 refine ret1 rfl d4 ?_
 exact ⟨_,_,_,_,((pc58++([.int .i64 x54]++sc60)):List Value),_,_,rfl,Le.r,hS,m5,m67,m13⟩
theorem st_at_w {b o:Nat} {v a3:Value} {i:Int} (he:Elv v 1 i b o) (hS:Sq μ0 w0 w (.blk b1 182 [v,a1,a2,a3]::rsF)):CallsV prog 47 [.pointer (some ⟨b1,0,none⟩),.int .i64 i] w (fun r w'=>∃ (μ':M),r=.pointer (some ⟨b,o,none⟩)∧Le μ0 μ'∧Sq μ' w0 w' (.blk b1 182 [v,a1,a2,a3]::rsF)):=by
 refine enter func47 rfl (frm:=_::_::u2 (u2 (u5 []))) rfl (nz (st (nx ?_)))
 iterate 3 refine st ?_
 refine ld ((hS.blk d0).cell d0) (st (wl (s_iax underlying22 ti2 (et d8) (et d9) he (dt (q10 p0)) (st (nw (cret (ret1 rfl d4 ?_)))))))
 exact ⟨_,rfl,Le.r,hS⟩
theorem vm_push_w (hg:Le Gm μ0) {stat_5 box_6 trap_7:Int} {l_14:List Int} {live_18 min_19 most_20 p_2:Int} {r:Int×Int×Int×List Int×Int×Int×Int} (m17:Rw μ0 cs16 l_14) (h:vm_push stat_5 box_6 trap_7 l_14 live_18 min_19 most_20 p_2=some r) (hS:Sq μ0 w0 w (.blk b1 71 [v2,v3,v4,.pointer (some ⟨b9,0,none⟩),.int .i64 stat_5,.int .i64 box_6,.int .i64 trap_7,v8,.nilFunc]::.blk b9 116 [v10,v11,v12,.pointer (some ⟨b13,0,none⟩)]::.blk b13 182 [v15,.int .i64 live_18,.int .i64 min_19,.int .i64 most_20]::.row v15 2 1 l_14.length cs16::rsF)):CallsV prog 46 [.pointer (some ⟨b1,0,none⟩),.int .i64 p_2] w (fun v w'=>∃ (μ':M) (v21:Value) (cs22:List Value),v=.tuple ⟨[]⟩∧Le μ0 μ'∧Sq μ' w0 w' (.blk b1 71 [v2,v3,v4,.pointer (some ⟨b9,0,none⟩),.int .i64 r.1,.int .i64 r.2.1,.int .i64 r.2.2.1,v8,.nilFunc]::.blk b9 116 [v10,v11,v12,.pointer (some ⟨b13,0,none⟩)]::.blk b13 182 [v21,.int .i64 r.2.2.2.2.1,.int .i64 r.2.2.2.2.2.1,.int .i64 r.2.2.2.2.2.2]::.row v21 2 1 r.2.2.2.1.length cs22::rsF)∧Rw μ' cs22 r.2.2.2.1):=by
 unfold vm_push at h
 refine enter func46 rfl (frm:=_::_::u2 (u2 (u10 []))) rfl (nz ?_)
 iterate 3 refine st ?_
 refine ld ((hS.blk d0).cell d3) ?_
 iterate 2 refine st ?_
 refine ld ((hS.blk d1).cell d3) (st ?_)
 replace h:=bI h; obtain ⟨r24,g25,h⟩:=h
 replace hS:=(hS.bg Y3).bg Y3
 refine ca (st_push_w hg m17 g25 hS) ?_
 rintro _ w1 ⟨μ1,v27,cs28,rfl,le26,hS,m29⟩
 refine po (st (nw ?_))
 refine cifnb (et (k10 d3)) (xF h) fun h30=>?_
 replace h:=iT h30 h
 refine cskip ?_
 obtain rfl:=Option.some.inj h
 refine end0 rfl ?_
 replace hS:=(((hS.bg Y1).bg Y1).bg Y3).bg Y3
 exact ⟨_,_,_,rfl,le26,hS,m29⟩
theorem vm_pop_w (hg:Le Gm μ0) {stat_5 box_6 trap_7:Int} {l_14:List Int} {live_18 min_19 most_20:Int} {r:Int×Int×Int×Int×List Int×Int×Int×Int} (m17:Rw μ0 cs16 l_14) (h:vm_pop stat_5 box_6 trap_7 l_14 live_18 min_19 most_20=some r) (hS:Sq μ0 w0 w (.blk b1 71 [v2,v3,v4,.pointer (some ⟨b9,0,none⟩),.int .i64 stat_5,.int .i64 box_6,.int .i64 trap_7,v8,.nilFunc]::.blk b9 116 [v10,v11,v12,.pointer (some ⟨b13,0,none⟩)]::.blk b13 182 [v15,.int .i64 live_18,.int .i64 min_19,.int .i64 most_20]::.row v15 2 1 l_14.length cs16::rsF)):CallsV prog 48 [.pointer (some ⟨b1,0,none⟩)] w (fun v w'=>∃ (μ':M) (v21:Value) (cs22:List Value),v=.int .i64 r.1∧Le μ0 μ'∧Sq μ' w0 w' (.blk b1 71 [v2,v3,v4,.pointer (some ⟨b9,0,none⟩),.int .i64 r.2.1,.int .i64 r.2.2.1,.int .i64 r.2.2.2.1,v8,.nilFunc]::.blk b9 116 [v10,v11,v12,.pointer (some ⟨b13,0,none⟩)]::.blk b13 182 [v21,.int .i64 r.2.2.2.2.2.1,.int .i64 r.2.2.2.2.2.2.1,.int .i64 r.2.2.2.2.2.2.2]::.row v21 2 1 r.2.2.2.2.1.length cs22::rsF)∧Rw μ' cs22 r.2.2.2.2.1):=by
 unfold vm_pop at h
 refine enter func48 rfl (frm:=_::u1 (u20 [])) rfl (nz (st (nx ?_)))
 iterate 3 refine st ?_
 refine ld ((hS.blk d0).cell d3) ?_
 iterate 2 refine st ?_
 refine ld ((hS.blk d1).cell d3) (st (nx ?_))
 iterate 2 refine st ?_
 replace h:=bI h; obtain ⟨r24,g25,h⟩:=h
 replace hS:=hS.bg Y2
 refine ca (st_live_w hg g25 hS) ?_
 rintro _ w1 ⟨μ1,rfl,le26,hS⟩
 refine po ?_
 replace h:=bI h; obtain ⟨i27,g28,h⟩:=h
 refine wl (s_subc (et (k10 d4)) ec g28 (dt (q10 p5)) ?_)
 replace h:=bI h; obtain ⟨x29,g30,h⟩:=h
 obtain ⟨b31,o32,pc33,cs34,sc35,ec36,e37,f38,m39,pn40,st41,m42⟩:=Row.elemS (α:=Int) (hS.get d3) (m17.up le26) rfl g30
 rw [ec36] at hS
 obtain rfl:=m39
 refine ca (st_at_w e37 hS) ?_
 rintro _ w2 ⟨μ2,rfl,le43,hS⟩
 refine po (st (ld ((f38 _ _ _ (hS.get d3) rfl).one d0) (st (nx (st ?_)))))
 replace h:=bI h; obtain ⟨r44,g45,h⟩:=h
 replace hS:=(hS.bg Y3).bg Y1
 refine ca (st_pop_w (hg.t (le26.t le43)) (m42.up le43) g45 hS) ?_
 rintro _ w3 ⟨μ3,v47,cs48,rfl,le46,hS,m49⟩
 refine po (nx ?_)
 iterate 2 refine st ?_
 refine nw (cret ?_)
 obtain rfl:=Option.some.inj h
 refine ret1 rfl d2 ?_
 replace hS:=(((hS.bg Y1).bg Y1).bg Y3).bg Y3
 exact ⟨_,_,_,rfl,(le26.t (le43.t le46)),hS,m49⟩
theorem vm_waits_w (hg:Le Gm μ0) {stat_5 box_6 trap_7:Int} {feed_10:List (List Int)} {took_14:List Int} {sent_18:List (List Int)} {p_2:TInstr} {r:Bool×Int×Int×Int×List (List Int)×List Int×List (List Int)} (m13:Sl μ0 a11 c12 feed_10) (m17:Rw μ0 cs16 took_14) (m21:Sl μ0 a19 c20 sent_18) (h:vm_waits stat_5 box_6 trap_7 feed_10 took_14 sent_18 p_2=some r) (hS:Sq μ0 w0 w (.blk b1 71 [v2,.iface 59 (.pointer (some ⟨b9,0,none⟩)),v3,v4,.int .i64 stat_5,.int .i64 box_6,.int .i64 trap_7,v8,.nilFunc]::.blk b9 61 [.slice a11 feed_10.length c12,v15,.slice a19 sent_18.length c20]::.row v15 3 1 took_14.length cs16::rsF)):CallsV prog 45 [.pointer (some ⟨b1,0,none⟩),.agg ⟨[.int .i64 p_2.Op,.int .i64 p_2.A,.int .i64 p_2.N]⟩] w (fun v w'=>∃ (μ':M) (a22:Option Addr) (c23:Nat) (v25:Value) (cs26:List Value) (a28:Option Addr) (c29:Nat),v=.bool r.1∧Le μ0 μ'∧Sq μ' w0 w' (.blk b1 71 [v2,.iface 59 (.pointer (some ⟨b9,0,none⟩)),v3,v4,.int .i64 r.2.1,.int .i64 r.2.2.1,.int .i64 r.2.2.2.1,v8,.nilFunc]::.blk b9 61 [.slice a22 r.2.2.2.2.1.length c23,v25,.slice a28 r.2.2.2.2.2.2.length c29]::.row v25 3 1 r.2.2.2.2.2.1.length cs26::rsF)∧Sl μ' a22 c23 r.2.2.2.2.1∧Rw μ' cs26 r.2.2.2.2.2.1∧Sl μ' a28 c29 r.2.2.2.2.2.2):=by
 unfold vm_waits at h
 refine enter func45 rfl (frm:=_::_::u1 (u5 (u50 []))) rfl (nz ?_)
 refine wl (s_box (et d1) rfl hS ?_); clear hS; intro b31 w1 hb32 hS; refine po ?_
 refine st (nx ?_)
 iterate 4 refine st ?_
 refine wl (s_store1 ti3 (et d8) ec rfl hS d1 p4 rfl p1 dn ?_)
 clear hS; intro w2 hS
 iterate 2 refine st ?_
 refine wl (s_store1 ti3 (et (k10 d0)) ec rfl hS d1 p5 rfl p1 dn ?_)
 clear hS; intro w3 hS
 refine ny ?_
 refine ccutE (List.range' 11 42) (by decide +kernel) (fun m w=>∃ μx i33 i34 l37 a35 c36 l41 a39 c40 l45 v43 cs44,m=(yK10 (yK1 (yO20 11 (yO20 31 (yO2 51 [])))))∧vm_waits_j1 trap_7 i33 i34 l37 l41 l45=some r∧Le μ0 μx∧Sq μx w0 w (.blk b1 71 [v2,.iface 59 (.pointer (some ⟨b9,0,none⟩)),v3,v4,.int .i64 i33,.int .i64 i34,.int .i64 trap_7,v8,.nilFunc]::.blk b9 61 [.slice a35 l37.length c36,v43,.slice a39 l41.length c40]::.row v43 3 1 l45.length cs44::rsF)∧Sl μx a35 c36 l37∧Sl μx a39 c40 l41∧Rw μx cs44 l45) (by rintro _ _ ⟨_,_,_,_,_,_,_,_,_,_,_,_,rfl,_⟩; rfl) ?_ ?_
 ·refine cblock (cseq ?_)
  refine cdraw (by kernel_rfl) rfl fun w4 hh_ ho_ ht_ hu_=>?_
  replace hS:=hS.drew hh_ ho_ ht_ hu_
  refine sf_start (fpi 0 [0,1,2,3,4,5,6,7,8,9,10,11,12] rfl (fr_ 1 [1,2,3,4,5,6,7,8,9,10,11,12] rfl (u_load ti3 (et (k10 d2)) ((hS.blk d0).cell d0)) (q10 p3) (fpi 2 [2,3,4,5,6,7,8,9,10,11,12] rfl (fpi 3 [3,4,5,6,7,8,9,10,11,12] rfl ?_))))
  refine sfsd (k10 d5) (q10 p5) (q10 p5) (xT h) fun h47=>?_
  replace h:=iF h47 h
  refine fpN 4 [4,5,6,7,10,11,12] rfl rfl (k10 d5) rfl (q10 p6) (fpN 5 [5,6,7,10,11,12] rfl rfl (k10 d5) rfl (q10 p7) (fpN 6 [6,7,10,11,12] rfl rfl (k10 d5) rfl (q10 p8) (fpN 7 [7,10,11,12] rfl rfl (k10 d5) rfl (q10 p9) (fpN 8 [8,9,10,11,12] rfl rfl (k10 d5) rfl (q20 p0) (fpN 9 [9,10,11,12] rfl rfl (k10 d5) rfl (q20 p1) (fpN 10 [10,11,12] rfl rfl (k10 d5) rfl (q20 p2) (fpi 11 [11,12] rfl (fpi 12 [12] rfl (sf_nil (xn (ciff (et (k10 d1)) (cseq ?_))))))))))))
  refine ccutE (List.range' 33 12) (by decide) (fun m w=>∃ μx b48 l51 a49 c50 l55 a53 c54 l59 v57 cs58,m=(yK20 (yK10 (yK2 (.i (.bool b48)::(yO10 33 (yO2 43 []))))))∧vm_waits_j2 p_2 trap_7 b48 l51 l55 l59=some r∧Le μ0 μx∧Sq μx w0 w (.blk b1 71 [v2,.iface 59 (.pointer (some ⟨b9,0,none⟩)),v3,v4,.int .i64 1,.int .i64 0,.int .i64 trap_7,v8,.nilFunc]::.blk b9 61 [.slice a49 l51.length c50,v57,.slice a53 l55.length c54]::.row v57 3 1 l59.length cs58::.blk b31 122 [.int .i64 p_2.Op,.int .i64 p_2.A,.int .i64 p_2.N]::rsF)∧Sl μx a49 c50 l51∧Sl μx a53 c54 l55∧Rw μx cs58 l59) (by rintro _ _ ⟨_,_,_,_,_,_,_,_,_,_,_,rfl,_⟩; rfl) ?_ ?_
  ·refine cdraw (by kernel_rfl) rfl fun w5 hh_ ho_ ht_ hu_=>?_
   replace hS:=hS.drew hh_ ho_ ht_ hu_
   refine sf_start (fpi 0 [0,1,2,3,4,5,6,7,8,9,10,11,12] rfl (fr_ 1 [1,2,3,4,5,6,7,8,9,10,11,12] rfl (u_load ti3 (et (k30 d3)) ((hS.blk d0).cell d0)) (q30 p4) (fpi 2 [2,3,4,5,6,7,8,9,10,11,12] rfl (fpi 3 [3,4,5,6,7,8,9,10,11,12] rfl ?_))))
   refine sfsd (k30 d6) (q30 p6) (q30 p6) (fun h61=>?_) (fun h61=>?_)
   ·replace h:=iT h61 h
    refine fpY 4 [4,5,6,7,10,11,12] rfl rfl (k30 d6) (u_move (et d0)) (q30 p7) (fpY 5 [5,6,7,10,11,12] rfl rfl (k30 d6) (u_nilck (et (k30 d7))) (q30 p8) (fpY 6 [6,7,10,11,12] rfl rfl (k30 d6) (u_fa fa71_1 (et (k30 d8)) rfl) (q30 p9) (fr_Y 7 [7,10,11,12] rfl rfl (k30 d6) (u_load ti66 (et (k30 d9)) ((hS.blk d1).cell d1)) (q40 p0) (fpY 8 [8,9,10,11,12] rfl rfl (k30 d6) (u_fa fa122_1 (et d3) rfl) (q40 p1) (fr_Y 9 [9,10,11,12] rfl rfl (k30 d6) (u_load ti3 (et (k40 d1)) ((hS.blk d0).cell d1)) (q40 p2) ?_)))))
    replace h:=bI h; obtain ⟨r62,g63,h⟩:=h
    replace hS:=(hS.bg Y3).bg Y3
    refine sf1 rfl rfl rfl rfl (wanted_t rfl rfl (k30 d6)) (s_callI (fun _=>rfl) isfn215 (et (k40 d0)) (e1 (et (k40 d2)) e0) (ls_empty_w hg m13 m17 m21 g63 hS) ?_)
    rintro _ w6 ⟨μ1,a65,c66,v68,cs69,a71,c72,rfl,le64,hS,m67,m70,m73⟩
    refine po ?_
    refine ⟨Mons.z,?_⟩
    refine fpi 11 [11,12] rfl (fpi 12 [12] rfl (sf_nil (xl ?_)))
    replace hS:=(((hS.bg Y2).bg Y2).bg Y2).bg Y3
    exact ⟨_,_,rfl,(aK20 (aK10 (aK2 (aI (aO10 (aO2 aZ)))))),_,r62.1,r62.2.1,_,_,r62.2.2.2,_,_,r62.2.2.1,_,_,rfl,h,le64,hS,m67,m73,m70⟩
   ·replace h:=iF h61 h
    refine fpN 4 [4,5,6,7,10,11,12] rfl rfl (k30 d6) rfl (q30 p7) (fpN 5 [5,6,7,10,11,12] rfl rfl (k30 d6) rfl (q30 p8) (fpN 6 [6,7,10,11,12] rfl rfl (k30 d6) rfl (q30 p9) (fpN 7 [7,10,11,12] rfl rfl (k30 d6) rfl (q40 p0) (fpN 8 [8,9,10,11,12] rfl rfl (k30 d6) rfl (q40 p1) (fpN 9 [9,10,11,12] rfl rfl (k30 d6) rfl (q40 p2) (fpN 10 [10,11,12] rfl rfl (k30 d6) rfl (q40 p3) (fpi 11 [11,12] rfl (fpi 12 [12] rfl (sf_nil (xl ?_))))))))))
    replace hS:=((hS.bg Y3).bg Y3).bg Y3
    exact ⟨_,_,rfl,(aK20 (aK10 (aK2 (aI (aO10 (aO2 aZ)))))),_,false,feed_10,_,_,sent_18,_,_,took_14,_,_,rfl,h,Le.r,hS,m13,m21,m17⟩
  ·rintro _ t w7 ⟨μ2,b48,l51,a49,c50,l55,a53,c54,l59,v57,cs58,rfl,h,le74,hS,m75,m76,m77⟩
   unfold vm_waits_j2 at h
   refine nrm (mK20 (mK10 (mK2 (mi (mO10 (mO2 mz)))))) (xn ?_)
   refine cifb (et (k30 d2)) (fun h78=>?_) (fun h78=>?_)
   ·replace h:=iT h78 h
    refine ccutE (List.range' 45 8) (by decide) (fun m w=>∃ (μx:M) ,m=(yK20 (yK20 (yK5 (yO8 45 []))))∧vm_waits_j3 p_2 trap_7 l51 l55 l59 =some r∧Le μ2 μx∧Sq μx w0 w (.blk b1 71 [v2,.iface 59 (.pointer (some ⟨b9,0,none⟩)),v3,v4,.int .i64 3,.int .i64 p_2.A,.int .i64 trap_7,v8,.nilFunc]::.blk b9 61 [.slice a49 l51.length c50,v57,.slice a53 l55.length c54]::.row v57 3 1 l59.length cs58::rsF)) (by rintro _ _ ⟨_,rfl,_⟩; rfl) ?_ ?_
    ·refine cdraw (by kernel_rfl) rfl fun w8 hh_ ho_ ht_ hu_=>?_
     replace hS:=hS.drew hh_ ho_ ht_ hu_
     refine sf_start (fpi 0 [0,4,5,6,7,8,9] rfl (fpi 1 [1,7,8,9] rfl (fpi 2 [2,3,7,8,9] rfl (fr_ 3 [3,7,8,9] rfl (u_load ti3 (et (k40 d7)) ((hS.blk d3).cell d1)) (q40 p8) (fpi 4 [4,5,6,7,8,9] rfl (fpi 5 [5,6,7,8,9] rfl (sf1 rfl rfl rfl rfl (wanted_0 rfl) (s_store1 ti3 (et (k50 d0)) ec rfl hS d0 p4 rfl p0 dn ?_))))))))
     clear hS; intro w9 hS
     refine ⟨(Mons.s (u_load ti3 (et (k40 d7)) ((hS.blk d3).cell d1)) Mons.z),?_⟩
     refine fpi 7 [7,8,9] rfl (fpi 8 [8,9] rfl (sf1 rfl rfl rfl rfl (wanted_0 rfl) (s_store1 ti3 (et (k50 d2)) (et (k40 d8)) rfl hS d0 p5 rfl p0 dn ?_)))
     clear hS; intro w10 hS
     refine ⟨Mons.z,?_⟩
     refine sf_nil (xl ?_)
     replace hS:=hS.drop (Rm.s (Rm.s (Rm.s Rm.z)))
     exact ⟨_,_,rfl,(aK20 (aK20 (aK5 (aO8 aZ)))),_,rfl,h,Le.r,hS⟩
    ·rintro _ t w11 ⟨μ3,rfl,h,le79,hS⟩
     unfold vm_waits_j3 at h
     refine nrm (mK20 (mK20 (mK5 (mO8 mz)))) ?_
     refine (fun h=>bn (xl h)) ?_
     exact ⟨_,_,rfl,(aK10 (aK1 (aO20 (aO20 (aO2 aZ))))),_,3,p_2.A,_,_,_,_,_,_,_,_,_,rfl,h,(le74.t le79),hS,(m75.up le79),(m76.up le79),(m77.up le79)⟩
   ·replace h:=iF h78 h
    refine cskip ?_
    refine (fun h=>bn (xl h)) ?_
    replace hS:=hS.drop (Rm.s (Rm.s (Rm.s Rm.z)))
    exact ⟨_,_,rfl,(aK10 (aK1 (aO20 (aO20 (aO2 aZ))))),_,1,0,_,_,_,_,_,_,_,_,_,rfl,h,le74,hS,m75,m76,m77⟩
 ·rintro _ t w12 ⟨μ4,i33,i34,l37,a35,c36,l41,a39,c40,l45,v43,cs44,rfl,h,le80,hS,m81,m82,m83⟩
  unfold vm_waits_j1 at h
  refine nrm (mK10 (mK1 (mO20 (mO20 (mO2 mz))))) (xn (nz ?_))
  iterate 3 refine st ?_
  refine ld ((hS.blk d0).cell d4) ?_
  iterate 2 refine st ?_
  refine nw (cret ?_)
  obtain rfl:=Option.some.inj h
  refine ret1 rfl d4 ?_
  exact ⟨_,_,_,_,_,_,_,rfl,le80,hS,m81,m83,m82⟩
theorem vm_look_w (hg:Le Gm μ0) {m_2:TModule} {stat_13 box_14 trap_15:Int} {feed_18:List (List Int)} {took_22:List Int} {sent_26:List (List Int)} {fram_33:List TVmFrame} {r:Int×Int×Int×List (List Int)×List Int×List (List Int)×List TVmFrame} (m7:Sl μ0 a5 c6 m_2.Boxes) (m10:Sl μ0 a8 c9 m_2.Units) (m11:At μ0 b3 o4 [.slice a5 m_2.Boxes.length c6,.slice a8 m_2.Units.length c9]) (m21:Sl μ0 a19 c20 feed_18) (m25:Rw μ0 cs24 took_22) (m29:Sl μ0 a27 c28 sent_26) (m36:Rw μ0 cs35 fram_33) (h:vm_look m_2 stat_13 box_14 trap_15 feed_18 took_22 sent_26 fram_33=some r) (hS:Sq μ0 w0 w (.blk b1 71 [.pointer (some ⟨b3,o4,none⟩),.iface 59 (.pointer (some ⟨b17,0,none⟩)),v12,.pointer (some ⟨b30,0,none⟩),.int .i64 stat_13,.int .i64 box_14,.int .i64 trap_15,v16,.nilFunc]::.blk b17 61 [.slice a19 feed_18.length c20,v23,.slice a27 sent_26.length c28]::.row v23 3 1 took_22.length cs24::.blk b30 116 [v31,v32,v34,v37]::.row v34 119 3 fram_33.length cs35::rsF)):CallsV prog 27 [.pointer (some ⟨b1,0,none⟩)] w (fun v w'=>∃ (μ':M) (a38:Option Addr) (c39:Nat) (v41:Value) (cs42:List Value) (a44:Option Addr) (c45:Nat) (v47:Value) (cs48:List Value),v=.tuple ⟨[]⟩∧Le μ0 μ'∧Sq μ' w0 w' (.blk b1 71 [.pointer (some ⟨b3,o4,none⟩),.iface 59 (.pointer (some ⟨b17,0,none⟩)),v12,.pointer (some ⟨b30,0,none⟩),.int .i64 r.1,.int .i64 r.2.1,.int .i64 r.2.2.1,v16,.nilFunc]::.blk b17 61 [.slice a38 r.2.2.2.1.length c39,v41,.slice a44 r.2.2.2.2.2.1.length c45]::.row v41 3 1 r.2.2.2.2.1.length cs42::.blk b30 116 [v31,v32,v47,v37]::.row v47 119 3 r.2.2.2.2.2.2.length cs48::rsF)∧Sl μ' a38 c39 r.2.2.2.1∧Rw μ' cs42 r.2.2.2.2.1∧Sl μ' a44 c45 r.2.2.2.2.2.1∧Rw μ' cs48 r.2.2.2.2.2.2):=by
 unfold vm_look at h
 refine enter func27 rfl (frm:=_::u1 (u5 (u20 (u20 [])))) rfl (nz ?_)
 iterate 3 refine st ?_
 refine ld ((hS.blk d0).cell d4) (st (nw ?_))
 refine cifd (et d7) (fun h50=>?_) (fun h50=>?_)
 ·replace h:=iT h50 h
  refine cseq ?_
  refine ccutE (List.range' 8 17) (by decide) (fun m w=>∃ μx i53 b51 o52,m=(yK2 (.i (.pointer (some ⟨b51,o52,none⟩))::(yK5 (yO10 8 (yO7 18 [])))))∧vm_look_j1 m_2 stat_13 box_14 trap_15 feed_18 took_22 sent_26 fram_33 i53=some r∧Le μ0 μx∧Sq μx w0 w (.blk b1 71 [.pointer (some ⟨b3,o4,none⟩),.iface 59 (.pointer (some ⟨b17,0,none⟩)),v12,.pointer (some ⟨b30,0,none⟩),.int .i64 stat_13,.int .i64 box_14,.int .i64 trap_15,v16,.nilFunc]::.blk b17 61 [.slice a19 feed_18.length c20,v23,.slice a27 sent_26.length c28]::.row v23 3 1 took_22.length cs24::.blk b30 116 [v31,v32,v34,v37]::.row v34 119 3 fram_33.length cs35::rsF)∧(fun (_:M)=>Elv v34 3 i53 b51 o52) μx) (by rintro _ _ ⟨_,_,_,_,rfl,_⟩; rfl) ?_ ?_
  ·refine cdraw (by kernel_rfl) rfl fun w1 hh_ ho_ ht_ hu_=>?_
   replace hS:=hS.drew hh_ ho_ ht_ hu_
   refine sf_start (fpi 0 [0,1,2,3,4,5,6,16,17] rfl (fpi 1 [1,2,3,4,5,6,16,17] rfl (fpi 2 [2,3,4,5,6,16,17] rfl (fr_ 3 [3,4,5,6,16,17] rfl (u_load ti68 (et (k10 d0)) ((hS.blk d0).cell d3)) (q10 p1) (fpi 4 [4,5,6,16,17] rfl (fpi 5 [5,6,16,17] rfl (fr_ 6 [6,16,17] rfl (u_load ti113 (et (k10 d3)) ((hS.blk d3).cell d2)) (q10 p4) (fpi 7 [7,8,9,10,11,12,13,14,15,16,17] rfl (fpi 8 [8,9,10,11,12,13,14,15,16,17] rfl (fpi 9 [9,10,11,12,13,14,15,16,17] rfl (fr_ 10 [10,11,12,13,14,15,16,17] rfl (u_load ti68 (et (k10 d7)) ((hS.blk d0).cell d3)) (q10 p8) (fpi 11 [11,12,13,14,15,16,17] rfl (fpi 12 [12,13,14,15,16,17] rfl (fr_ 13 [13,14,15,16,17] rfl (u_load ti113 (et (k20 d0)) ((hS.blk d3).cell d2)) (q20 p1) (sf1 rfl rfl rfl rfl (wanted_0 rfl) (s_lenv underlying113 (et (k20 d1)) (hS.get d4).isSl (dt (q20 p2)) ?_))))))))))))))))
   refine ⟨(Mons.s (u_load ti113 (et (k10 d3)) ((hS.blk d3).cell d2)) (Mons.s (u_load ti68 (et (k10 d0)) ((hS.blk d0).cell d3)) Mons.z)),?_⟩
   replace h:=bI h; obtain ⟨i55,g56,h⟩:=h
   refine fp 15 [15,16,17] rfl (u_subc (et (k20 d2)) ec g56) (q20 p3) ?_
   replace h:=bI h; obtain ⟨x57,g58,h⟩:=h
   obtain ⟨b59,o60,pc61,cs62,sc63,ec64,e65,f66,m67,pn68,st69,m70⟩:=Row.elemS (α:=TVmFrame) (hS.get d4) m36 rfl g58
   rw [ec64] at hS
   obtain rfl:=m67
   refine fp 16 [16,17] rfl (u_iax underlying113 ti119 (et (k10 d4)) (et (k20 d3)) e65) (q20 p4) (fpi 17 [17] rfl (sf_nil (xl ?_)))
   rw [← ec64] at hS
   exact ⟨_,_,rfl,(aK2 (aI (aK5 (aO10 (aO7 aZ))))),_,_,_,_,rfl,h,Le.r,hS,e65⟩
  ·rintro _ t w2 ⟨μ1,i53,b51,o52,rfl,h,le71,hS,m72⟩
   unfold vm_look_j1 at h
   refine nrm (mK2 (mi (mK5 (mO10 (mO7 mz))))) (xn ?_)
   refine cdraw (by kernel_rfl) rfl fun w3 hh_ ho_ ht_ hu_=>?_
   replace hS:=hS.drew hh_ ho_ ht_ hu_
   refine sf_start (fpi 0 [0,21] rfl (fpi 1 [1,2,3,4,5,6,7,12,13,14,19,20,21] rfl (fpi 2 [2,3,4,5,6,7,12,13,14,19,20,21] rfl (fpi 3 [3,4,5,6,7,12,13,14,19,20,21] rfl (fr_ 4 [4,5,6,7,12,13,14,19,20,21] rfl (u_load ti56 (et (k20 d8)) ((hS.blk d0).cell d0)) (q20 p9) (fpi 5 [5,6,7,12,13,14,19,20,21] rfl (fpi 6 [6,7,12,13,14,19,20,21] rfl (fr_ 7 [7,12,13,14,19,20,21] rfl (u_load ti37 (et (k30 d1)) ((m11 _ (le71 _ hS.a)).one d1)) (q30 p2) (fpi 8 [8,9,10,11,12,13,14,19,20,21] rfl (fpi 9 [9,10,11,12,13,14,19,20,21] rfl ?_))))))))))
   replace h:=bI h; obtain ⟨x73,g74,h⟩:=h
   obtain ⟨b75,o76,pc77,cs78,sc79,ec80,e81,f82,m83,pn84,st85,m86⟩:=Row.elemS (α:=TVmFrame) (hS.get d4) (m36.up le71) rfl g74
   obtain ⟨rfl,rfl⟩:=Elv.uniq m72 e81
   rw [ec80] at hS
   obtain rfl:=m83
   refine fpi 10 [10,11,12,13,14,19,20,21] rfl (fr_ 11 [11,12,13,14,19,20,21] rfl (u_load ti3 (et (k30 d5)) ((f82 _ _ _ (hS.get d4) rfl).one d0)) (q30 p6) ?_)
   replace h:=bI h; obtain ⟨x87,g88,h⟩:=h
   obtain ⟨b89,o90,cs91,e92,f93,m94⟩:=SlR.elem (m10.up le71) g88
   obtain ⟨a95,c96,a98,c99,rfl,m97,m100⟩:=m94
   refine fp 12 [12,13,14,19,20,21] rfl (u_iax underlying37 ti105 (et (k30 d2)) (et (k30 d6)) e92) (q30 p7) (fpi 13 [13,14,19,20,21] rfl (fr_ 14 [14,19,20,21] rfl (u_load ti103 (et (k30 d8)) ((f93 _ hS.a).one d5)) (q30 p9) (fpi 15 [15,16,17,18,19,20,21] rfl (fpi 16 [16,17,18,19,20,21] rfl (fpi 17 [17,18,19,20,21] rfl (fr_ 18 [18,19,20,21] rfl (u_load ti3 (et (k40 d2)) ((f82 _ _ _ (hS.get d4) rfl).one d1)) (q40 p3) ?_))))))
   replace h:=bI h; obtain ⟨x101,g102,h⟩:=h
   obtain ⟨b103,o104,cs105,e106,f107,m108⟩:=SlR.elem m100 g102
   obtain rfl:=m108
   refine fp 19 [19,20,21] rfl (u_iax underlying103 ti122 (et (k30 d9)) (et (k40 d3)) e106) (q40 p4) (fr_ 20 [20,21] rfl (u_loads ti122 (et (k40 d4)) (f107 _ hS.a) rfl) (q40 p5) ?_)
   replace h:=bI h; obtain ⟨r109,g110,h⟩:=h
   replace hS:=((hS.bg Y2).bg Y2).bg Y2
   refine sf1 rfl rfl rfl rfl (wanted_0 rfl) (s_callv isfn45 ef (e1 (et (k20 d5)) (e1 (et (k40 d5)) e0)) (vm_waits_w (hg.t le71) (m21.up le71) (m25.up le71) (m29.up le71) g110 hS) ?_)
   rintro _ w4 ⟨μ2,a112,c113,v115,cs116,a118,c119,rfl,le111,hS,m114,m117,m120⟩
   refine po ?_
   refine ⟨Mons.z,?_⟩
   refine sf_nil ?_
   obtain rfl:=Option.some.inj h
   refine end0 rfl ?_
   exact ⟨_,_,_,_,_,_,_,_,((pc77++([.int .i64 x73.unit,.int .i64 x73.pc,.int .i64 x73.base]++sc79)):List Value),rfl,(le71.t le111),hS,m114,m117,m120,(m86.up le111)⟩
 ·replace h:=iF h50 h
  refine cskip ?_
  obtain rfl:=Option.some.inj h
  refine end0 rfl ?_
  exact ⟨_,_,_,_,_,_,_,_,_,rfl,Le.r,hS,m21,m25,m29,m36⟩
theorem vm_call_w (hg:Le Gm μ0) {m_2:TModule} {stat_14 box_15 trap_16:Int} {fram_21:List TVmFrame} {l_26:List Int} {live_30 min_31 most_32 p_2:Int} {r:Int×Int×Int×List TVmFrame×List Int×Int×Int×Int} (m7:Sl μ0 a5 c6 m_2.Boxes) (m10:Sl μ0 a8 c9 m_2.Units) (m11:At μ0 b3 o4 [.slice a5 m_2.Boxes.length c6,.slice a8 m_2.Units.length c9]) (m24:Rw μ0 cs23 fram_21) (m29:Rw μ0 cs28 l_26) (h:vm_call m_2 stat_14 box_15 trap_16 fram_21 l_26 live_30 min_31 most_32 p_2=some r) (hS:Sq μ0 w0 w (.blk b1 71 [.pointer (some ⟨b3,o4,none⟩),v12,v13,.pointer (some ⟨b18,0,none⟩),.int .i64 stat_14,.int .i64 box_15,.int .i64 trap_16,v17,.nilFunc]::.blk b18 116 [v19,v20,v22,.pointer (some ⟨b25,0,none⟩)]::.row v22 119 3 fram_21.length cs23::.blk b25 182 [v27,.int .i64 live_30,.int .i64 min_31,.int .i64 most_32]::.row v27 2 1 l_26.length cs28::rsF)):CallsV prog 92 [.pointer (some ⟨b1,0,none⟩),.int .i64 p_2] w (fun v w'=>∃ (μ':M) (v33:Value) (cs34:List Value) (v36:Value) (cs37:List Value),v=.tuple ⟨[]⟩∧Le μ0 μ'∧Sq μ' w0 w' (.blk b1 71 [.pointer (some ⟨b3,o4,none⟩),v12,v13,.pointer (some ⟨b18,0,none⟩),.int .i64 r.1,.int .i64 r.2.1,.int .i64 r.2.2.1,v17,.nilFunc]::.blk b18 116 [v19,v20,v33,.pointer (some ⟨b25,0,none⟩)]::.row v33 119 3 r.2.2.2.1.length cs34::.blk b25 182 [v36,.int .i64 r.2.2.2.2.2.1,.int .i64 r.2.2.2.2.2.2.1,.int .i64 r.2.2.2.2.2.2.2]::.row v36 2 1 r.2.2.2.2.1.length cs37::rsF)∧Rw μ' cs34 r.2.2.2.1∧Rw μ' cs37 r.2.2.2.2.1):=by
 unfold vm_call at h
 refine enter func92 rfl (frm:=_::_::u1 (u2 (u10 (u50 [])))) rfl (cseq ?_)
 refine cdraw (by kernel_rfl) rfl fun w1 hh_ ho_ ht_ hu_=>?_
 replace hS:=hS.drew hh_ ho_ ht_ hu_
 refine sf_start (fpi 0 [0,1,2,3,13,14] rfl (fpi 1 [1,2,3,13,14] rfl (fpi 2 [2,3,13,14] rfl (fr_ 3 [3,13,14] rfl (u_load ti68 (et d9) ((hS.blk d0).cell d3)) (q10 p0) (fpi 4 [4,5,6,7,8,9,10,12,14] rfl (fpi 5 [5,6,7,8,9,10,12,14] rfl (fpi 6 [6,7,8,9,10,12,14] rfl (fr_ 7 [7,8,9,10,12,14] rfl (u_load ti56 (et (k10 d3)) ((hS.blk d0).cell d0)) (q10 p4) (fpi 8 [8,9,10,12,14] rfl (fpi 9 [9,10,12,14] rfl (fr_ 10 [10,12,14] rfl (u_load ti37 (et (k10 d6)) ((m11 _ hS.a).one d1)) (q10 p7) (fpi 11 [11,12,14] rfl ?_))))))))))))
 replace h:=bI h; obtain ⟨x39,g40,h⟩:=h
 obtain ⟨b41,o42,cs43,e44,f45,m46⟩:=SlR.elem m10 g40
 obtain ⟨a47,c48,a50,c51,rfl,m49,m52⟩:=m46
 refine fp 12 [12,14] rfl (u_iax underlying37 ti105 (et (k10 d7)) (et (k10 d8)) e44) (q10 p9) (fpi 13 [13,14] rfl (fpi 14 [14] rfl (sf_nil (xn (cseq ?_)))))
 refine ccutE (List.range' 20 10) (by decide) (fun m w=>∃ μx i53,m=(yK6 (.i (.int .i64 i53)::(yK10 (yK3 (yO10 20 [])))))∧vm_call_j1 p_2 stat_14 box_15 trap_16 fram_21 l_26 live_30 min_31 most_32 x39 i53=some r∧Le μ0 μx∧Sq μx w0 w (.blk b1 71 [.pointer (some ⟨b3,o4,none⟩),v12,v13,.pointer (some ⟨b18,0,none⟩),.int .i64 stat_14,.int .i64 box_15,.int .i64 trap_16,v17,.nilFunc]::.blk b18 116 [v19,v20,v22,.pointer (some ⟨b25,0,none⟩)]::.row v22 119 3 fram_21.length cs23::.blk b25 182 [v27,.int .i64 live_30,.int .i64 min_31,.int .i64 most_32]::.row v27 2 1 l_26.length cs28::rsF)) (by rintro _ _ ⟨_,_,rfl,_⟩; rfl) ?_ ?_
 ·refine cdraw (by kernel_rfl) rfl fun w2 hh_ ho_ ht_ hu_=>?_
  replace hS:=hS.drew hh_ ho_ ht_ hu_
  refine sf_start (fpi 0 [0,1,2,3,4,9,10] rfl (fpi 1 [1,2,3,4,9,10] rfl (fpi 2 [2,3,4,9,10] rfl (fr_ 3 [3,4,9,10] rfl (u_load ti114 (et (k20 d2)) ((hS.blk d1).cell d3)) (q20 p3) (fpi 5 [5,6,7,8,9,10] rfl (fpi 6 [6,7,8,9,10] rfl (fpi 7 [7,8,9,10] rfl (fr_ 8 [8,9,10] rfl (u_load ti3 (et (k20 d7)) ((f45 _ hS.a).one d1)) (q20 p8) ?_))))))))
  replace h:=bI h; obtain ⟨r54,g55,h⟩:=h
  replace hS:=hS.bg Y3
  refine sf1 rfl rfl rfl rfl (wanted_0 rfl) (s_callv isfn89 ef (e1 (et (k20 d3)) e0) (st_live_w hg g55 hS) ?_)
  rintro _ w3 ⟨μ1,rfl,le56,hS⟩
  refine po ?_
  refine ⟨(Mons.s (u_load ti3 (et (k20 d7)) ((f45 _ (le56 _ hS.a)).one d1)) Mons.z),?_⟩
  replace h:=bI h; obtain ⟨i57,g58,h⟩:=h
  refine fp 9 [9,10] rfl (u_subc (et (k20 d4)) (et (k20 d8)) g58) (q20 p9) (fpi 10 [10] rfl (sf_nil (xl ?_)))
  replace hS:=((((hS.bg Y4).bg Y1).bg Y4).bg Y4).bg Y4
  exact ⟨_,_,rfl,(aK6 (aI (aK10 (aK3 (aO10 aZ))))),_,_,rfl,h,le56,hS⟩
 ·rintro _ t w4 ⟨μ2,i53,rfl,h,le59,hS⟩
  unfold vm_call_j1 at h
  refine nrm (mK6 (mi (mK10 (mK3 (mO10 mz))))) (xn (cseq (nz ?_)))
  iterate 3 refine st ?_
  refine ld ((hS.blk d1).cell d2) (wl (s_lenv underlying113 (et (k30 d3)) (hS.get d2).isSl (dt (q30 p4)) (st (nw ?_))))
  refine cifd (et (k30 d5)) (xT h) fun h60=>?_
  replace h:=iF h60 h
  refine cskip (xn (nz ?_))
  iterate 4 refine st ?_
  refine ld ((hS.blk d1).cell d2) ?_
  iterate 2 refine st ?_
  refine wl (s_build ti119 pl119 (Fl.o rfl (et (k40 d3)) rfl rfl p0 (Fl.o rfl (et (k40 d4)) rfl rfl p2 Fl.z)) (dt (q40 p5)) ?_)
  refine wl (s_bsl1 underlying113 ti119 rfl (et (k40 d5)) rfl hS ?_); clear hS; intro b61 w5 hb62 hS; refine po ?_
  replace h:=bI h; obtain ⟨l65,g66,h⟩:=h
  have m67:Rw μ2 [.int .i64 p_2,.int .i64 0,.int .i64 i53] [(TVmFrame.mk p_2 0 i53)]:=(Rw.one (α:=TVmFrame) rfl)
  have m64:=Rw.app (m24.up le59) m67 g66
  refine wl (s_app1 underlying113 ti119 rfl (et (k40 d2)) (et (k40 d6)) hS d3 (hS.blk d0).cells m67 rfl g66 (by decide) ?_); clear hS; intro v63 w6 rs_ hp_ hS; cases (show _=rs_ from hp_)
  replace hS:=Sep.reput hS p3; refine po ?_
  replace hS:=hS.drop Rm.z
  iterate 2 refine st ?_
  refine wl (s_store1 ti113 (et (k40 d9)) (et (k40 d7)) (hS.get d2).cellV hS d1 p2 rfl p1 dn ?_)
  clear hS; intro w7 hS
  refine ny ?_
  refine cdraw (by kernel_rfl) rfl fun w8 hh_ ho_ ht_ hu_=>?_
  replace hS:=hS.drew hh_ ho_ ht_ hu_
  refine sf_start (fpi 0 [0,1,2,3,4,9] rfl (fpi 1 [1,2,3,4,9] rfl (fpi 2 [2,3,4,9] rfl (fr_ 3 [3,4,9] rfl (u_load ti30 (et (k50 d2)) ((f45 _ (le59 _ hS.a)).one d2)) (q50 p3) (fp 4 [4,9] rfl (u_lensl underlying30 (et (k50 d3))) (q50 p4) (fpi 5 [5,6,7,8,9] rfl (fpi 6 [6,7,8,9] rfl (fpi 7 [7,8,9] rfl (fr_ 8 [8,9] rfl (u_load ti3 (et (k50 d7)) ((f45 _ (le59 _ hS.a)).one d1)) (q50 p8) ?_)))))))))
  replace h:=bI h; obtain ⟨i68,g69,h⟩:=h
  refine fp 9 [9] rfl (u_subc (et (k50 d4)) (et (k50 d8)) g69) (q50 p9) (fpi 10 [10] rfl (sf_nil (xn (cblock ?_))))
  refine cloopE (List.range' 61 4) (by decide) (fun n m w=>∃ μx i78 i79 i80 i81 i82 i83 i84 l87 v85 cs86,m=(yK50 (yK10 (.i (.int .i64 i78)::(yO4 61 []))))∧vm_call_l1 l65 i68 n i78 i79 i80 i81 i82 i83 i84 l87=some r∧Le μ2 μx∧Sq μx w0 w (.blk b1 71 [.pointer (some ⟨b3,o4,none⟩),v12,v13,.pointer (some ⟨b18,0,none⟩),.int .i64 i79,.int .i64 i80,.int .i64 i81,v17,.nilFunc]::.blk b18 116 [v19,v20,v63,.pointer (some ⟨b25,0,none⟩)]::.row v63 119 3 l65.length (cs23++[.int .i64 p_2,.int .i64 0,.int .i64 i53])::.blk b25 182 [v85,.int .i64 i82,.int .i64 i83,.int .i64 i84]::.row v85 2 1 l87.length cs86::rsF)∧Rw μx cs86 l87) (by rintro _ _ _ ⟨_,_,_,_,_,_,_,_,_,_,_,rfl,_⟩; rfl) _ _ (aK50 (aK10 (aI (aO4 aZ)))) ⟨_,0,stat_14,box_15,trap_16,live_30,min_31,most_32,l_26,v27,cs28,rfl,h,Le.r,hS,(m29.up le59)⟩ ?_
  rintro n_1 _ t w9 ⟨μ3,i78,i79,i80,i81,i82,i83,i84,l87,v85,cs86,rfl,h,le97,hS,m98⟩
  cases n_1 with
  | zero=>cases h
  | succ n_1 =>
  unfold vm_call_l1 at h
  refine cnrm (mK50 (mK10 (mi (mO4 mz)))) (nz (st (ny ?_)))
  refine cifd (et (k60 d1)) (fun h99=>?_) (fun h99=>?_)
  ·replace h:=iT h99 h
   refine cskip (xn (cseq (cblock (creg (st ?_)))))
   replace h:=bI h; obtain ⟨r100,g101,h⟩:=h
   replace hS:=(((hS.bg Y4).bg Y4).bg Y3).bg Y3
   refine ca (vm_push_w (hg.t (le59.t le97)) m98 g101 hS) ?_
   rintro _ w10 ⟨μ4,v103,cs104,rfl,le102,hS,m105⟩
   refine po (wnil ?_)
   refine (fun h=>bn (xn h)) ?_
   refine creg ?_
   replace h:=bI h; obtain ⟨i106,g107,h⟩:=h
   refine wl (s_addc (et (k60 d0)) ec g107 (dt (q60 p4)) (st (wnil (xl ?_))))
   replace hS:=((((hS.bg Y3).bg Y3).bg Y4).bg Y4).bg Y4
   exact ⟨n_1,_,_,rfl,(aK50 (aK10 (aI (aO4 aZ)))),⟨_,i106,r100.1,r100.2.1,r100.2.2.1,r100.2.2.2.2.1,r100.2.2.2.2.2.1,r100.2.2.2.2.2.2,r100.2.2.2.1,v103,cs104,rfl,h,(le97.t le102),hS,m105⟩,Nat.lt_succ_self _⟩
  ·replace h:=iF h99 h
   refine cexit ?_
   refine (fun h=>xe (xe (bh h))) ?_
   obtain rfl:=Option.some.inj h
   refine end0 rfl ?_
   exact ⟨_,_,((cs23++[.int .i64 p_2,.int .i64 0,.int .i64 i53]):List Value),_,_,rfl,(le59.t le97),hS,(m64.up le97),m98⟩
theorem vm_end_w (hg:Le Gm μ0) {stat_5 box_6 trap_7 stat_10:Int} {l_13:List Int} {live_17 min_18 most_19:Int} {r:Int×Int×Int×Int×List Int×Int×Int×Int} (m16:Rw μ0 cs15 l_13) (h:vm_end stat_5 box_6 trap_7 stat_10 l_13 live_17 min_18 most_19=some r) (hS:Sq μ0 w0 w (.blk b1 71 [v2,v3,v4,.pointer (some ⟨b9,0,none⟩),.int .i64 stat_5,.int .i64 box_6,.int .i64 trap_7,v8,.nilFunc]::.blk b9 116 [.int .i64 stat_10,.pointer none,v11,.pointer (some ⟨b12,0,none⟩)]::.blk b12 182 [v14,.int .i64 live_17,.int .i64 min_18,.int .i64 most_19]::.row v14 2 1 l_13.length cs15::rsF)):CallsV prog 93 [.pointer (some ⟨b1,0,none⟩)] w (fun v w'=>∃ (μ':M) (v20:Value) (cs21:List Value),v=.tuple ⟨[]⟩∧Le μ0 μ'∧Sq μ' w0 w' (.blk b1 71 [v2,v3,v4,.pointer (some ⟨b9,0,none⟩),.int .i64 r.1,.int .i64 r.2.1,.int .i64 r.2.2.1,v8,.nilFunc]::.blk b9 116 [.int .i64 r.2.2.2.1,.pointer none,v11,.pointer (some ⟨b12,0,none⟩)]::.blk b12 182 [v20,.int .i64 r.2.2.2.2.2.1,.int .i64 r.2.2.2.2.2.2.1,.int .i64 r.2.2.2.2.2.2.2]::.row v20 2 1 r.2.2.2.2.1.length cs21::rsF)∧Rw μ' cs21 r.2.2.2.2.1):=by
 unfold vm_end at h
 refine enter func93 rfl (frm:=_::u1 (u10 (u20 []))) rfl (nz ?_)
 iterate 3 refine st ?_
 refine ld ((hS.blk d0).cell d3) (st (nx ?_))
 iterate 3 refine st ?_
 refine wl (s_store1 ti3 (et d9) ec rfl hS d1 p0 rfl p1 dn ?_)
 clear hS; intro w1 hS
 refine ny (nz ?_)
 iterate 3 refine st ?_
 refine ld ((hS.blk d1).cell d1) (wl (s_nilpeql underlying68 (et (k10 d3)) (dt (q10 p4)) (nw (cift (et (k10 d4)) (nz ?_)))))
 iterate 3 refine st ?_
 refine wl (s_store1 ti3 (et (k10 d7)) ec rfl hS d0 p4 rfl p0 dn ?_)
 clear hS; intro w2 hS
 refine nx (st ?_)
 replace h:=bI h; obtain ⟨r23,g24,h⟩:=h
 refine ca (vm_tell_w hg g24 hS) ?_
 rintro _ w3 ⟨μ1,rfl,le25,hS⟩
 refine po (nw (cret (xr ?_)))
 obtain rfl:=Option.some.inj h
 refine ret0 rfl ?_
 exact ⟨_,_,_,rfl,le25,hS,(m16.up le25)⟩
theorem vm_units_w (hg:Le Gm μ0) {m_2:TModule} {stat_14 box_15 trap_16 stat_19:Int} {fram_20:List TVmFrame} {l_25:List Int} {live_29 min_30 most_31:Int} {p_2:TInstr} {r:Int×Int×Int×Int×List TVmFrame×List Int×Int×Int×Int} (m7:Sl μ0 a5 c6 m_2.Boxes) (m10:Sl μ0 a8 c9 m_2.Units) (m11:At μ0 b3 o4 [.slice a5 m_2.Boxes.length c6,.slice a8 m_2.Units.length c9]) (m23:Rw μ0 cs22 fram_20) (m28:Rw μ0 cs27 l_25) (h:vm_units m_2 stat_14 box_15 trap_16 stat_19 fram_20 l_25 live_29 min_30 most_31 p_2=some r) (hS:Sq μ0 w0 w (.blk b1 71 [.pointer (some ⟨b3,o4,none⟩),v12,v13,.pointer (some ⟨b18,0,none⟩),.int .i64 stat_14,.int .i64 box_15,.int .i64 trap_16,v17,.nilFunc]::.blk b18 116 [.int .i64 stat_19,.pointer none,v21,.pointer (some ⟨b24,0,none⟩)]::.row v21 119 3 fram_20.length cs22::.blk b24 182 [v26,.int .i64 live_29,.int .i64 min_30,.int .i64 most_31]::.row v26 2 1 l_25.length cs27::rsF)):CallsV prog 52 [.pointer (some ⟨b1,0,none⟩),.agg ⟨[.int .i64 p_2.Op,.int .i64 p_2.A,.int .i64 p_2.N]⟩] w (fun v w'=>∃ (μ':M) (v32:Value) (cs33:List Value) (v35:Value) (cs36:List Value),v=.tuple ⟨[]⟩∧Le μ0 μ'∧Sq μ' w0 w' (.blk b1 71 [.pointer (some ⟨b3,o4,none⟩),v12,v13,.pointer (some ⟨b18,0,none⟩),.int .i64 r.1,.int .i64 r.2.1,.int .i64 r.2.2.1,v17,.nilFunc]::.blk b18 116 [.int .i64 r.2.2.2.1,.pointer none,v32,.pointer (some ⟨b24,0,none⟩)]::.row v32 119 3 r.2.2.2.2.1.length cs33::.blk b24 182 [v35,.int .i64 r.2.2.2.2.2.2.1,.int .i64 r.2.2.2.2.2.2.2.1,.int .i64 r.2.2.2.2.2.2.2.2]::.row v35 2 1 r.2.2.2.2.2.1.length cs36::rsF)∧Rw μ' cs33 r.2.2.2.2.1∧Rw μ' cs36 r.2.2.2.2.2.1):=by
 unfold vm_units at h
 refine enter func52 rfl (frm:=_::_::u2 (u2 (u5 (u20 (u50 (u50 (u50 []))))))) rfl (nz ?_)
 refine wl (s_box (et d1) rfl hS ?_); clear hS; intro b38 w1 hb39 hS; refine po ?_
 refine nx (st (ld ((hS.blk d0).cell d0) (nw (cblock (nz ?_)))))
 iterate 2 refine st ?_
 refine nw ?_
 refine cifd (et (k10 d4)) (fun h40=>?_) (fun h40=>?_)
 ·replace h:=iT h40 h
  refine creg ?_
  iterate 2 refine st ?_
  refine ld ((hS.blk d0).cell d1) ?_
  replace h:=bI h; obtain ⟨r41,g42,h⟩:=h
  replace hS:=((((hS.bg Y5).bg Y5).bg Y5).bg Y5).bg Y5
  refine ca (vm_call_w hg m7 m10 m11 m23 m28 g42 hS) ?_
  rintro _ w2 ⟨μ1,v44,cs45,v47,cs48,rfl,le43,hS,m46,m49⟩
  refine po (wnil (bn ?_))
  obtain rfl:=Option.some.inj h
  refine end0 rfl ?_
  replace hS:=hS.drop (Rm.s (Rm.s (Rm.s (Rm.s (Rm.s Rm.z)))))
  exact ⟨_,_,_,_,_,rfl,le43,hS,m46,m49⟩
 ·replace h:=iF h40 h
  refine nz ?_
  iterate 2 refine st ?_
  refine nw ?_
  refine cifd (et (k20 d0)) (fun h50=>?_) (fun h50=>?_)
  ·replace h:=iT h50 h
   refine nz (st ?_)
   replace h:=bI h; obtain ⟨r51,g52,h⟩:=h
   replace hS:=(((hS.bg Y5).bg Y5).bg Y4).bg Y4
   refine ca (vm_pop_w hg m28 g52 hS) ?_
   rintro _ w3 ⟨μ2,v54,cs55,rfl,le53,hS,m56⟩
   refine po (st (nx ?_))
   iterate 3 refine st ?_
   refine ld ((hS.blk d0).cell d3) (st (ny ?_))
   refine ccutE (List.range' 28 12) (by decide) (fun m w=>∃ μx b57 i58 i59 i60,m=(yK6 (.i (.pointer (some ⟨b57,0,none⟩))::(yK20 (yK1 (yO10 28 (yO2 38 []))))))∧vm_units_j1 stat_19 fram_20 r51 i58 i59 i60=some r∧Le μ2 μx∧Sq μx w0 w (.blk b1 71 [.pointer (some ⟨b3,o4,none⟩),v12,v13,.pointer (some ⟨b18,0,none⟩),.int .i64 r51.2.1,.int .i64 r51.2.2.1,.int .i64 r51.2.2.2.1,v17,.nilFunc]::.blk b18 116 [.int .i64 stat_19,.pointer none,v21,.pointer (some ⟨b24,0,none⟩)]::.row v21 119 3 fram_20.length cs22::.blk b24 182 [v54,.int .i64 r51.2.2.2.2.2.1,.int .i64 r51.2.2.2.2.2.2.1,.int .i64 r51.2.2.2.2.2.2.2]::.row v54 2 1 r51.2.2.2.2.1.length cs55::.blk b57 119 [.int .i64 i58,.int .i64 i59,.int .i64 i60]::rsF)) (by rintro _ _ ⟨_,_,_,_,_,rfl,_⟩; rfl) ?_ ?_
   ·refine cdraw (by kernel_rfl) rfl fun w4 hh_ ho_ ht_ hu_=>?_
    replace hS:=hS.drew hh_ ho_ ht_ hu_
    refine sf_start (fpi 0 [0,1,2,3,10,11,13] rfl (fpi 1 [1,2,3,10,11,13] rfl (fpi 2 [2,3,10,11,13] rfl (fr_ 3 [3,10,11,13] rfl (u_load ti113 (et (k30 d0)) ((hS.blk d1).cell d2)) (q30 p1) (fpi 4 [4,5,6,7,8,9,10,11,13] rfl (fpi 5 [5,6,7,8,9,10,11,13] rfl (fpi 6 [6,7,8,9,10,11,13] rfl (fr_ 7 [7,8,9,10,11,13] rfl (u_load ti113 (et (k30 d4)) ((hS.blk d1).cell d2)) (q30 p5) ?_))))))))
    refine sf2 (i:=8) (j:=12) rfl rfl rfl rfl rfl rfl rfl (wanted_0 rfl) (wanted_0 rfl) ?_ ?_
    ·refine id (s_lenv underlying113 (et (k30 d5)) (hS.get d5).isSl (dt (q30 p6)) ?_)
     refine ⟨(Mons.s (u_load ti113 (et (k30 d0)) ((hS.blk d1).cell d2)) Mons.z),?_⟩
     replace h:=bI h; obtain ⟨i61,g62,h⟩:=h
     refine fp 9 [9,10,11,13] rfl (u_subc (et (k30 d6)) ec g62) (q30 p7) ?_
     replace h:=bI h; obtain ⟨x63,g64,h⟩:=h
     obtain ⟨b65,o66,pc67,cs68,sc69,ec70,e71,f72,m73,pn74,st75,m76⟩:=Row.elemS (α:=TVmFrame) (hS.get d5) (m23.up le53) rfl g64
     rw [ec70] at hS
     obtain rfl:=m73
     refine fp 10 [10,11,13] rfl (u_iax underlying113 ti119 (et (k30 d1)) (et (k30 d7)) e71) (q30 p8) (fr_ 11 [11,13] rfl (u_loads ti119 (et (k30 d8)) (f72 _ _ _ (hS.get d5) rfl) rfl) (q30 p9) ?_)
     refine sf1 rfl rfl rfl rfl (wanted_0 rfl) (s_alloc ti119 hS ?_); clear hS; intro b77 w5 hb78 hS; refine po ?_
     refine ⟨(Mons.s (u_loads ti119 (et (k30 d8)) (f72 _ _ _ (hS.get d6) rfl) rfl) (Mons.s (u_load ti113 (et (k30 d0)) ((hS.blk d2).cell d2)) Mons.z)),?_⟩
     refine sf1 rfl rfl rfl rfl (wanted_0 rfl) (s_storeA ti119 (et d6) (et (k30 d9)) rfl rfl hS d0 rfl p0 dn ?_)
     clear hS; intro w6 hS
     refine ⟨Mons.z,?_⟩
     refine sf_nil (xl ?_)
     rw [← ec70] at hS
     replace hS:=(((((hS.drop (Rm.s (Rm.s (Rm.s (Rm.s (Rm.s Rm.z)))))).bg Y4).bg Y4).bg Y5).bg Y5).bg Y5
     exact ⟨_,_,rfl,(aK6 (aI (aK20 (aK1 (aO10 (aO2 aZ)))))),_,_,x63.unit,x63.pc,x63.base,rfl,h,Le.r,hS⟩
    ·replace h:=bI h; obtain ⟨i61,g62,h⟩:=h
     replace h:=bI h; obtain ⟨x63,g64,h⟩:=h
     refine id (s_alloc ti119 hS ?_); clear hS; intro b79 w7 hb80 hS; refine po ?_
     refine ⟨(Mons.s (u_load ti113 (et (k30 d4)) ((hS.blk d2).cell d2)) (Mons.s (u_load ti113 (et (k30 d0)) ((hS.blk d2).cell d2)) Mons.z)),?_⟩
     refine sf1 rfl rfl rfl rfl (wanted_0 rfl) (s_lenv underlying113 (et (k30 d5)) (hS.get d6).isSl (dt (q30 p6)) ?_)
     refine ⟨(Mons.s (u_load ti113 (et (k30 d0)) ((hS.blk d2).cell d2)) Mons.z),?_⟩
     refine fp 9 [9,10,11,13] rfl (u_subc (et (k30 d6)) ec g62) (q30 p7) ?_
     obtain ⟨b81,o82,pc83,cs84,sc85,ec86,e87,f88,m89,pn90,st91,m92⟩:=Row.elemS (α:=TVmFrame) (hS.get d6) (m23.up le53) rfl g64
     rw [ec86] at hS
     obtain rfl:=m89
     refine fp 10 [10,11,13] rfl (u_iax underlying113 ti119 (et (k30 d1)) (et (k30 d7)) e87) (q30 p8) (fr_ 11 [11,13] rfl (u_loads ti119 (et (k30 d8)) (f88 _ _ _ (hS.get d6) rfl) rfl) (q30 p9) (sf1 rfl rfl rfl rfl (wanted_0 rfl) (s_storeA ti119 (et d6) (et (k30 d9)) rfl rfl hS d0 rfl p0 dn ?_)))
     clear hS; intro w8 hS
     refine ⟨Mons.z,?_⟩
     refine sf_nil (xl ?_)
     rw [← ec86] at hS
     replace hS:=(((((hS.drop (Rm.s (Rm.s (Rm.s (Rm.s (Rm.s Rm.z)))))).bg Y4).bg Y4).bg Y5).bg Y5).bg Y5
     exact ⟨_,_,rfl,(aK6 (aI (aK20 (aK1 (aO10 (aO2 aZ)))))),_,_,x63.unit,x63.pc,x63.base,rfl,h,Le.r,hS⟩
   ·rintro _ t w9 ⟨μ3,b57,i58,i59,i60,rfl,h,le93,hS⟩
    unfold vm_units_j1 at h
    refine nrm (mK6 (mi (mK20 (mK1 (mO10 (mO2 mz)))))) (xn (cseq ?_))
    refine ccutE (List.range' 40 14) (by decide) (fun m w=>∃ μx l96 v94 cs95,m=(yK20 (yK20 (yO10 40 (yO4 50 []))))∧vm_units_j2 stat_19 r51 i60 l96=some r∧Le μ3 μx∧Sq μx w0 w (.blk b1 71 [.pointer (some ⟨b3,o4,none⟩),v12,v13,.pointer (some ⟨b18,0,none⟩),.int .i64 r51.2.1,.int .i64 r51.2.2.1,.int .i64 r51.2.2.2.1,v17,.nilFunc]::.blk b18 116 [.int .i64 stat_19,.pointer none,v94,.pointer (some ⟨b24,0,none⟩)]::.row v94 119 3 l96.length cs95::.blk b24 182 [v54,.int .i64 r51.2.2.2.2.2.1,.int .i64 r51.2.2.2.2.2.2.1,.int .i64 r51.2.2.2.2.2.2.2]::.row v54 2 1 r51.2.2.2.2.1.length cs55::.blk b57 119 [.int .i64 i58,.int .i64 i59,.int .i64 i60]::rsF)∧Rw μx cs95 l96) (by rintro _ _ ⟨_,_,_,_,rfl,_⟩; rfl) ?_ ?_
    ·refine cdraw (by kernel_rfl) rfl fun w10 hh_ ho_ ht_ hu_=>?_
     replace hS:=hS.drew hh_ ho_ ht_ hu_
     refine sf_start (fpi 0 [0,12,13,14] rfl (fpi 1 [1,2,3,4,11,12,13,14] rfl (fpi 2 [2,3,4,11,12,13,14] rfl (fpi 3 [3,4,11,12,13,14] rfl (fr_ 4 [4,11,12,13,14] rfl (u_load ti113 (et (k40 d3)) ((hS.blk d1).cell d2)) (q40 p4) (fpi 5 [5,6,7,8,9,10,11,12,13,14] rfl (fpi 6 [6,7,8,9,10,11,12,13,14] rfl (fpi 7 [7,8,9,10,11,12,13,14] rfl (fr_ 8 [8,9,10,11,12,13,14] rfl (u_load ti113 (et (k40 d7)) ((hS.blk d1).cell d2)) (q40 p8) (sf1 rfl rfl rfl rfl (wanted_0 rfl) (s_lenv underlying113 (et (k40 d8)) (hS.get d2).isSl (dt (q40 p9)) ?_)))))))))))
     refine ⟨(Mons.s (u_load ti113 (et (k40 d3)) ((hS.blk d1).cell d2)) Mons.z),?_⟩
     replace h:=bI h; obtain ⟨i98,g99,h⟩:=h
     refine fp 10 [10,11,12,13,14] rfl (u_subc (et (k40 d9)) ec g99) (q50 p0) ?_
     replace h:=bI h; obtain ⟨l100,g101,h⟩:=h
     obtain ⟨v102,cs107,e103,hb104,hr105,m106⟩:=Row.cutT (α:=TVmFrame) (hS.get d2) (m23.up (le53.t le93)) g101
     replace hS:=hS.reRow d2 hb104 hr105 p2
     refine fp 11 [11,12,13,14] rfl (u_slc underlying113 ti119 (et (k40 d4)) .n (.s (et (k50 d0))) e103) (q50 p1) (fpi 12 [12,13,14] rfl (fpi 13 [13,14] rfl (sf1 rfl rfl rfl rfl (wanted_0 rfl) (s_store1 ti113 (et (k50 d3)) (et (k50 d1)) (hS.get d2).cellV hS d1 p2 rfl p1 dn ?_))))
     clear hS; intro w11 hS
     refine ⟨Mons.z,?_⟩
     refine sf_nil (xl ?_)
     exact ⟨_,_,rfl,(aK20 (aK20 (aO10 (aO4 aZ)))),_,_,_,_,rfl,h,Le.r,hS,m106⟩
    ·rintro _ t w12 ⟨μ4,l96,v94,cs95,rfl,h,le108,hS,m109⟩
     unfold vm_units_j2 at h
     refine nrm (mK20 (mK20 (mO10 (mO4 mz)))) (xn (cseq ?_))
     refine ccutE (List.range' 54 13) (by decide) (fun m w=>∃ μx i110 i111 i112 l115 v113 cs114,m=(yK50 (yK4 (yO10 54 (yO3 64 []))))∧vm_units_j3 stat_19 r51 l96 i110 i111 i112 l115=some r∧Le μ4 μx∧Sq μx w0 w (.blk b1 71 [.pointer (some ⟨b3,o4,none⟩),v12,v13,.pointer (some ⟨b18,0,none⟩),.int .i64 r51.2.1,.int .i64 r51.2.2.1,.int .i64 r51.2.2.2.1,v17,.nilFunc]::.blk b18 116 [.int .i64 stat_19,.pointer none,v94,.pointer (some ⟨b24,0,none⟩)]::.row v94 119 3 l96.length cs95::.blk b24 182 [v113,.int .i64 i110,.int .i64 i111,.int .i64 i112]::.row v113 2 1 l115.length cs114::rsF)∧Rw μx cs114 l115) (by rintro _ _ ⟨_,_,_,_,_,_,_,rfl,_⟩; rfl) ?_ ?_
     ·refine cdraw (by kernel_rfl) rfl fun w13 hh_ ho_ ht_ hu_=>?_
      replace hS:=hS.drew hh_ ho_ ht_ hu_
      refine sf_start (fpi 0 [0,1,2,3,12] rfl (fpi 1 [1,2,3,12] rfl (fpi 2 [2,3,12] rfl (fr_ 3 [3,12] rfl (u_load ti114 (et (k50 d6)) ((hS.blk d1).cell d3)) (q50 p7) (fpi 4 [4,5,6,7,8,11,12] rfl (fpi 5 [5,6,7,8,11,12] rfl (fpi 6 [6,7,8,11,12] rfl (fr_ 7 [7,8,11,12] rfl (u_load ti114 (et (k60 d0)) ((hS.blk d1).cell d3)) (q60 p1) (fpi 9 [9,10,11,12] rfl (fr_ 10 [10,11,12] rfl (u_load ti3 (et (k60 d3)) ((hS.blk d5).cell d2)) (q60 p4) ?_))))))))))
      replace h:=bI h; obtain ⟨r117,g118,h⟩:=h
      replace hS:=hS.bg Y3
      refine sf1 rfl rfl rfl rfl (wanted_0 rfl) (s_callv isfn89 ef (e1 (et (k60 d1)) e0) (st_live_w (hg.t (le53.t (le93.t le108))) g118 hS) ?_)
      rintro _ w14 ⟨μ5,rfl,le119,hS⟩
      refine po ?_
      refine ⟨(Mons.s (u_load ti3 (et (k60 d3)) ((hS.blk d5).cell d2)) (Mons.s (u_load ti114 (et (k50 d6)) ((hS.blk d2).cell d3)) Mons.z)),?_⟩
      replace h:=bI h; obtain ⟨i120,g121,h⟩:=h
      refine fp 11 [11,12] rfl (u_subc (et (k60 d2)) (et (k60 d4)) g121) (q60 p5) ?_
      replace h:=bI h; obtain ⟨r122,g123,h⟩:=h
      replace hS:=(hS.bg Y4).bg Y1
      refine sf1 rfl rfl rfl rfl (wanted_0 rfl) (s_callv isfn90 ef (e1 (et (k50 d7)) (e1 (et (k60 d5)) e0)) (st_pop_w (hg.t (le53.t (le93.t (le108.t le119)))) (m56.up (le93.t (le108.t le119))) g123 hS) ?_)
      rintro _ w15 ⟨μ6,v125,cs126,rfl,le124,hS,m127⟩
      refine po ?_
      refine ⟨Mons.z,?_⟩
      refine sf_nil (xl ?_)
      replace hS:=(((((hS.drop (Rm.s (Rm.s (Rm.s (Rm.s (Rm.s Rm.z)))))).bg Y1).bg Y1).bg Y4).bg Y4).bg Y4
      exact ⟨_,_,rfl,(aK50 (aK4 (aO10 (aO3 aZ)))),_,r122.2.1,r122.2.2.1,r122.2.2.2,r122.1,_,_,rfl,h,(le119.t le124),hS,m127⟩
     ·rintro _ t w16 ⟨μ7,i110,i111,i112,l115,v113,cs114,rfl,h,le128,hS,m129⟩
      unfold vm_units_j3 at h
      refine nrm (mK50 (mK4 (mO10 (mO3 mz)))) (xn (creg ?_))
      iterate 2 refine st ?_
      replace h:=bI h; obtain ⟨r130,g131,h⟩:=h
      replace hS:=(((hS.bg Y4).bg Y4).bg Y3).bg Y3
      refine ca (vm_push_w (hg.t (le53.t (le93.t (le108.t le128)))) m129 g131 hS) ?_
      rintro _ w17 ⟨μ8,v133,cs134,rfl,le132,hS,m135⟩
      refine po (wnil (bn ?_))
      obtain rfl:=Option.some.inj h
      refine end0 rfl ?_
      replace hS:=((((hS.bg Y3).bg Y3).bg Y4).bg Y4).bg Y4
      exact ⟨_,_,_,_,_,rfl,(le53.t (le93.t (le108.t (le128.t le132)))),hS,(m109.up (le128.t le132)),m135⟩
  ·replace h:=iF h50 h
   refine nz ?_
   iterate 2 refine st ?_
   refine nw ?_
   refine cifd (et (k70 d0)) (fun h136=>?_) (xF h)
   replace h:=iT h136 h
   refine creg (st ?_)
   replace h:=bI h; obtain ⟨r137,g138,h⟩:=h
   replace hS:=(((hS.bg Y5).bg Y5).bg Y4).bg Y4
   refine ca (vm_end_w hg m28 g138 hS) ?_
   rintro _ w18 ⟨μ9,v140,cs141,rfl,le139,hS,m142⟩
   refine po (wnil (bn ?_))
   obtain rfl:=Option.some.inj h
   refine end0 rfl ?_
   replace hS:=(((((hS.drop (Rm.s (Rm.s (Rm.s (Rm.s Rm.z))))).bg Y3).bg Y3).bg Y4).bg Y4).bg Y4
   exact ⟨_,_,_,_,_,rfl,le139,hS,(m23.up le139),m142⟩
end Go.Proofs.YtegmgfljdeabeaaGreatDoor
