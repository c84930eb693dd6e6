/- The shelf: texts of ShelfCollatz Wl. -/
import Derived.Test.YtaenlbapejigbaaGreatDoorCXu
import Derived.Test.YtaenlbapejigbaaGreatDoorCPl
import Derived.Test.YtaenlbapejigbaaGreatDoorCWd
set_option linter.unusedSimpArgs false
set_option linter.unusedVariables false
set_option linter.unusedSectionVars false
set_option maxRecDepth 100000
set_option maxHeartbeats 20000000
namespace Go.Proofs.YtaenlbapejigbaaGreatDoor
open Go.Wk Go.Xt Go.Y Tryz
variable {c2 c5 fu:Nat} {a1 a4:Option Addr} {μ0:M} {w0 w:World} {rsF:List Res}
theorem r9_same_w (hg:Le Gm μ0) {p_1 p_2:List Int} {r:Bool} (m3:Sl μ0 a1 c2 p_1) (m6:Sl μ0 a4 c5 p_2) (h:r9_same p_1 p_2=some r) (hS:Sq μ0 w0 w (rsF)):CallsV prog 17 [.slice a1 p_1.length c2,.slice a4 p_2.length c5] w (fun v w'=>∃ (μ':M) ,v=.bool r∧Le μ0 μ'∧Sq μ' w0 w' (rsF)):=by
 unfold r9_same at h
 refine enter func17 rfl (frm:=_::_::u2 (u2 (u20 []))) rfl (nz (st (ny (nz (st (wl (su (u_lensl underlying22 (et d6)) (dt p7) (st (wl (su (u_lensl underlying22 (et d8)) (dt p9) (st (nw ?_))))))))))))
 refine cifd (et (k10 d0)) (fun h7=>?_) (fun h7=>?_)
 ·replace h:=iT h7 h
  refine nz (st (nw (cret (xr ?_))))
  obtain rfl:=oI h
  refine ret1 rfl d4 ?_
  exact ⟨_,rfl,Le.r,hS⟩
 ·replace h:=iF h7 h
  refine cskip (xn (cseq (nz (st (wl (su (u_lensl underlying22 (et (k10 d1))) (dt (q10 p2)) (st (nw (cblock ?_)))))))))
  refine cloopE (rg 4 2++rg 14 12) (by decide) (fun n m w=>∃ μx i26,m=(yK4 (yO2 4 (yK7 (.i (.int .i64 i26)::(yO10 14 (yO2 24 []))))))∧r9_same_l1 p_1 p_2 n i26=some r∧Le μ0 μx∧Sq μx w0 w (rsF)) (by rintro _ _ _ ⟨_,_,rfl,_⟩; rfl) _ _ (aK4 (aO2 (aK7 (aI (aO10 (aO2 aZ)))))) ⟨_,0,rfl,h,Le.r,hS⟩ ?_
  rintro n_1 _ t w1 ⟨μ1,i26,rfl,h,le45,hS⟩
  cases n_1 with
  | zero=>cases h
  | succ n_1 =>
  unfold r9_same_l1 at h
  refine cnrm (mK4 (mO2 (mK7 (mi (mO10 (mO2 mz)))))) (nz (st (ny ?_)))
  refine cifd (et (k10 d4)) (fun h46=>?_) (fun h46=>?_)
  ·replace h:=iT h46 h
   refine cskip (xn (cseq (cblock (nz ?_))))
   iterate 2 refine st ?_
   refine ny ?_
   refine cdw hS ?_; clear hS; intro w2 hS
   refine cpi 0 rfl (cpi 1 rfl ?_)
   obtain ⟨x47,g48,h⟩:=bI h
   obtain ⟨b49,o50,cs51,e52,f53,m54⟩:=SlR.elem (m3.up le45) g48
   obtain rfl:=m54
   refine cp 2 rfl (u_iax underlying22 ti2 (et (k10 d6)) (et (k10 d7)) e52) (q10 p8) (cpi 4 rfl (cpi 5 rfl ?_))
   obtain ⟨x55,g56,h⟩:=bI h
   obtain ⟨b57,o58,cs59,e60,f61,m62⟩:=SlR.elem (m6.up le45) g56
   obtain rfl:=m62
   refine cp 6 rfl (u_iax underlying22 ti2 (et (k20 d0)) (et (k20 d1)) e60) (q20 p2) (cr 3 [3,8] rfl (u_load ti2 (et (k10 d8)) ((f53 _ hS.a).one d0)) (q10 p9) (cr 7 [7,8] rfl (u_load ti2 (et (k20 d2)) ((f61 _ hS.a).one d0)) (q20 p3) (cpi 8 rfl (nu ?_))))
   refine cifd (et (k20 d4)) (fun h63=>?_) (fun h63=>?_)
   ·replace h:=iT h63 h
    refine nz (st (nw (cret ?_)))
    refine (fun h=>br (xr (xr (br (xr h))))) ?_
    obtain rfl:=oI h
    refine ret1 rfl d4 ?_
    exact ⟨_,rfl,le45,hS⟩
   ·replace h:=iF h63 h
    refine cskip ?_
    refine (fun h=>bn (xn h)) ?_
    refine creg ?_
    obtain ⟨i65,g66,h⟩:=bI h
    refine wl (su (u_addc (et (k10 d3)) ec g66) (dt (q20 p5)) (st (wnil (xl ?_))))
    exact ⟨n_1,_,_,rfl,(aK4 (aO2 (aK7 (aI (aO10 (aO2 aZ)))))),⟨_,i65,rfl,h,le45,hS⟩,Nat.lt_succ_self _⟩
  ·replace h:=iF h46 h
   refine cexit ?_
   refine (fun h=>xe (xe (bh h))) ?_
   refine xn (nz (st (nw (cret ?_))))
   obtain rfl:=oI h
   refine ret1 rfl d4 ?_
   exact ⟨_,rfl,le45,hS⟩
theorem l12_small_w (hg:Le Gm μ0) {p_1:List Int} {p_2:Int} {r:Bool} (m3:Sl μ0 a1 c2 p_1) (h:l12_small p_1 p_2=some r) (hS:Sq μ0 w0 w (rsF)):CallsV prog 14 [.slice a1 p_1.length c2,.int .i64 p_2] w (fun v w'=>∃ (μ':M) ,v=.bool r∧Le μ0 μ'∧Sq μ' w0 w' (rsF)):=by
 unfold l12_small at h
 refine enter func14 rfl (frm:=_::_::u2 (u2 (u20 []))) rfl (nz (st (ny (nz (st (wl (su (u_lensl underlying22 (et d7)) (dt p8) (st (nw ?_)))))))))
 refine cifd (et d9) (fun h4=>?_) (fun h4=>?_)
 ·replace h:=iT h4 h
  refine nz (st (nw (cret (xr ?_))))
  obtain rfl:=oI h
  refine ret1 rfl d4 ?_
  exact ⟨_,rfl,Le.r,hS⟩
 ·replace h:=iF h4 h
  refine cskip (xn (cseq (nz (st (wl (su (u_lensl underlying22 (et (k10 d0))) (dt (q10 p1)) (st (nw (cblock ?_)))))))))
  refine cloopE ([4]++[6]++rg 13 13) (by decide) (fun n m w=>∃ μx i17,m=(yK4 (yO1 4 (yK1 (yO1 6 (yK5 (.i (.int .i64 i17)::(yO10 13 (yO3 23 []))))))))∧l12_small_l1 p_1 p_2 n i17=some r∧Le μ0 μx∧Sq μx w0 w (rsF)) (by rintro _ _ _ ⟨_,_,rfl,_⟩; rfl) _ _ (aK4 (aO1 (aK1 (aO1 (aK5 (aI (aO10 (aO3 aZ)))))))) ⟨_,0,rfl,h,Le.r,hS⟩ ?_
  rintro n_1 _ t w1 ⟨μ1,i17,rfl,h,le30,hS⟩
  cases n_1 with
  | zero=>cases h
  | succ n_1 =>
  unfold l12_small_l1 at h
  refine cnrm (mK4 (mO1 (mK1 (mO1 (mK5 (mi (mO10 (mO3 mz)))))))) (nz (st (ny ?_)))
  refine cifd (et (k10 d3)) (fun h31=>?_) (fun h31=>?_)
  ·replace h:=iT h31 h
   refine cskip (xn (cseq (cblock (nz ?_))))
   obtain ⟨x32,g33,h⟩:=bI h
   obtain ⟨b34,o35,cs36,e37,f38,m39⟩:=SlR.elem (m3.up le30) g33
   obtain rfl:=m39
   refine wl (su (u_iax underlying22 ti2 (et (k10 d0)) (et (k10 d2)) e37) (dt (q10 p4)) (ld ((f38 _ hS.a).one d0) (st (ny ?_))))
   refine ccutE (rg 16 8) (by decide) (fun m w=>∃ μx b40,m=(yK10 (yK6 (yO8 16 (.i (.bool b40)::[]))))∧l12_small_j1 i17 (l12_small_l1 p_1 p_2 n_1) b40=some r∧Le μ1 μx∧Sq μx w0 w (rsF)) (by rintro _ _ ⟨_,_,rfl,_⟩; rfl) ?_ ?_
   ·refine creg ?_
    iterate 2 refine st ?_
    refine wl (su (u_neg (et (k10 d7)) rfl) (dt (q10 p8)) ?_)
    iterate 2 refine st ?_
    refine wspd (k20 d0) (q20 p0) (q20 p0) (fun h41=>?_) (fun h41=>?_)
    ·replace h:=iT h41 h
     refine sn rfl rfl (sn rfl rfl (sn rfl rfl (st (wnil (xl ?_)))))
     exact ⟨_,_,rfl,(aK10 (aK6 (aO8 (aI aZ)))),_,true,rfl,h,Le.r,hS⟩
    ·replace h:=iF h41 h
     refine sy rfl (sy rfl (sy rfl (st (wnil (xl ?_)))))
     exact ⟨_,_,rfl,(aK10 (aK6 (aO8 (aI aZ)))),_,(decide (p_2<x32)),rfl,h,Le.r,hS⟩
   ·rintro _ t w2 ⟨μ2,b40,rfl,h,le42,hS⟩
    unfold l12_small_j1 at h
    refine nrm (mK10 (mK6 (mO8 (mi mz)))) (xn ?_)
    refine cifb (et (k20 d4)) (fun h43=>?_) (fun h43=>?_)
    ·replace h:=iT h43 h
     refine nz (st (nw (cret ?_)))
     refine (fun h=>br (xr (xr (br (xr h))))) ?_
     obtain rfl:=oI h
     refine ret1 rfl d4 ?_
     exact ⟨_,rfl,(le30.t le42),hS⟩
    ·replace h:=iF h43 h
     refine cskip ?_
     refine (fun h=>bn (xn h)) ?_
     refine creg ?_
     obtain ⟨i44,g45,h⟩:=bI h
     refine wl (su (u_addc (et (k10 d2)) ec g45) (dt (q20 p5)) (st (wnil (xl ?_))))
     exact ⟨n_1,_,_,rfl,(aK4 (aO1 (aK1 (aO1 (aK5 (aI (aO10 (aO3 aZ)))))))),⟨_,i44,rfl,h,(le30.t le42),hS⟩,Nat.lt_succ_self _⟩
  ·replace h:=iF h31 h
   refine cexit ?_
   refine (fun h=>xe (xe (bh h))) ?_
   refine xn (nz (st (nw (cret ?_))))
   obtain rfl:=oI h
   refine ret1 rfl d4 ?_
   exact ⟨_,rfl,le30,hS⟩
theorem l12_says_w (hg:Le Gm μ0) {p_1:List UInt8} {p_2:List Int} {p_3:List (List Int)} {r:Bool} (m3:Sl μ0 a1 c2 p_2) (m6:Sl μ0 a4 c5 p_3) (h:l12_says fu p_1 p_2 p_3=some r) (hS:Sq μ0 w0 w (rsF)):CallsV prog 15 [S p_1,.slice a1 p_2.length c2,.slice a4 p_3.length c5] w (fun v w'=>∃ (μ':M) ,v=.bool r∧Le μ0 μ'∧Sq μ' w0 w' (rsF)):=by
 unfold l12_says at h
 refine enter func15 rfl (frm:=_::_::_::u5 (u20 [])) rfl (nz (st (nx ?_)))
 iterate 2 refine st ?_
 obtain ⟨r7,g8,h⟩:=bI h
 refine ca (sh_ask_w hg m6 g8 hS) ?_
 rintro _ w1 ⟨μ1,a10,c11,a13,c14,a16,c17,rfl,le9,hS,m12,m15,m18⟩
 refine po ?_
 iterate 3 refine st ?_
 refine wl (s_alloc ti29 hS ?_); clear hS; intro b19 w2 hb20 hS; refine po ?_
 refine wl (s_storeA ti29 (et d7) (et (k10 d3)) rfl rfl hS d0 rfl p0 dn ?_)
 clear hS; intro w3 hS
 refine st (nx ?_)
 iterate 3 refine st ?_
 refine wspd (k10 d7) (q10 p7) (q10 p7) (fun h21=>?_) (fun h21=>?_)
 ·replace h:=iT h21 h
  refine sy rfl (wy rfl (k10 d7) (s_load ti3 (et (k10 d8)) ((hS.blk d0).cell d0) (dt (q10 p9)) (sy rfl ?_)))
  iterate 2 refine st ?_
  refine wspd (k20 d2) (q20 p2) (q20 p2) (fun h22=>?_) (fun h22=>?_)
  ·replace h:=iT h22 h
   refine sy rfl (wy rfl (k20 d2) (s_load ti22 (et (k20 d3)) ((hS.blk d0).cell d3) (dt (q20 p4)) (sy rfl ?_)))
   obtain ⟨r23,g24,h⟩:=bI h
   refine wy rfl (k20 d2) (s_callv isfn17 ef (e1 (et (k20 d4)) (e1 (et (k20 d5)) e0)) (r9_same_w (hg.t le9) m12 (m3.up le9) g24 hS) ?_)
   rintro _ w4 ⟨μ2,rfl,le25,hS⟩
   refine po ?_
   iterate 2 refine st ?_
   refine nw (cret ?_)
   obtain rfl:=oI h
   refine ret1 rfl d6 ?_
   replace hS:=hS.drop Rm.z
   exact ⟨_,rfl,(le9.t le25),hS⟩
  ·replace h:=iF h22 h
   refine sn rfl rfl (sn rfl rfl (sn rfl rfl (sn rfl rfl ?_)))
   iterate 2 refine st ?_
   refine nw (cret ?_)
   obtain rfl:=oI h
   refine ret1 rfl d6 ?_
   replace hS:=hS.drop Rm.z
   exact ⟨_,rfl,le9,hS⟩
 ·replace h:=iF h21 h
  refine sn rfl rfl (sn rfl rfl (sn rfl rfl ?_))
  iterate 2 refine st ?_
  refine sn rfl rfl (sn rfl rfl (sn rfl rfl (sn rfl rfl ?_)))
  iterate 2 refine st ?_
  refine nw (cret ?_)
  obtain rfl:=oI h
  refine ret1 rfl d6 ?_
  replace hS:=hS.drop Rm.z
  exact ⟨_,rfl,le9,hS⟩
theorem law_collatz_w (hg:Le Gm μ0) {p_1:List Int} {r:Bool} (m3:Sl μ0 a1 c2 p_1) (h:law_collatz fu p_1=some r) (hS:Sq μ0 w0 w (rsF)):CallsV prog 10 [.slice a1 p_1.length c2] w (fun v w'=>∃ (μ':M) ,v=.bool r∧Le μ0 μ'∧Sq μ' w0 w' (rsF)):=by
 unfold law_collatz at h
 refine enter func10 rfl (frm:=_::u5 (u20 (u20 []))) rfl (nz (st (ny (cseq ?_))))
 refine ccutE (rg 7 7) (by decide) (fun m w=>∃ μx b4,m=(yK7 (yO7 7 (.i (.bool b4)::[])))∧law_collatz_j1 fu p_1 b4=some r∧Le μ0 μx∧Sq μx w0 w (rsF)) (by rintro _ _ ⟨_,_,rfl,_⟩; rfl) ?_ ?_
 ·refine creg (st (wl (su (u_lensl underlying22 (et d7)) (dt p8) ?_)))
  iterate 2 refine st ?_
  refine wspd (k10 d0) (q10 p0) (q10 p0) (fun h5=>?_) (fun h5=>?_)
  ·replace h:=iT h5 h
   refine sn rfl rfl (sn rfl rfl (sn rfl rfl (st (wnil (xl ?_)))))
   exact ⟨_,_,rfl,(aK7 (aO7 (aI aZ))),_,true,rfl,h,Le.r,hS⟩
  ·replace h:=iF h5 h
   refine sy rfl ?_
   obtain ⟨r6,g7,h⟩:=bI h
   refine wy rfl (k10 d0) (s_callv isfn14 ef (e1 (et (k10 d1)) (e1 ec e0)) (l12_small_w hg m3 g7 hS) ?_)
   rintro _ w1 ⟨μ1,rfl,le8,hS⟩
   refine po (sy rfl (st (wnil (xl ?_))))
   exact ⟨_,_,rfl,(aK7 (aO7 (aI aZ))),_,(!r6),rfl,h,le8,hS⟩
 ·rintro _ t w2 ⟨μ2,b4,rfl,h,le9,hS⟩
  unfold law_collatz_j1 at h
  refine nrm (mK7 (mO7 (mi mz))) (xn ?_)
  refine cifb (et (k10 d4)) (fun h10=>?_) (fun h10=>?_)
  ·replace h:=iT h10 h
   refine nz (st (nw (cret (xr ?_))))
   obtain rfl:=oI h
   refine ret1 rfl d2 ?_
   exact ⟨_,rfl,le9,hS⟩
  ·replace h:=iF h10 h
   refine cskip (xn (nz (st (ny (nz (st (wl (su (u_lensl underlying22 (et (k10 d5))) (dt (q10 p6)) (st (nw (cblock ?_)))))))))))
   replace hS:=hS.nilRow 2 (Mo.sz Int)
   refine cloopE (rg 5 2++rg 18 24) (by decide +kernel) (fun n m w=>∃ μx i53 l56 v54 cs55,m=(yK3 (.i (v54)::(yK1 (yO2 5 (yK10 (.i (.int .i64 i53)::(yO20 18 (yO4 38 []))))))))∧law_collatz_l1 fu p_1 n i53 l56=some r∧Le μ2 μx∧Sq μx w0 w (.row v54 2 1 l56.length cs55::rsF)∧Rw μx cs55 l56) (by rintro _ _ _ ⟨_,_,_,_,_,rfl,_⟩; rfl) _ _ (aK3 (aI (aK1 (aO2 (aK10 (aI (aO20 (aO4 aZ)))))))) ⟨_,0,[],(.slice none 0 0),[],rfl,h,Le.r,hS,Rw.nil⟩ ?_
   rintro n_1 _ t w3 ⟨μ3,i53,l56,v54,cs55,rfl,h,le98,hS,m99⟩
   cases n_1 with
   | zero=>cases h
   | succ n_1 =>
   unfold law_collatz_l1 at h
   refine cnrm (mK3 (mi (mK1 (mO2 (mK10 (mi (mO20 (mO4 mz)))))))) (nz (st (ny ?_)))
   refine cifd (et (k10 d8)) (fun h100=>?_) (fun h100=>?_)
   ·replace h:=iT h100 h
    refine cskip (xn (cseq (cblock (nz ?_))))
    obtain ⟨x101,g102,h⟩:=bI h
    obtain ⟨b103,o104,cs105,e106,f107,m108⟩:=SlR.elem (m3.up (le9.t le98)) g102
    obtain rfl:=m108
    refine wl (su (u_iax underlying22 ti2 (et (k10 d5)) (et (k10 d7)) e106) (dt (q10 p9)) (ld ((f107 _ hS.a).one d0) (st (nx (st (ny (cblock ?_)))))))
    refine cloopE (rg 21 16) (by decide) (fun n m w=>∃ μx i116 i117,m=(yK5 (.i (.int .i64 i116)::(.i (.int .i64 i117)::(yK10 (yK4 (yO10 21 (yO6 31 [])))))))∧law_collatz_l2 i53 l56 (law_collatz_l1 fu p_1 n_1) n i116 i117=some r∧Le μ3 μx∧Sq μx w0 w (.row v54 2 1 l56.length cs55::rsF)) (by rintro _ _ _ ⟨_,_,_,rfl,_⟩; rfl) _ _ (aK5 (aI (aI (aK10 (aK4 (aO10 (aO6 aZ))))))) ⟨_,x101,0,rfl,h,Le.r,hS⟩ ?_
    rintro n_2 _ t w4 ⟨μ4,i116,i117,rfl,h,le125,hS⟩
    cases n_2 with
    | zero=>cases h
    | succ n_2 =>
    unfold law_collatz_l2 at h
    refine cnrm (mK5 (mi (mi (mK10 (mK4 (mO10 (mO6 mz))))))) (cseq (cseq ?_))
    refine ccutE (rg 21 5) (by decide) (fun m w=>∃ μx b126,m=(yK20 (yK1 (yO5 21 (.i (.bool b126)::[]))))∧law_collatz_j2 i53 l56 i116 i117 (law_collatz_l1 fu p_1 n_1) (law_collatz_l2 i53 l56 (law_collatz_l1 fu p_1 n_1) n_2) b126=some r∧Le μ4 μx∧Sq μx w0 w (.row v54 2 1 l56.length cs55::rsF)) (by rintro _ _ ⟨_,_,rfl,_⟩; rfl) ?_ ?_
    ·refine creg ?_
     iterate 3 refine st ?_
     refine wspd (k20 d3) (q20 p3) (q20 p3) (fun h127=>?_) (fun h127=>?_)
     ·replace h:=iT h127 h
      refine sy rfl (sy rfl (st (wnil (xl ?_))))
      exact ⟨_,_,rfl,(aK20 (aK1 (aO5 (aI aZ)))),_,(decide (i117<1000)),rfl,h,Le.r,hS⟩
     ·replace h:=iF h127 h
      refine sn rfl rfl (sn rfl rfl (st (wnil (xl ?_))))
      exact ⟨_,_,rfl,(aK20 (aK1 (aO5 (aI aZ)))),_,false,rfl,h,Le.r,hS⟩
    ·rintro _ t w5 ⟨μ5,b126,rfl,h,le128,hS⟩
     unfold law_collatz_j2 at h
     refine nrm (mK20 (mK1 (mO5 (mi mz)))) (xn ?_)
     refine cifb (et (k20 d6)) (fun h129=>?_) (fun h129=>?_)
     ·replace h:=iT h129 h
      refine cskip (xn (cblock (cseq (nz (st ?_)))))
      obtain ⟨i130,g131,h⟩:=bI h
      refine wl (su (u_rem (et (k20 d7)) ec (remt_nz g131).1 (remt_nz g131).2) (dt (q20 p8)) (st (nw ?_)))
      refine cifd (et (k20 d9)) (fun h132=>?_) (fun h132=>?_)
      ·replace h:=iT h132 h
       refine creg (st ?_)
       obtain ⟨i133,g134,h⟩:=bI h
       refine wl (su (u_quo (et (k30 d0)) ec (quo_nz g134).1 (quo_nz g134).2) (dt (q30 p1)) (st (nw (creg (st (wl (su (u_add (et (k30 d5)) ec rfl) (dt (q30 p6)) (st (wnil ?_)))))))))
       refine (fun h=>bn (xl h)) ?_
       exact ⟨n_2,_,_,rfl,(aK5 (aI (aI (aK10 (aK4 (aO10 (aO6 aZ))))))),⟨_,i133,(w64 (i117+1)),rfl,h,(le125.t le128),hS⟩,Nat.lt_succ_self _⟩
      ·replace h:=iF h132 h
       refine creg (st (wl (su (u_mul ec (et (k30 d2)) rfl) (dt (q30 p3)) (wl (su (u_add (et (k30 d3)) ec rfl) (dt (q30 p4)) (st (nw (creg (st (wl (su (u_add (et (k30 d5)) ec rfl) (dt (q30 p6)) (st (wnil ?_)))))))))))))
       refine (fun h=>bn (xl h)) ?_
       exact ⟨n_2,_,_,rfl,(aK5 (aI (aI (aK10 (aK4 (aO10 (aO6 aZ))))))),⟨_,(w64 ((w64 (3*i116))+1)),(w64 (i117+1)),rfl,h,(le125.t le128),hS⟩,Nat.lt_succ_self _⟩
     ·replace h:=iF h129 h
      refine cexit ?_
      refine (fun h=>xe (xe (bh h))) ?_
      refine xn (creg ?_)
      iterate 2 refine st ?_
      refine wl (s_bsl underlying22 ti2 (Parts.s (et (k30 d8)) rfl Parts.z) rfl rfl hS ?_); clear hS; intro b135 w6 hb136 hS; refine po ?_
      obtain ⟨l139,g140,h⟩:=bI h
      have m141:Rw μ5 [.int .i64 i117] [i117]:=(Rw.one (α:=Int) rfl)
      have m138:=Rw.app (m99.up (le125.t le128)) m141 g140
      refine wl (s_app1 underlying22 ti2 rfl (et (k30 d7)) (et (k30 d9)) hS d1 (hS.blk d0).cells m141 rfl g140 (by decide) ?_); clear hS; intro v137 w7 rs_ hp_ hS; cases (show _=rs_ from hp_)
      replace hS:=Sep.reput hS p1; refine po ?_
      replace hS:=hS.drop Rm.z
      refine st (wnil ?_)
      refine (fun h=>bn (xn h)) ?_
      refine creg ?_
      obtain ⟨i142,g143,h⟩:=bI h
      refine wl (su (u_addc (et (k10 d7)) ec g143) (dt (q40 p1)) (st (wnil (xl ?_))))
      exact ⟨n_1,_,_,rfl,(aK3 (aI (aK1 (aO2 (aK10 (aI (aO20 (aO4 aZ)))))))),⟨_,i142,l139,v137,(cs55++[.int .i64 i117]),rfl,h,(le98.t (le125.t le128)),hS,m138⟩,Nat.lt_succ_self _⟩
   ·replace h:=iF h100 h
    refine cexit ?_
    refine (fun h=>xe (xe (bh h))) ?_
    refine xn (nz ?_)
    iterate 2 refine st ?_
    refine wl (s_bsl underlying26 ti22 (Parts.s (et (k40 d3)) rfl Parts.z) rfl rfl hS ?_); clear hS; intro b144 w8 hb145 hS; refine po ?_
    replace hS:=hS.bg Y1
    obtain ⟨μ6,a146,c147,e150,le149,m148,hq_⟩:=Sep.frzRow hS m99 rfl; clear hS
    subst e150; have hS:=hq_; clear hq_
    obtain ⟨μ7,le152,m151,hS⟩:=Sep.frzBlk (l:=([p_1]:List (List Int))) hS (Rw.one (α:=List Int) (⟨a1,c2,rfl,(m3.up (le9.t (le98.t le149)))⟩)) (Nat.le_of_ble_eq_true rfl)
    obtain ⟨r153,g154,h⟩:=bI h
    refine ca (l12_says_w (hg.t (le9.t (le98.t (le149.t le152)))) (m148.up le152) m151 g154 hS) ?_
    rintro _ w9 ⟨μ8,rfl,le155,hS⟩
    refine po (st (nw (cret ?_)))
    obtain rfl:=oI h
    refine ret1 rfl d2 ?_
    exact ⟨_,rfl,(le9.t (le98.t (le149.t (le152.t le155)))),hS⟩
end Go.Proofs.YtaenlbapejigbaaGreatDoor
