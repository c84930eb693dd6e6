/- The shelf: texts of ShelfGcd Wl. -/
import Derived.Test.YtaenlbapejigbaaGreatDoorCXu
import Derived.Test.YtaenlbapejigbaaGreatDoorCPl
import Derived.Test.YtaenlbapejigbaaGreatDoorCWd
set_option linter.unusedSimpArgs false
set_option linter.unusedVariables false
set_option linter.unusedSectionVars false
set_option maxRecDepth 100000
set_option maxHeartbeats 20000000
namespace Go.Proofs.YtaenlbapejigbaaGreatDoor
open Go.Wk Go.Xt Go.Y Tryz
variable {c2 c5 fu:Nat} {a1 a4:Option Addr} {μ0:M} {w0 w:World} {rsF:List Res}
theorem r9_same_w (hg:Le Gm μ0) {p_1 p_2:List Int} {r:Bool} (m3:Sl μ0 a1 c2 p_1) (m6:Sl μ0 a4 c5 p_2) (h:r9_same p_1 p_2=some r) (hS:Sq μ0 w0 w (rsF)):CallsV prog 17 [.slice a1 p_1.length c2,.slice a4 p_2.length c5] w (fun v w'=>∃ (μ':M) ,v=.bool r∧Le μ0 μ'∧Sq μ' w0 w' (rsF)):=by
 unfold r9_same at h
 refine enter func17 rfl (frm:=_::_::u2 (u2 (u20 []))) rfl (nz (st (ny (nz (st (wl (su (u_lensl underlying22 (et d6)) (dt p7) (st (wl (su (u_lensl underlying22 (et d8)) (dt p9) (st (nw ?_))))))))))))
 refine cifd (et (k10 d0)) (fun h7=>?_) (fun h7=>?_)
 ·replace h:=iT h7 h
  refine nz (st (nw (cret (xr ?_))))
  obtain rfl:=oI h
  refine ret1 rfl d4 ?_
  exact ⟨_,rfl,Le.r,hS⟩
 ·replace h:=iF h7 h
  refine cskip (xn (cseq (nz (st (wl (su (u_lensl underlying22 (et (k10 d1))) (dt (q10 p2)) (st (nw (cblock ?_)))))))))
  refine cloopE (rg 4 2++rg 14 12) (by decide) (fun n m w=>∃ μx i26,m=(yK4 (yO2 4 (yK7 (.i (.int .i64 i26)::(yO10 14 (yO2 24 []))))))∧r9_same_l1 p_1 p_2 n i26=some r∧Le μ0 μx∧Sq μx w0 w (rsF)) (by rintro _ _ _ ⟨_,_,rfl,_⟩; rfl) _ _ (aK4 (aO2 (aK7 (aI (aO10 (aO2 aZ)))))) ⟨_,0,rfl,h,Le.r,hS⟩ ?_
  rintro n_1 _ t w1 ⟨μ1,i26,rfl,h,le45,hS⟩
  cases n_1 with
  | zero=>cases h
  | succ n_1 =>
  unfold r9_same_l1 at h
  refine cnrm (mK4 (mO2 (mK7 (mi (mO10 (mO2 mz)))))) (nz (st (ny ?_)))
  refine cifd (et (k10 d4)) (fun h46=>?_) (fun h46=>?_)
  ·replace h:=iT h46 h
   refine cskip (xn (cseq (cblock (nz ?_))))
   iterate 2 refine st ?_
   refine ny ?_
   refine cdw hS ?_; clear hS; intro w2 hS
   refine cpi 0 rfl (cpi 1 rfl ?_)
   obtain ⟨x47,g48,h⟩:=bI h
   obtain ⟨b49,o50,cs51,e52,f53,m54⟩:=SlR.elem (m3.up le45) g48
   obtain rfl:=m54
   refine cp 2 rfl (u_iax underlying22 ti2 (et (k10 d6)) (et (k10 d7)) e52) (q10 p8) (cpi 4 rfl (cpi 5 rfl ?_))
   obtain ⟨x55,g56,h⟩:=bI h
   obtain ⟨b57,o58,cs59,e60,f61,m62⟩:=SlR.elem (m6.up le45) g56
   obtain rfl:=m62
   refine cp 6 rfl (u_iax underlying22 ti2 (et (k20 d0)) (et (k20 d1)) e60) (q20 p2) (cr 3 [3,8] rfl (u_load ti2 (et (k10 d8)) ((f53 _ hS.a).one d0)) (q10 p9) (cr 7 [7,8] rfl (u_load ti2 (et (k20 d2)) ((f61 _ hS.a).one d0)) (q20 p3) (cpi 8 rfl (nu ?_))))
   refine cifd (et (k20 d4)) (fun h63=>?_) (fun h63=>?_)
   ·replace h:=iT h63 h
    refine nz (st (nw (cret ?_)))
    refine (fun h=>br (xr (xr (br (xr h))))) ?_
    obtain rfl:=oI h
    refine ret1 rfl d4 ?_
    exact ⟨_,rfl,le45,hS⟩
   ·replace h:=iF h63 h
    refine cskip ?_
    refine (fun h=>bn (xn h)) ?_
    refine creg ?_
    obtain ⟨i65,g66,h⟩:=bI h
    refine wl (su (u_addc (et (k10 d3)) ec g66) (dt (q20 p5)) (st (wnil (xl ?_))))
    exact ⟨n_1,_,_,rfl,(aK4 (aO2 (aK7 (aI (aO10 (aO2 aZ)))))),⟨_,i65,rfl,h,le45,hS⟩,Nat.lt_succ_self _⟩
  ·replace h:=iF h46 h
   refine cexit ?_
   refine (fun h=>xe (xe (bh h))) ?_
   refine xn (nz (st (nw (cret ?_))))
   obtain rfl:=oI h
   refine ret1 rfl d4 ?_
   exact ⟨_,rfl,le45,hS⟩
theorem l12_small_w (hg:Le Gm μ0) {p_1:List Int} {p_2:Int} {r:Bool} (m3:Sl μ0 a1 c2 p_1) (h:l12_small p_1 p_2=some r) (hS:Sq μ0 w0 w (rsF)):CallsV prog 14 [.slice a1 p_1.length c2,.int .i64 p_2] w (fun v w'=>∃ (μ':M) ,v=.bool r∧Le μ0 μ'∧Sq μ' w0 w' (rsF)):=by
 unfold l12_small at h
 refine enter func14 rfl (frm:=_::_::u2 (u2 (u20 []))) rfl (nz (st (ny (nz (st (wl (su (u_lensl underlying22 (et d7)) (dt p8) (st (nw ?_)))))))))
 refine cifd (et d9) (fun h4=>?_) (fun h4=>?_)
 ·replace h:=iT h4 h
  refine nz (st (nw (cret (xr ?_))))
  obtain rfl:=oI h
  refine ret1 rfl d4 ?_
  exact ⟨_,rfl,Le.r,hS⟩
 ·replace h:=iF h4 h
  refine cskip (xn (cseq (nz (st (wl (su (u_lensl underlying22 (et (k10 d0))) (dt (q10 p1)) (st (nw (cblock ?_)))))))))
  refine cloopE ([4]++[6]++rg 13 13) (by decide) (fun n m w=>∃ μx i17,m=(yK4 (yO1 4 (yK1 (yO1 6 (yK5 (.i (.int .i64 i17)::(yO10 13 (yO3 23 []))))))))∧l12_small_l1 p_1 p_2 n i17=some r∧Le μ0 μx∧Sq μx w0 w (rsF)) (by rintro _ _ _ ⟨_,_,rfl,_⟩; rfl) _ _ (aK4 (aO1 (aK1 (aO1 (aK5 (aI (aO10 (aO3 aZ)))))))) ⟨_,0,rfl,h,Le.r,hS⟩ ?_
  rintro n_1 _ t w1 ⟨μ1,i17,rfl,h,le30,hS⟩
  cases n_1 with
  | zero=>cases h
  | succ n_1 =>
  unfold l12_small_l1 at h
  refine cnrm (mK4 (mO1 (mK1 (mO1 (mK5 (mi (mO10 (mO3 mz)))))))) (nz (st (ny ?_)))
  refine cifd (et (k10 d3)) (fun h31=>?_) (fun h31=>?_)
  ·replace h:=iT h31 h
   refine cskip (xn (cseq (cblock (nz ?_))))
   obtain ⟨x32,g33,h⟩:=bI h
   obtain ⟨b34,o35,cs36,e37,f38,m39⟩:=SlR.elem (m3.up le30) g33
   obtain rfl:=m39
   refine wl (su (u_iax underlying22 ti2 (et (k10 d0)) (et (k10 d2)) e37) (dt (q10 p4)) (ld ((f38 _ hS.a).one d0) (st (ny ?_))))
   refine ccutE (rg 16 8) (by decide) (fun m w=>∃ μx b40,m=(yK10 (yK6 (yO8 16 (.i (.bool b40)::[]))))∧l12_small_j1 i17 (l12_small_l1 p_1 p_2 n_1) b40=some r∧Le μ1 μx∧Sq μx w0 w (rsF)) (by rintro _ _ ⟨_,_,rfl,_⟩; rfl) ?_ ?_
   ·refine creg ?_
    iterate 2 refine st ?_
    refine wl (su (u_neg (et (k10 d7)) rfl) (dt (q10 p8)) ?_)
    iterate 2 refine st ?_
    refine wspd (k20 d0) (q20 p0) (q20 p0) (fun h41=>?_) (fun h41=>?_)
    ·replace h:=iT h41 h
     refine sn rfl rfl (sn rfl rfl (sn rfl rfl (st (wnil (xl ?_)))))
     exact ⟨_,_,rfl,(aK10 (aK6 (aO8 (aI aZ)))),_,true,rfl,h,Le.r,hS⟩
    ·replace h:=iF h41 h
     refine sy rfl (sy rfl (sy rfl (st (wnil (xl ?_)))))
     exact ⟨_,_,rfl,(aK10 (aK6 (aO8 (aI aZ)))),_,(decide (p_2<x32)),rfl,h,Le.r,hS⟩
   ·rintro _ t w2 ⟨μ2,b40,rfl,h,le42,hS⟩
    unfold l12_small_j1 at h
    refine nrm (mK10 (mK6 (mO8 (mi mz)))) (xn ?_)
    refine cifb (et (k20 d4)) (fun h43=>?_) (fun h43=>?_)
    ·replace h:=iT h43 h
     refine nz (st (nw (cret ?_)))
     refine (fun h=>br (xr (xr (br (xr h))))) ?_
     obtain rfl:=oI h
     refine ret1 rfl d4 ?_
     exact ⟨_,rfl,(le30.t le42),hS⟩
    ·replace h:=iF h43 h
     refine cskip ?_
     refine (fun h=>bn (xn h)) ?_
     refine creg ?_
     obtain ⟨i44,g45,h⟩:=bI h
     refine wl (su (u_addc (et (k10 d2)) ec g45) (dt (q20 p5)) (st (wnil (xl ?_))))
     exact ⟨n_1,_,_,rfl,(aK4 (aO1 (aK1 (aO1 (aK5 (aI (aO10 (aO3 aZ)))))))),⟨_,i44,rfl,h,(le30.t le42),hS⟩,Nat.lt_succ_self _⟩
  ·replace h:=iF h31 h
   refine cexit ?_
   refine (fun h=>xe (xe (bh h))) ?_
   refine xn (nz (st (nw (cret ?_))))
   obtain rfl:=oI h
   refine ret1 rfl d4 ?_
   exact ⟨_,rfl,le30,hS⟩
theorem l12_says_w (hg:Le Gm μ0) {p_1:List UInt8} {p_2:List Int} {p_3:List (List Int)} {r:Bool} (m3:Sl μ0 a1 c2 p_2) (m6:Sl μ0 a4 c5 p_3) (h:l12_says fu p_1 p_2 p_3=some r) (hS:Sq μ0 w0 w (rsF)):CallsV prog 15 [S p_1,.slice a1 p_2.length c2,.slice a4 p_3.length c5] w (fun v w'=>∃ (μ':M) ,v=.bool r∧Le μ0 μ'∧Sq μ' w0 w' (rsF)):=by
 unfold l12_says at h
 refine enter func15 rfl (frm:=_::_::_::u5 (u20 [])) rfl (nz (st (nx ?_)))
 iterate 2 refine st ?_
 obtain ⟨r7,g8,h⟩:=bI h
 refine ca (sh_ask_w hg m6 g8 hS) ?_
 rintro _ w1 ⟨μ1,a10,c11,a13,c14,a16,c17,rfl,le9,hS,m12,m15,m18⟩
 refine po ?_
 iterate 3 refine st ?_
 refine wl (s_alloc ti29 hS ?_); clear hS; intro b19 w2 hb20 hS; refine po ?_
 refine wl (s_storeA ti29 (et d7) (et (k10 d3)) rfl rfl hS d0 rfl p0 dn ?_)
 clear hS; intro w3 hS
 refine st (nx ?_)
 iterate 3 refine st ?_
 refine wspd (k10 d7) (q10 p7) (q10 p7) (fun h21=>?_) (fun h21=>?_)
 ·replace h:=iT h21 h
  refine sy rfl (wy rfl (k10 d7) (s_load ti3 (et (k10 d8)) ((hS.blk d0).cell d0) (dt (q10 p9)) (sy rfl ?_)))
  iterate 2 refine st ?_
  refine wspd (k20 d2) (q20 p2) (q20 p2) (fun h22=>?_) (fun h22=>?_)
  ·replace h:=iT h22 h
   refine sy rfl (wy rfl (k20 d2) (s_load ti22 (et (k20 d3)) ((hS.blk d0).cell d3) (dt (q20 p4)) (sy rfl ?_)))
   obtain ⟨r23,g24,h⟩:=bI h
   refine wy rfl (k20 d2) (s_callv isfn17 ef (e1 (et (k20 d4)) (e1 (et (k20 d5)) e0)) (r9_same_w (hg.t le9) m12 (m3.up le9) g24 hS) ?_)
   rintro _ w4 ⟨μ2,rfl,le25,hS⟩
   refine po ?_
   iterate 2 refine st ?_
   refine nw (cret ?_)
   obtain rfl:=oI h
   refine ret1 rfl d6 ?_
   replace hS:=hS.drop Rm.z
   exact ⟨_,rfl,(le9.t le25),hS⟩
  ·replace h:=iF h22 h
   refine sn rfl rfl (sn rfl rfl (sn rfl rfl (sn rfl rfl ?_)))
   iterate 2 refine st ?_
   refine nw (cret ?_)
   obtain rfl:=oI h
   refine ret1 rfl d6 ?_
   replace hS:=hS.drop Rm.z
   exact ⟨_,rfl,le9,hS⟩
 ·replace h:=iF h21 h
  refine sn rfl rfl (sn rfl rfl (sn rfl rfl ?_))
  iterate 2 refine st ?_
  refine sn rfl rfl (sn rfl rfl (sn rfl rfl (sn rfl rfl ?_)))
  iterate 2 refine st ?_
  refine nw (cret ?_)
  obtain rfl:=oI h
  refine ret1 rfl d6 ?_
  replace hS:=hS.drop Rm.z
  exact ⟨_,rfl,le9,hS⟩
theorem law_gcd_w (hg:Le Gm μ0) {p_1:List Int} {r:Bool} (m3:Sl μ0 a1 c2 p_1) (h:law_gcd fu p_1=some r) (hS:Sq μ0 w0 w (rsF)):CallsV prog 4 [.slice a1 p_1.length c2] w (fun v w'=>∃ (μ':M) ,v=.bool r∧Le μ0 μ'∧Sq μ' w0 w' (rsF)):=by
 unfold law_gcd at h
 refine enter func4 rfl (frm:=_::u2 (u10 (u50 []))) rfl (nz (st (ny (nz (st ?_)))))
 obtain ⟨r4,g5,h⟩:=bI h
 refine ca (l12_small_w hg m3 g5 hS) ?_
 rintro _ w1 ⟨μ1,rfl,le6,hS⟩
 refine po (st (nw ?_))
 refine cifnb (et (k10 d1)) (fun h7=>?_) (fun h7=>?_)
 ·replace h:=iF h7 h
  refine nz (st (nw (cret (xr ?_))))
  obtain rfl:=oI h
  refine ret1 rfl d2 ?_
  exact ⟨_,rfl,le6,hS⟩
 ·replace h:=iT h7 h
  refine cskip (xn (nz (st (ny (nz (st (nw (cblock ?_))))))))
  replace hS:=hS.nilRow 2 (Mo.sz Int)
  refine cloopE ([2]++rg 5 4++rg 12 47) (by decide +kernel) (fun n m w=>∃ μx i67 l70 v68 cs69,m=(yK2 (yO1 2 (.i (v68)::(.i (.int .i64 i67)::(yO4 5 (yK3 (yO20 12 (yO20 32 (yO7 52 [])))))))))∧law_gcd_l1 fu p_1 n i67 l70=some r∧Le μ1 μx∧Sq μx w0 w (.row v68 2 1 l70.length cs69::rsF)∧Rw μx cs69 l70) (by rintro _ _ _ ⟨_,_,_,_,_,rfl,_⟩; rfl) _ _ (aK2 (aO1 (aI (aI (aO4 (aK3 (aO20 (aO20 (aO7 aZ))))))))) ⟨_,0,[],(.slice none 0 0),[],rfl,h,Le.r,hS,Rw.nil⟩ ?_
  rintro n_1 _ t w2 ⟨μ2,i67,l70,v68,cs69,rfl,h,le129,hS,m130⟩
  cases n_1 with
  | zero=>cases h
  | succ n_1 =>
  unfold law_gcd_l1 at h
  refine cnrm (mK2 (mO1 (mi (mi (mO4 (mK3 (mO20 (mO20 (mO7 mz))))))))) (cseq (nz (st ?_)))
  obtain ⟨i131,g132,h⟩:=bI h
  refine wl (su (u_addc (et (k10 d2)) ec g132) (dt (q10 p3)) (st (wl (su (u_lensl underlying22 (et (k10 d4))) (dt (q10 p5)) (st (nw ?_))))))
  refine cifd (et (k10 d6)) (fun h133=>?_) (fun h133=>?_)
  ·replace h:=iT h133 h
   refine cskip (xn (cseq (cblock (cseq ?_))))
   refine cdw hS ?_; clear hS; intro w3 hS
   refine cpi 0 rfl (cpi 1 rfl ?_)
   obtain ⟨x134,g135,h⟩:=bI h
   obtain ⟨b136,o137,cs138,e139,f140,m141⟩:=SlR.elem (m3.up (le6.t le129)) g135
   obtain rfl:=m141
   refine cp 2 rfl (u_iax underlying22 ti2 (et (k10 d9)) (et (k20 d0)) e139) (q20 p1) (cpi 4 rfl (cpi 5 rfl ?_))
   obtain ⟨i142,g143,h⟩:=bI h
   refine cp 6 rfl (u_addc (et (k20 d4)) ec g143) (q20 p5) ?_
   obtain ⟨x144,g145,h⟩:=bI h
   obtain ⟨b146,o147,cs148,e149,f150,m151⟩:=SlR.elem (m3.up (le6.t le129)) g145
   obtain rfl:=m151
   refine cp 7 rfl (u_iax underlying22 ti2 (et (k20 d3)) (et (k20 d5)) e149) (q20 p6) (cr 3 [3,9,10] rfl (u_load ti2 (et (k20 d1)) ((f140 _ hS.a).one d0)) (q20 p2) (cpi 9 rfl (cr 8 [8,10] rfl (u_load ti2 (et (k20 d6)) ((f150 _ hS.a).one d0)) (q20 p7) (cpi 10 rfl (nu (cseq (cseq ?_)))))))
   refine ccutE (rg 28 5) (by decide) (fun m w=>∃ μx b152,m=(yK20 (yK8 (yO5 28 (.i (.bool b152)::[]))))∧law_gcd_j1 fu i67 l70 x134 x144 (law_gcd_l1 fu p_1 n_1) b152=some r∧Le μ2 μx∧Sq μx w0 w (.row v68 2 1 l70.length cs69::rsF)) (by rintro _ _ ⟨_,_,rfl,_⟩; rfl) ?_ ?_
   ·refine creg ?_
    iterate 3 refine st ?_
    refine wspd (k30 d0) (q30 p0) (q30 p0) (fun h153=>?_) (fun h153=>?_)
    ·replace h:=iT h153 h
     refine sn rfl rfl (sn rfl rfl (st (wnil (xl ?_))))
     exact ⟨_,_,rfl,(aK20 (aK8 (aO5 (aI aZ)))),_,true,rfl,h,Le.r,hS⟩
    ·replace h:=iF h153 h
     refine sy rfl (sy rfl (st (wnil (xl ?_))))
     exact ⟨_,_,rfl,(aK20 (aK8 (aO5 (aI aZ)))),_,(decide (x144<0)),rfl,h,Le.r,hS⟩
   ·rintro _ t w4 ⟨μ3,b152,rfl,h,le154,hS⟩
    unfold law_gcd_j1 at h
    refine nrm (mK20 (mK8 (mO5 (mi mz)))) (xn ?_)
    refine cifb (et (k30 d3)) (fun h155=>?_) (fun h155=>?_)
    ·replace h:=iT h155 h
     refine nz (st (nw (cret ?_)))
     refine (fun h=>xr (br (xr (xr (br (xr h)))))) ?_
     obtain rfl:=oI h
     refine ret1 rfl d2 ?_
     replace hS:=hS.drop Rm.z
     exact ⟨_,rfl,(le6.t (le129.t le154)),hS⟩
    ·replace h:=iF h155 h
     refine cskip (xn (nz (st (ny (nz (st (nw (cblock ?_))))))))
     refine cloopE (rg 34 21) (by decide +kernel) (fun n m w=>∃ μx i164 i165,m=(yK7 (.i (.int .i64 i164)::(.i (.int .i64 i165)::(yK20 (yK5 (yO20 34 (yO1 54 [])))))))∧law_gcd_l2 i67 l70 x134 x144 (law_gcd_l1 fu p_1 n_1) n i164 i165=some r∧Le μ3 μx∧Sq μx w0 w (.row v68 2 1 l70.length cs69::rsF)) (by rintro _ _ _ ⟨_,_,_,rfl,_⟩; rfl) _ _ (aK7 (aI (aI (aK20 (aK5 (aO20 (aO1 aZ))))))) ⟨_,0,1,rfl,h,Le.r,hS⟩ ?_
     rintro n_2 _ t w5 ⟨μ4,i164,i165,rfl,h,le174,hS⟩
     cases n_2 with
     | zero=>cases h
     | succ n_2 =>
     unfold law_gcd_l2 at h
     refine cnrm (mK7 (mi (mi (mK20 (mK5 (mO20 (mO1 mz))))))) (cseq (nz ?_))
     iterate 2 refine st ?_
     refine nw ?_
     refine cifd (et (k30 d5)) (fun h175=>?_) (fun h175=>?_)
     ·replace h:=iT h175 h
      refine cskip (xn (cseq (cblock (cseq ?_))))
      refine ccutE (rg 38 15) (by decide) (fun m w=>∃ μx b176,m=(yK20 (yK10 (yK8 (yO10 38 (yO5 48 (.i (.bool b176)::[]))))))∧law_gcd_j2 i164 i165 (law_gcd_l2 i67 l70 x134 x144 (law_gcd_l1 fu p_1 n_1) n_2) b176=some r∧Le μ4 μx∧Sq μx w0 w (.row v68 2 1 l70.length cs69::rsF)) (by rintro _ _ ⟨_,_,rfl,_⟩; rfl) ?_ ?_
      ·refine creg ?_
       iterate 2 refine st ?_
       obtain ⟨i177,g178,h⟩:=bI h
       refine wl (su (u_rem (et (k30 d8)) (et (k30 d9)) (remt_nz g178).1 (remt_nz g178).2) (dt (q40 p0)) ?_)
       iterate 2 refine st ?_
       refine wspd (k40 d2) (q40 p2) (q40 p2) (fun h179=>?_) (fun h179=>?_)
       ·replace h:=iT h179 h
        refine sy rfl (sy rfl ?_)
        obtain ⟨i180,g181,h⟩:=bI h
        refine wy rfl (k40 d2) (su (u_rem (et (k40 d3)) (et (k40 d4)) (remt_nz g181).1 (remt_nz g181).2) (dt (q40 p5)) (sy rfl ?_))
        iterate 2 refine st ?_
        refine wspd (k40 d8) (q40 p8) (q40 p8) (fun h182=>?_) (fun h182=>?_)
        ·replace h:=iT h182 h
         refine sy rfl (sy rfl (wy rfl (k40 d8) (su (u_add (et (k40 d9)) (et (k50 d0)) rfl) (dt (q50 p1)) (sy rfl (st (wnil (xl ?_)))))))
         exact ⟨_,_,rfl,(aK20 (aK10 (aK8 (aO10 (aO5 (aI aZ)))))),_,(decide ((0:Int)<(w64 (x134+x144)))),rfl,h,Le.r,hS⟩
        ·replace h:=iF h182 h
         refine sn rfl rfl (sn rfl rfl (sn rfl rfl (sn rfl rfl (st (wnil (xl ?_))))))
         exact ⟨_,_,rfl,(aK20 (aK10 (aK8 (aO10 (aO5 (aI aZ)))))),_,false,rfl,h,Le.r,hS⟩
       ·replace h:=iF h179 h
        refine sn rfl rfl (sn rfl rfl (sn rfl rfl (sn rfl rfl ?_)))
        iterate 2 refine st ?_
        refine sn rfl rfl (sn rfl rfl (sn rfl rfl (sn rfl rfl (st (wnil (xl ?_))))))
        exact ⟨_,_,rfl,(aK20 (aK10 (aK8 (aO10 (aO5 (aI aZ)))))),_,false,rfl,h,Le.r,hS⟩
      ·rintro _ t w6 ⟨μ5,b176,rfl,h,le183,hS⟩
       unfold law_gcd_j2 at h
       refine nrm (mK20 (mK10 (mK8 (mO10 (mO5 (mi mz)))))) (xn ?_)
       refine cifb (et (k50 d3)) (fun h184=>?_) (fun h184=>?_)
       ·replace h:=iT h184 h
        refine creg ?_
        iterate 2 refine st ?_
        refine wnil ?_
        refine (fun h=>bn (xn h)) ?_
        refine creg (st (wl (su (u_add (et (k30 d6)) ec rfl) (dt (q30 p7)) (st (wnil (xl ?_))))))
        exact ⟨n_2,_,_,rfl,(aK7 (aI (aI (aK20 (aK5 (aO20 (aO1 aZ))))))),⟨_,i165,(w64 (i165+1)),rfl,h,(le174.t le183),hS⟩,Nat.lt_succ_self _⟩
       ·replace h:=iF h184 h
        refine cskip ?_
        refine (fun h=>bn (xn h)) ?_
        refine creg (st (wl (su (u_add (et (k30 d6)) ec rfl) (dt (q30 p7)) (st (wnil (xl ?_))))))
        exact ⟨n_2,_,_,rfl,(aK7 (aI (aI (aK20 (aK5 (aO20 (aO1 aZ))))))),⟨_,i164,(w64 (i165+1)),rfl,h,(le174.t le183),hS⟩,Nat.lt_succ_self _⟩
     ·replace h:=iF h175 h
      refine cexit ?_
      refine (fun h=>xe (xe (bh h))) ?_
      refine xn (creg ?_)
      iterate 2 refine st ?_
      refine wl (s_bsl underlying22 ti2 (Parts.s (et (k50 d6)) rfl Parts.z) rfl rfl hS ?_); clear hS; intro b185 w7 hb186 hS; refine po ?_
      obtain ⟨l189,g190,h⟩:=bI h
      have m191:Rw μ4 [.int .i64 i164] [i164]:=(Rw.one (α:=Int) rfl)
      have m188:=Rw.app (m130.up (le154.t le174)) m191 g190
      refine wl (s_app1 underlying22 ti2 rfl (et (k50 d5)) (et (k50 d7)) hS d1 (hS.blk d0).cells m191 rfl g190 (by decide) ?_); clear hS; intro v187 w8 rs_ hp_ hS; cases (show _=rs_ from hp_)
      replace hS:=Sep.reput hS p1; refine po ?_
      replace hS:=hS.drop Rm.z
      refine st (wnil ?_)
      refine (fun h=>bn (xn h)) ?_
      refine creg (st ?_)
      obtain ⟨i192,g193,h⟩:=bI h
      refine wl (su (u_addc (et (k10 d7)) ec g193) (dt (q10 p8)) (st (wnil (xl ?_))))
      exact ⟨n_1,_,_,rfl,(aK2 (aO1 (aI (aI (aO4 (aK3 (aO20 (aO20 (aO7 aZ))))))))),⟨_,i192,l189,v187,(cs69++[.int .i64 i164]),rfl,h,(le129.t (le154.t le174)),hS,m188⟩,Nat.lt_succ_self _⟩
  ·replace h:=iF h133 h
   refine cexit ?_
   refine (fun h=>xe (xe (bh h))) ?_
   refine xn (nz ?_)
   iterate 2 refine st ?_
   refine wl (s_bsl underlying26 ti22 (Parts.s (et (k60 d0)) rfl Parts.z) rfl rfl hS ?_); clear hS; intro b194 w9 hb195 hS; refine po ?_
   replace hS:=hS.bg Y1
   obtain ⟨μ6,a196,c197,e200,le199,m198,hq_⟩:=Sep.frzRow hS m130 rfl; clear hS
   subst e200; have hS:=hq_; clear hq_
   obtain ⟨μ7,le202,m201,hS⟩:=Sep.frzBlk (l:=([p_1]:List (List Int))) hS (Rw.one (α:=List Int) (⟨a1,c2,rfl,(m3.up (le6.t (le129.t le199)))⟩)) (Nat.le_of_ble_eq_true rfl)
   obtain ⟨r203,g204,h⟩:=bI h
   refine ca (l12_says_w (hg.t (le6.t (le129.t (le199.t le202)))) (m198.up le202) m201 g204 hS) ?_
   rintro _ w10 ⟨μ8,rfl,le205,hS⟩
   refine po (st (nw (cret ?_)))
   obtain rfl:=oI h
   refine ret1 rfl d2 ?_
   exact ⟨_,rfl,(le6.t (le129.t (le199.t (le202.t le205)))),hS⟩
end Go.Proofs.YtaenlbapejigbaaGreatDoor
