/- The shelf: texts of ShelfGreatest Wl. -/
import Derived.Test.YtaenlbapejigbaaGreatDoorCXu
import Derived.Test.YtaenlbapejigbaaGreatDoorCPl
import Derived.Test.YtaenlbapejigbaaGreatDoorCWd
set_option linter.unusedSimpArgs false
set_option linter.unusedVariables false
set_option linter.unusedSectionVars false
set_option maxRecDepth 100000
set_option maxHeartbeats 20000000
namespace Go.Proofs.YtaenlbapejigbaaGreatDoor
open Go.Wk Go.Xt Go.Y Tryz
variable {c2 c5 fu:Nat} {a1 a4:Option Addr} {μ0:M} {w0 w:World} {rsF:List Res}
theorem r9_same_w (hg:Le Gm μ0) {p_1 p_2:List Int} {r:Bool} (m3:Sl μ0 a1 c2 p_1) (m6:Sl μ0 a4 c5 p_2) (h:r9_same p_1 p_2=some r) (hS:Sq μ0 w0 w (rsF)):CallsV prog 17 [.slice a1 p_1.length c2,.slice a4 p_2.length c5] w (fun v w'=>∃ (μ':M) ,v=.bool r∧Le μ0 μ'∧Sq μ' w0 w' (rsF)):=by
 unfold r9_same at h
 refine enter func17 rfl (frm:=_::_::u2 (u2 (u20 []))) rfl (nz (st (ny (nz (st (wl (su (u_lensl underlying22 (et d6)) (dt p7) (st (wl (su (u_lensl underlying22 (et d8)) (dt p9) (st (nw ?_))))))))))))
 refine cifd (et (k10 d0)) (fun h7=>?_) (fun h7=>?_)
 ·replace h:=iT h7 h
  refine nz (st (nw (cret (xr ?_))))
  obtain rfl:=oI h
  refine ret1 rfl d4 ?_
  exact ⟨_,rfl,Le.r,hS⟩
 ·replace h:=iF h7 h
  refine cskip (xn (cseq (nz (st (wl (su (u_lensl underlying22 (et (k10 d1))) (dt (q10 p2)) (st (nw (cblock ?_)))))))))
  refine cloopE (rg 4 2++rg 14 12) (by decide) (fun n m w=>∃ μx i26,m=(yK4 (yO2 4 (yK7 (.i (.int .i64 i26)::(yO10 14 (yO2 24 []))))))∧r9_same_l1 p_1 p_2 n i26=some r∧Le μ0 μx∧Sq μx w0 w (rsF)) (by rintro _ _ _ ⟨_,_,rfl,_⟩; rfl) _ _ (aK4 (aO2 (aK7 (aI (aO10 (aO2 aZ)))))) ⟨_,0,rfl,h,Le.r,hS⟩ ?_
  rintro n_1 _ t w1 ⟨μ1,i26,rfl,h,le45,hS⟩
  cases n_1 with
  | zero=>cases h
  | succ n_1 =>
  unfold r9_same_l1 at h
  refine cnrm (mK4 (mO2 (mK7 (mi (mO10 (mO2 mz)))))) (nz (st (ny ?_)))
  refine cifd (et (k10 d4)) (fun h46=>?_) (fun h46=>?_)
  ·replace h:=iT h46 h
   refine cskip (xn (cseq (cblock (nz ?_))))
   iterate 2 refine st ?_
   refine ny ?_
   refine cdw hS ?_; clear hS; intro w2 hS
   refine cpi 0 rfl (cpi 1 rfl ?_)
   obtain ⟨x47,g48,h⟩:=bI h
   obtain ⟨b49,o50,cs51,e52,f53,m54⟩:=SlR.elem (m3.up le45) g48
   obtain rfl:=m54
   refine cp 2 rfl (u_iax underlying22 ti2 (et (k10 d6)) (et (k10 d7)) e52) (q10 p8) (cpi 4 rfl (cpi 5 rfl ?_))
   obtain ⟨x55,g56,h⟩:=bI h
   obtain ⟨b57,o58,cs59,e60,f61,m62⟩:=SlR.elem (m6.up le45) g56
   obtain rfl:=m62
   refine cp 6 rfl (u_iax underlying22 ti2 (et (k20 d0)) (et (k20 d1)) e60) (q20 p2) (cr 3 [3,8] rfl (u_load ti2 (et (k10 d8)) ((f53 _ hS.a).one d0)) (q10 p9) (cr 7 [7,8] rfl (u_load ti2 (et (k20 d2)) ((f61 _ hS.a).one d0)) (q20 p3) (cpi 8 rfl (nu ?_))))
   refine cifd (et (k20 d4)) (fun h63=>?_) (fun h63=>?_)
   ·replace h:=iT h63 h
    refine nz (st (nw (cret ?_)))
    refine (fun h=>br (xr (xr (br (xr h))))) ?_
    obtain rfl:=oI h
    refine ret1 rfl d4 ?_
    exact ⟨_,rfl,le45,hS⟩
   ·replace h:=iF h63 h
    refine cskip ?_
    refine (fun h=>bn (xn h)) ?_
    refine creg ?_
    obtain ⟨i65,g66,h⟩:=bI h
    refine wl (su (u_addc (et (k10 d3)) ec g66) (dt (q20 p5)) (st (wnil (xl ?_))))
    exact ⟨n_1,_,_,rfl,(aK4 (aO2 (aK7 (aI (aO10 (aO2 aZ)))))),⟨_,i65,rfl,h,le45,hS⟩,Nat.lt_succ_self _⟩
  ·replace h:=iF h46 h
   refine cexit ?_
   refine (fun h=>xe (xe (bh h))) ?_
   refine xn (nz (st (nw (cret ?_))))
   obtain rfl:=oI h
   refine ret1 rfl d4 ?_
   exact ⟨_,rfl,le45,hS⟩
theorem l12_says_w (hg:Le Gm μ0) {p_1:List UInt8} {p_2:List Int} {p_3:List (List Int)} {r:Bool} (m3:Sl μ0 a1 c2 p_2) (m6:Sl μ0 a4 c5 p_3) (h:l12_says fu p_1 p_2 p_3=some r) (hS:Sq μ0 w0 w (rsF)):CallsV prog 15 [S p_1,.slice a1 p_2.length c2,.slice a4 p_3.length c5] w (fun v w'=>∃ (μ':M) ,v=.bool r∧Le μ0 μ'∧Sq μ' w0 w' (rsF)):=by
 unfold l12_says at h
 refine enter func15 rfl (frm:=_::_::_::u5 (u20 [])) rfl (nz (st (nx ?_)))
 iterate 2 refine st ?_
 obtain ⟨r7,g8,h⟩:=bI h
 refine ca (sh_ask_w hg m6 g8 hS) ?_
 rintro _ w1 ⟨μ1,a10,c11,a13,c14,a16,c17,rfl,le9,hS,m12,m15,m18⟩
 refine po ?_
 iterate 3 refine st ?_
 refine wl (s_alloc ti29 hS ?_); clear hS; intro b19 w2 hb20 hS; refine po ?_
 refine wl (s_storeA ti29 (et d7) (et (k10 d3)) rfl rfl hS d0 rfl p0 dn ?_)
 clear hS; intro w3 hS
 refine st (nx ?_)
 iterate 3 refine st ?_
 refine wspd (k10 d7) (q10 p7) (q10 p7) (fun h21=>?_) (fun h21=>?_)
 ·replace h:=iT h21 h
  refine sy rfl (wy rfl (k10 d7) (s_load ti3 (et (k10 d8)) ((hS.blk d0).cell d0) (dt (q10 p9)) (sy rfl ?_)))
  iterate 2 refine st ?_
  refine wspd (k20 d2) (q20 p2) (q20 p2) (fun h22=>?_) (fun h22=>?_)
  ·replace h:=iT h22 h
   refine sy rfl (wy rfl (k20 d2) (s_load ti22 (et (k20 d3)) ((hS.blk d0).cell d3) (dt (q20 p4)) (sy rfl ?_)))
   obtain ⟨r23,g24,h⟩:=bI h
   refine wy rfl (k20 d2) (s_callv isfn17 ef (e1 (et (k20 d4)) (e1 (et (k20 d5)) e0)) (r9_same_w (hg.t le9) m12 (m3.up le9) g24 hS) ?_)
   rintro _ w4 ⟨μ2,rfl,le25,hS⟩
   refine po ?_
   iterate 2 refine st ?_
   refine nw (cret ?_)
   obtain rfl:=oI h
   refine ret1 rfl d6 ?_
   replace hS:=hS.drop Rm.z
   exact ⟨_,rfl,(le9.t le25),hS⟩
  ·replace h:=iF h22 h
   refine sn rfl rfl (sn rfl rfl (sn rfl rfl (sn rfl rfl ?_)))
   iterate 2 refine st ?_
   refine nw (cret ?_)
   obtain rfl:=oI h
   refine ret1 rfl d6 ?_
   replace hS:=hS.drop Rm.z
   exact ⟨_,rfl,le9,hS⟩
 ·replace h:=iF h21 h
  refine sn rfl rfl (sn rfl rfl (sn rfl rfl ?_))
  iterate 2 refine st ?_
  refine sn rfl rfl (sn rfl rfl (sn rfl rfl (sn rfl rfl ?_)))
  iterate 2 refine st ?_
  refine nw (cret ?_)
  obtain rfl:=oI h
  refine ret1 rfl d6 ?_
  replace hS:=hS.drop Rm.z
  exact ⟨_,rfl,le9,hS⟩
theorem law_greatest_w (hg:Le Gm μ0) {p_1:List Int} {r:Bool} (m3:Sl μ0 a1 c2 p_1) (h:law_greatest fu p_1=some r) (hS:Sq μ0 w0 w (rsF)):CallsV prog 5 [.slice a1 p_1.length c2] w (fun v w'=>∃ (μ':M) ,v=.bool r∧Le μ0 μ'∧Sq μ' w0 w' (rsF)):=by
 unfold law_greatest at h
 refine enter func5 rfl (frm:=_::u1 (u20 (u20 []))) rfl (nz (st (ny (nz (st (wl (su (u_lensl underlying22 (et d8)) (dt p9) (st (nw ?_)))))))))
 refine cifd (et (k10 d0)) (fun h4=>?_) (fun h4=>?_)
 ·replace h:=iT h4 h
  refine nz (st (nw (cret (xr ?_))))
  obtain rfl:=oI h
  refine ret1 rfl d2 ?_
  exact ⟨_,rfl,Le.r,hS⟩
 ·replace h:=iF h4 h
  refine cskip (xn (nz (st (ny (nz (st (wl (su (u_lensl underlying22 (et (k10 d1))) (dt (q10 p2)) (st (nw (cblock ?_)))))))))))
  replace hS:=hS.nilRow 2 (Mo.sz Int)
  refine cloopE (rg 4 2++[7]++rg 14 24) (by decide +kernel) (fun n m w=>∃ μx i67 l70 v68 cs69,m=(yK3 (.i (v68)::(yO2 4 (yK1 (yO1 7 (yK5 (.i (.int .i64 i67)::(yO20 14 (yO4 34 [])))))))))∧law_greatest_l1 fu p_1 n i67 l70=some r∧Le μ0 μx∧Sq μx w0 w (.row v68 2 1 l70.length cs69::rsF)∧Rw μx cs69 l70) (by rintro _ _ _ ⟨_,_,_,_,_,rfl,_⟩; rfl) _ _ (aK3 (aI (aO2 (aK1 (aO1 (aK5 (aI (aO20 (aO4 aZ))))))))) ⟨_,0,[],(.slice none 0 0),[],rfl,h,Le.r,hS,Rw.nil⟩ ?_
  rintro n_1 _ t w1 ⟨μ1,i67,l70,v68,cs69,rfl,h,le132,hS,m133⟩
  cases n_1 with
  | zero=>cases h
  | succ n_1 =>
  unfold law_greatest_l1 at h
  refine cnrm (mK3 (mi (mO2 (mK1 (mO1 (mK5 (mi (mO20 (mO4 mz))))))))) (nz (st (ny ?_)))
  refine cifd (et (k10 d4)) (fun h134=>?_) (fun h134=>?_)
  ·replace h:=iT h134 h
   refine cskip (xn (cseq (cblock (nz ?_))))
   iterate 2 refine st ?_
   refine nx (st ?_)
   obtain ⟨x135,g136,h⟩:=bI h
   obtain ⟨b137,o138,cs139,e140,f141,m142⟩:=SlR.elem (m3.up le132) g136
   obtain rfl:=m142
   refine wl (su (u_iax underlying22 ti2 (et (k10 d6)) ec e140) (dt (q10 p7)) (ld ((f141 _ hS.a).one d0) (st (ny (nz ?_)))))
   iterate 2 refine st ?_
   obtain ⟨i143,g144,h⟩:=bI h
   refine wl (su (u_addc (et (k20 d0)) ec g144) (dt (q20 p1)) ?_)
   obtain ⟨l145,g146,h⟩:=bI h
   obtain ⟨a147,c148,e149,m150⟩:=Sl.slc (i:=none) (j:=some i143) (m3.up le132) g146
   refine wl (su (u_slc underlying22 ti2 (et (k10 d9)) .n (.s (et (k20 d1))) e149) (dt (q20 p2)) (wl (su (u_lensl underlying22 (et (k20 d2))) (dt (q20 p3)) (st (nw (cblock ?_))))))
   refine cloopE ([7]++rg 25 8) (by decide) (fun n m w=>∃ μx i162 i163,m=(yK5 (.i (.int .i64 i162)::(yK1 (yO1 7 (yK10 (yK6 (.i (.int .i64 i163)::(yO8 25 []))))))))∧law_greatest_l2 i67 l70 l145 (law_greatest_l1 fu p_1 n_1) n i162 i163=some r∧Le μ1 μx∧Sq μx w0 w (.row v68 2 1 l70.length cs69::rsF)) (by rintro _ _ _ ⟨_,_,_,rfl,_⟩; rfl) _ _ (aK5 (aI (aK1 (aO1 (aK10 (aK6 (aI (aO8 aZ)))))))) ⟨_,x135,0,rfl,h,Le.r,hS⟩ ?_
   rintro n_2 _ t w2 ⟨μ2,i162,i163,rfl,h,le175,hS⟩
   cases n_2 with
   | zero=>cases h
   | succ n_2 =>
   unfold law_greatest_l2 at h
   refine cnrm (mK5 (mi (mK1 (mO1 (mK10 (mK6 (mi (mO8 mz)))))))) (nz (st (ny ?_)))
   refine cifd (et (k20 d5)) (fun h176=>?_) (fun h176=>?_)
   ·replace h:=iT h176 h
    refine cskip (xn (cseq (cblock (nz ?_))))
    obtain ⟨x177,g178,h⟩:=bI h
    obtain ⟨b179,o180,cs181,e182,f183,m184⟩:=SlR.elem (m150.up le175) g178
    obtain rfl:=m184
    refine wl (su (u_iax underlying22 ti2 (et (k20 d2)) (et (k20 d4)) e182) (dt (q20 p6)) (ld ((f183 _ hS.a).one d0) (st (nx ?_))))
    iterate 3 refine st ?_
    refine nw ?_
    refine cifd (et (k30 d0)) (fun h185=>?_) (fun h185=>?_)
    ·replace h:=iT h185 h
     refine creg ?_
     iterate 2 refine st ?_
     refine wnil ?_
     refine (fun h=>bn (xn h)) ?_
     refine creg ?_
     obtain ⟨i186,g187,h⟩:=bI h
     refine wl (su (u_addc (et (k20 d4)) ec g187) (dt (q30 p2)) (st (wnil (xl ?_))))
     exact ⟨n_2,_,_,rfl,(aK5 (aI (aK1 (aO1 (aK10 (aK6 (aI (aO8 aZ)))))))),⟨_,x177,i186,rfl,h,le175,hS⟩,Nat.lt_succ_self _⟩
    ·replace h:=iF h185 h
     refine cskip ?_
     refine (fun h=>bn (xn h)) ?_
     refine creg ?_
     obtain ⟨i188,g189,h⟩:=bI h
     refine wl (su (u_addc (et (k20 d4)) ec g189) (dt (q30 p2)) (st (wnil (xl ?_))))
     exact ⟨n_2,_,_,rfl,(aK5 (aI (aK1 (aO1 (aK10 (aK6 (aI (aO8 aZ)))))))),⟨_,i162,i188,rfl,h,le175,hS⟩,Nat.lt_succ_self _⟩
   ·replace h:=iF h176 h
    refine cexit ?_
    refine (fun h=>xe (xe (bh h))) ?_
    refine xn (creg ?_)
    iterate 2 refine st ?_
    refine wl (s_bsl underlying22 ti2 (Parts.s (et (k30 d4)) rfl Parts.z) rfl rfl hS ?_); clear hS; intro b190 w3 hb191 hS; refine po ?_
    obtain ⟨l194,g195,h⟩:=bI h
    have m196:Rw μ2 [.int .i64 i162] [i162]:=(Rw.one (α:=Int) rfl)
    have m193:=Rw.app (m133.up le175) m196 g195
    refine wl (s_app1 underlying22 ti2 rfl (et (k30 d3)) (et (k30 d5)) hS d1 (hS.blk d0).cells m196 rfl g195 (by decide) ?_); clear hS; intro v192 w4 rs_ hp_ hS; cases (show _=rs_ from hp_)
    replace hS:=Sep.reput hS p1; refine po ?_
    replace hS:=hS.drop Rm.z
    refine st (wnil ?_)
    refine (fun h=>bn (xn h)) ?_
    refine creg ?_
    obtain ⟨i197,g198,h⟩:=bI h
    refine wl (su (u_addc (et (k10 d3)) ec g198) (dt (q30 p7)) (st (wnil (xl ?_))))
    exact ⟨n_1,_,_,rfl,(aK3 (aI (aO2 (aK1 (aO1 (aK5 (aI (aO20 (aO4 aZ))))))))),⟨_,i197,l194,v192,(cs69++[.int .i64 i162]),rfl,h,(le132.t le175),hS,m193⟩,Nat.lt_succ_self _⟩
  ·replace h:=iF h134 h
   refine cexit ?_
   refine (fun h=>xe (xe (bh h))) ?_
   refine xn (nz ?_)
   iterate 2 refine st ?_
   refine wl (s_bsl underlying26 ti22 (Parts.s (et (k30 d9)) rfl Parts.z) rfl rfl hS ?_); clear hS; intro b199 w5 hb200 hS; refine po ?_
   replace hS:=hS.bg Y1
   obtain ⟨μ3,a201,c202,e205,le204,m203,hq_⟩:=Sep.frzRow hS m133 rfl; clear hS
   subst e205; have hS:=hq_; clear hq_
   obtain ⟨μ4,le207,m206,hS⟩:=Sep.frzBlk (l:=([p_1]:List (List Int))) hS (Rw.one (α:=List Int) (⟨a1,c2,rfl,(m3.up (le132.t le204))⟩)) (Nat.le_of_ble_eq_true rfl)
   obtain ⟨r208,g209,h⟩:=bI h
   refine ca (l12_says_w (hg.t (le132.t (le204.t le207))) (m203.up le207) m206 g209 hS) ?_
   rintro _ w6 ⟨μ5,rfl,le210,hS⟩
   refine po (st (nw (cret ?_)))
   obtain rfl:=oI h
   refine ret1 rfl d2 ?_
   exact ⟨_,rfl,(le132.t (le204.t (le207.t le210))),hS⟩
end Go.Proofs.YtaenlbapejigbaaGreatDoor
