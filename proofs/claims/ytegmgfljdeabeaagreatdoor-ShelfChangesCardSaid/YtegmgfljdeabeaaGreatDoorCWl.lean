/- The shelf: texts of ShelfChanges Wl. -/
import Derived.Test.YtegmgfljdeabeaaGreatDoorCXu
import Derived.Test.YtegmgfljdeabeaaGreatDoorCPl
import Derived.Test.YtegmgfljdeabeaaGreatDoorCWd
set_option linter.unusedSimpArgs false
set_option linter.unusedVariables false
set_option linter.unusedSectionVars false
set_option maxRecDepth 100000
set_option maxHeartbeats 20000000
namespace Go.Proofs.YtegmgfljdeabeaaGreatDoor
open Go.Wk Go.Xt Go.Y Tryz
variable {c2 c5 fu:Nat} {a1 a4:Option Addr} {μ0:M} {w0 w:World} {rsF:List Res}
theorem r9_same_w (hg:Le Gm μ0) {p_1 p_2:List Int} {r:Bool} (m3:Sl μ0 a1 c2 p_1) (m6:Sl μ0 a4 c5 p_2) (h:r9_same p_1 p_2=some r) (hS:Sq μ0 w0 w (rsF)):CallsV prog 18 [.slice a1 p_1.length c2,.slice a4 p_2.length c5] w (fun v w'=>∃ (μ':M) ,v=.bool r∧Le μ0 μ'∧Sq μ' w0 w' (rsF)):=by
 unfold r9_same at h
 refine enter func18 rfl (frm:=_::_::u2 (u2 (u20 []))) rfl (nz (st (ny (nz (st (wl (s_lensl underlying22 (et d6) (dt p7) (st (wl (s_lensl underlying22 (et d8) (dt p9) (st (nw ?_))))))))))))
 refine cifd (et (k10 d0)) (fun h7=>?_) (fun h7=>?_)
 ·replace h:=iT h7 h
  refine nz (st (nw (cret (xr ?_))))
  obtain rfl:=Option.some.inj h
  refine ret1 rfl d4 ?_
  exact ⟨_,rfl,Le.r,hS⟩
 ·replace h:=iF h7 h
  refine cskip (xn (cseq (nz (st (wl (s_lensl underlying22 (et (k10 d1)) (dt (q10 p2)) (st (nw (cblock ?_)))))))))
  refine cloopE (List.range' 4 2++List.range' 14 12) (by decide) (fun n m w=>∃ μx i26,m=(yK4 (yO2 4 (yK7 (.i (.int .i64 i26)::(yO10 14 (yO2 24 []))))))∧r9_same_l1 p_1 p_2 n i26=some r∧Le μ0 μx∧Sq μx w0 w (rsF)) (by rintro _ _ _ ⟨_,_,rfl,_⟩; rfl) _ _ (aK4 (aO2 (aK7 (aI (aO10 (aO2 aZ)))))) ⟨_,0,rfl,h,Le.r,hS⟩ ?_
  rintro n_1 _ t w1 ⟨μ1,i26,rfl,h,le45,hS⟩
  cases n_1 with
  | zero=>cases h
  | succ n_1 =>
  unfold r9_same_l1 at h
  refine cnrm (mK4 (mO2 (mK7 (mi (mO10 (mO2 mz)))))) (nz (st (ny ?_)))
  refine cifd (et (k10 d4)) (fun h46=>?_) (fun h46=>?_)
  ·replace h:=iT h46 h
   refine cskip (xn (cseq (cblock (nz ?_))))
   iterate 2 refine st ?_
   refine ny ?_
   refine cdraw (by kernel_rfl) rfl fun w2 hh_ ho_ ht_ hu_=>?_
   replace hS:=hS.drew hh_ ho_ ht_ hu_
   refine cpi 0 rfl (cpi 1 rfl ?_)
   replace h:=bI h; obtain ⟨x47,g48,h⟩:=h
   obtain ⟨b49,o50,cs51,e52,f53,m54⟩:=SlR.elem (m3.up le45) g48
   obtain rfl:=m54
   refine cp 2 rfl (u_iax underlying22 ti2 (et (k10 d6)) (et (k10 d7)) e52) (q10 p8) (cpi 4 rfl (cpi 5 rfl ?_))
   replace h:=bI h; obtain ⟨x55,g56,h⟩:=h
   obtain ⟨b57,o58,cs59,e60,f61,m62⟩:=SlR.elem (m6.up le45) g56
   obtain rfl:=m62
   refine cp 6 rfl (u_iax underlying22 ti2 (et (k20 d0)) (et (k20 d1)) e60) (q20 p2) (cr 3 [3,8] rfl (u_load ti2 (et (k10 d8)) ((f53 _ hS.a).one d0)) (q10 p9) (cr 7 [7,8] rfl (u_load ti2 (et (k20 d2)) ((f61 _ hS.a).one d0)) (q20 p3) (cpi 8 rfl (nu ?_))))
   refine cifd (et (k20 d4)) (fun h63=>?_) (fun h63=>?_)
   ·replace h:=iT h63 h
    refine nz (st (nw (cret ?_)))
    refine (fun h=>br (xr (xr (br (xr h))))) ?_
    obtain rfl:=Option.some.inj h
    refine ret1 rfl d4 ?_
    exact ⟨_,rfl,le45,hS⟩
   ·replace h:=iF h63 h
    refine cskip ?_
    refine (fun h=>bn (xn h)) ?_
    refine creg ?_
    replace h:=bI h; obtain ⟨i65,g66,h⟩:=h
    refine wl (s_addc (et (k10 d3)) ec g66 (dt (q20 p5)) (st (wnil (xl ?_))))
    exact ⟨n_1,_,_,rfl,(aK4 (aO2 (aK7 (aI (aO10 (aO2 aZ)))))),⟨_,i65,rfl,h,le45,hS⟩,Nat.lt_succ_self _⟩
  ·replace h:=iF h46 h
   refine cexit ?_
   refine (fun h=>xe (xe (bh h))) ?_
   refine xn (nz (st (nw (cret ?_))))
   obtain rfl:=Option.some.inj h
   refine ret1 rfl d4 ?_
   exact ⟨_,rfl,le45,hS⟩
theorem l12_says_w (hg:Le Gm μ0) {p_1:List UInt8} {p_2:List Int} {p_3:List (List Int)} {r:Bool} (m3:Sl μ0 a1 c2 p_2) (m6:Sl μ0 a4 c5 p_3) (h:l12_says fu p_1 p_2 p_3=some r) (hS:Sq μ0 w0 w (rsF)):CallsV prog 15 [S p_1,.slice a1 p_2.length c2,.slice a4 p_3.length c5] w (fun v w'=>∃ (μ':M) ,v=.bool r∧Le μ0 μ'∧Sq μ' w0 w' (rsF)):=by
 unfold l12_says at h
 refine enter func15 rfl (frm:=_::_::_::u5 (u20 [])) rfl (nz (st (nx ?_)))
 iterate 2 refine st ?_
 replace h:=bI h; obtain ⟨r7,g8,h⟩:=h
 refine ca (sh_ask_w hg m6 g8 hS) ?_
 rintro _ w1 ⟨μ1,a10,c11,a13,c14,a16,c17,rfl,le9,hS,m12,m15,m18⟩
 refine po ?_
 iterate 3 refine st ?_
 refine wl (s_alloc ti32 hS ?_); clear hS; intro b19 w2 hb20 hS; refine po ?_
 refine wl (s_storeA ti32 (et d7) (et (k10 d3)) rfl rfl hS d0 rfl p0 dn ?_)
 clear hS; intro w3 hS
 refine st (nx ?_)
 iterate 3 refine st ?_
 refine wspd (k10 d7) (q10 p7) (q10 p7) (fun h21=>?_) (fun h21=>?_)
 ·replace h:=iT h21 h
  refine sy rfl (wy rfl (k10 d7) (s_load ti3 (et (k10 d8)) ((hS.blk d0).cell d0) (dt (q10 p9)) (sy rfl ?_)))
  iterate 2 refine st ?_
  refine wspd (k20 d2) (q20 p2) (q20 p2) (fun h22=>?_) (fun h22=>?_)
  ·replace h:=iT h22 h
   refine sy rfl (wy rfl (k20 d2) (s_load ti22 (et (k20 d3)) ((hS.blk d0).cell d3) (dt (q20 p4)) (sy rfl ?_)))
   replace h:=bI h; obtain ⟨r23,g24,h⟩:=h
   refine wy rfl (k20 d2) (s_callv isfn18 ef (e1 (et (k20 d4)) (e1 (et (k20 d5)) e0)) (r9_same_w (hg.t le9) m12 (m3.up le9) g24 hS) ?_)
   rintro _ w4 ⟨μ2,rfl,le25,hS⟩
   refine po ?_
   iterate 2 refine st ?_
   refine nw (cret ?_)
   obtain rfl:=Option.some.inj h
   refine ret1 rfl d6 ?_
   replace hS:=hS.drop Rm.z
   exact ⟨_,rfl,(le9.t le25),hS⟩
  ·replace h:=iF h22 h
   refine sn rfl rfl (sn rfl rfl (sn rfl rfl (sn rfl rfl ?_)))
   iterate 2 refine st ?_
   refine nw (cret ?_)
   obtain rfl:=Option.some.inj h
   refine ret1 rfl d6 ?_
   replace hS:=hS.drop Rm.z
   exact ⟨_,rfl,le9,hS⟩
 ·replace h:=iF h21 h
  refine sn rfl rfl (sn rfl rfl (sn rfl rfl ?_))
  iterate 2 refine st ?_
  refine sn rfl rfl (sn rfl rfl (sn rfl rfl (sn rfl rfl ?_)))
  iterate 2 refine st ?_
  refine nw (cret ?_)
  obtain rfl:=Option.some.inj h
  refine ret1 rfl d6 ?_
  replace hS:=hS.drop Rm.z
  exact ⟨_,rfl,le9,hS⟩
theorem law_changes_w (hg:Le Gm μ0) {p_1:List Int} {r:Bool} (m3:Sl μ0 a1 c2 p_1) (h:law_changes fu p_1=some r) (hS:Sq μ0 w0 w (rsF)):CallsV prog 7 [.slice a1 p_1.length c2] w (fun v w'=>∃ (μ':M) ,v=.bool r∧Le μ0 μ'∧Sq μ' w0 w' (rsF)):=by
 unfold law_changes at h
 refine enter func7 rfl (frm:=_::u1 (u2 (u20 (u20 [])))) rfl (nz (st (ny (nz (st (wl (s_lensl underlying22 (et d7) (dt p8) (st (nw ?_)))))))))
 refine cifd (et d9) (fun h4=>?_) (fun h4=>?_)
 ·replace h:=iT h4 h
  refine nz (st (nw (cret (xr ?_))))
  obtain rfl:=Option.some.inj h
  refine ret1 rfl d2 ?_
  exact ⟨_,rfl,Le.r,hS⟩
 ·replace h:=iF h4 h
  refine cskip (xn (nz (st (nx (st (ny (nz (st (wl (s_lensl underlying22 (et (k10 d0)) (dt (q10 p1)) (st (nw (cblock ?_)))))))))))))
  replace hS:=hS.nilRow 2 (Mo.sz Int)
  refine cloopE (List.range' 5 2++List.range' 13 27) (by decide +kernel) (fun n m w=>∃ μx i49 i50 l53 v51 cs52,m=(yK3 (.i (v51)::(.i (.int .i64 i49)::(yO2 5 (yK5 (.i (.int .i64 i50)::(yO20 13 (yO7 33 []))))))))∧law_changes_l1 fu p_1 n i49 i50 l53=some r∧Le μ0 μx∧Sq μx w0 w (.row v51 2 1 l53.length cs52::rsF)∧Rw μx cs52 l53) (by rintro _ _ _ ⟨_,_,_,_,_,_,rfl,_⟩; rfl) _ _ (aK3 (aI (aI (aO2 (aK5 (aI (aO20 (aO7 aZ)))))))) ⟨_,0,0,[],(.slice none 0 0),[],rfl,h,Le.r,hS,Rw.nil⟩ ?_
  rintro n_1 _ t w1 ⟨μ1,i49,i50,l53,v51,cs52,rfl,h,le100,hS,m101⟩
  cases n_1 with
  | zero=>cases h
  | succ n_1 =>
  unfold law_changes_l1 at h
  refine cnrm (mK3 (mi (mi (mO2 (mK5 (mi (mO20 (mO7 mz)))))))) (nz (st (ny ?_)))
  refine cifd (et (k10 d3)) (fun h102=>?_) (fun h102=>?_)
  ·replace h:=iT h102 h
   refine cskip (xn (cseq (cblock (nz (st ?_)))))
   replace h:=bI h; obtain ⟨x103,g104,h⟩:=h
   obtain ⟨b105,o106,cs107,e108,f109,m110⟩:=SlR.elem (m3.up le100) g104
   obtain rfl:=m110
   refine wl (s_iax underlying22 ti2 (et (k10 d0)) (et (k10 d2)) e108 (dt (q10 p5)) (ld ((f109 _ hS.a).one d0) ?_))
   iterate 2 refine st ?_
   refine ny (cseq ?_)
   refine ccutE (List.range' 17 10) (by decide) (fun m w=>∃ μx b111,m=(yK10 (yK7 (yO10 17 (.i (.bool b111)::[]))))∧law_changes_j1 p_1 i49 i50 l53 (law_changes_l1 fu p_1 n_1) b111=some r∧Le μ1 μx∧Sq μx w0 w (.row v51 2 1 l53.length cs52::rsF)) (by rintro _ _ ⟨_,_,rfl,_⟩; rfl) ?_ ?_
   ·refine creg ?_
    iterate 3 refine st ?_
    refine wspd (k10 d9) (q10 p9) (q10 p9) (fun h112=>?_) (fun h112=>?_)
    ·replace h:=iT h112 h
     refine sy rfl (sy rfl (sy rfl ?_))
     replace h:=bI h; obtain ⟨i113,g114,h⟩:=h
     refine wy rfl (k10 d9) (s_subc (et (k20 d2)) ec g114 (dt (q20 p3)) ?_)
     replace h:=bI h; obtain ⟨x115,g116,h⟩:=h
     obtain ⟨b117,o118,cs119,e120,f121,m122⟩:=SlR.elem (m3.up le100) g116
     obtain rfl:=m122
     refine wy rfl (k10 d9) (s_iax underlying22 ti2 (et (k20 d1)) (et (k20 d3)) e120 (dt (q20 p4)) (wy rfl (k10 d9) (s_load ti2 (et (k20 d4)) ((f121 _ hS.a).one d0) (dt (q20 p5)) (sy rfl (st (wnil (xl ?_)))))))
     exact ⟨_,_,rfl,(aK10 (aK7 (aO10 (aI aZ)))),_,(decide (x103≠x115)),rfl,h,Le.r,hS⟩
    ·replace h:=iF h112 h
     refine sn rfl rfl (sn rfl rfl (sn rfl rfl (sn rfl rfl (sn rfl rfl (sn rfl rfl (sn rfl rfl (st (wnil (xl ?_)))))))))
     exact ⟨_,_,rfl,(aK10 (aK7 (aO10 (aI aZ)))),_,false,rfl,h,Le.r,hS⟩
   ·rintro _ t w2 ⟨μ2,b111,rfl,h,le123,hS⟩
    unfold law_changes_j1 at h
    refine nrm (mK10 (mK7 (mO10 (mi mz)))) (xn ?_)
    refine cifb (et (k20 d7)) (fun h124=>?_) (fun h124=>?_)
    ·replace h:=iT h124 h
     refine nz ?_
     iterate 3 refine st ?_
     replace h:=bI h; obtain ⟨i125,g126,h⟩:=h
     refine wl (s_subc (et (k30 d0)) ec g126 (dt (q30 p1)) ?_)
     replace h:=bI h; obtain ⟨x127,g128,h⟩:=h
     obtain ⟨b129,o130,cs131,e132,f133,m134⟩:=SlR.elem (m3.up (le100.t le123)) g128
     obtain rfl:=m134
     refine wl (s_iax underlying22 ti2 (et (k20 d9)) (et (k30 d1)) e132 (dt (q30 p2)) (ld ((f133 _ hS.a).one d0) (st ?_)))
     refine wl (s_bsl underlying22 ti2 (Parts.s (et (k30 d3)) rfl (Parts.s (et (k30 d4)) rfl Parts.z)) rfl rfl hS ?_); clear hS; intro b135 w3 hb136 hS; refine po ?_
     replace h:=bI h; obtain ⟨l139,g140,h⟩:=h
     have m141:Rw μ2 [.int .i64 x127,.int .i64 i49] [x127,i49]:=(Rw.cons (α:=Int) (cs:=[.int .i64 x127]) rfl (Rw.cons (α:=Int) (cs:=[.int .i64 i49]) rfl Rw.nil))
     have m138:=Rw.app (m101.up le123) m141 g140
     refine wl (s_app1 underlying22 ti2 rfl (et (k20 d8)) (et (k30 d5)) hS d1 (hS.blk d0).cells m141 rfl g140 (by decide) ?_); clear hS; intro v137 w4 rs_ hp_ hS; cases (show _=rs_ from hp_)
     replace hS:=Sep.reput hS p1; refine po ?_
     replace hS:=hS.drop Rm.z
     refine st (nw (creg (st (nw (creg (st (wl (s_add (et (k30 d7)) ec rfl (dt (q30 p8)) (st (wnil ?_))))))))))
     refine (fun h=>bn (xn h)) ?_
     refine creg ?_
     replace h:=bI h; obtain ⟨i142,g143,h⟩:=h
     refine wl (s_addc (et (k10 d2)) ec g143 (dt (q30 p9)) (st (wnil (xl ?_))))
     exact ⟨n_1,_,_,rfl,(aK3 (aI (aI (aO2 (aK5 (aI (aO20 (aO7 aZ)))))))),⟨_,(w64 (0+1)),i142,l139,v137,(cs52++[.int .i64 x127,.int .i64 i49]),rfl,h,(le100.t le123),hS,m138⟩,Nat.lt_succ_self _⟩
    ·replace h:=iF h124 h
     refine cskip (xn (creg (st (wl (s_add (et (k30 d7)) ec rfl (dt (q30 p8)) (st (wnil ?_)))))))
     refine (fun h=>bn (xn h)) ?_
     refine creg ?_
     replace h:=bI h; obtain ⟨i144,g145,h⟩:=h
     refine wl (s_addc (et (k10 d2)) ec g145 (dt (q30 p9)) (st (wnil (xl ?_))))
     exact ⟨n_1,_,_,rfl,(aK3 (aI (aI (aO2 (aK5 (aI (aO20 (aO7 aZ)))))))),⟨_,(w64 (i49+1)),i144,l53,v51,cs52,rfl,h,(le100.t le123),hS,(m101.up le123)⟩,Nat.lt_succ_self _⟩
  ·replace h:=iF h102 h
   refine cexit ?_
   refine (fun h=>xe (xe (bh h))) ?_
   refine xn (nz ?_)
   iterate 2 refine st ?_
   refine wl (s_bsl underlying29 ti22 (Parts.s (et (k40 d1)) rfl Parts.z) rfl rfl hS ?_); clear hS; intro b146 w5 hb147 hS; refine po ?_
   replace hS:=hS.bg Y1
   obtain ⟨μ3,a148,c149,e152,le151,m150,hq_⟩:=Sep.frzRow hS m101 rfl; clear hS
   subst e152; have hS:=hq_; clear hq_
   obtain ⟨μ4,le154,m153,hS⟩:=Sep.frzBlk (l:=([p_1]:List (List Int))) hS (Rw.one (α:=List Int) (⟨a1,c2,rfl,(m3.up (le100.t le151))⟩)) (Nat.le_of_ble_eq_true rfl)
   replace h:=bI h; obtain ⟨r155,g156,h⟩:=h
   refine ca (l12_says_w (hg.t (le100.t (le151.t le154))) (m150.up le154) m153 g156 hS) ?_
   rintro _ w6 ⟨μ5,rfl,le157,hS⟩
   refine po (st (nw (cret ?_)))
   obtain rfl:=Option.some.inj h
   refine ret1 rfl d2 ?_
   exact ⟨_,rfl,(le100.t (le151.t (le154.t le157))),hS⟩
end Go.Proofs.YtegmgfljdeabeaaGreatDoor
