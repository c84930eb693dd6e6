/- The shelf: texts of ShelfDedupe Wl. -/
import Derived.Test.YtegmgfljdeabeaaGreatDoorCXu
import Derived.Test.YtegmgfljdeabeaaGreatDoorCPl
import Derived.Test.YtegmgfljdeabeaaGreatDoorCWd
set_option linter.unusedSimpArgs false
set_option linter.unusedVariables false
set_option linter.unusedSectionVars false
set_option maxRecDepth 100000
set_option maxHeartbeats 20000000
namespace Go.Proofs.YtegmgfljdeabeaaGreatDoor
open Go.Wk Go.Xt Go.Y Tryz
variable {c2 c5 fu:Nat} {a1 a4:Option Addr} {μ0:M} {w0 w:World} {rsF:List Res}
theorem r9_same_w (hg:Le Gm μ0) {p_1 p_2:List Int} {r:Bool} (m3:Sl μ0 a1 c2 p_1) (m6:Sl μ0 a4 c5 p_2) (h:r9_same p_1 p_2=some r) (hS:Sq μ0 w0 w (rsF)):CallsV prog 18 [.slice a1 p_1.length c2,.slice a4 p_2.length c5] w (fun v w'=>∃ (μ':M) ,v=.bool r∧Le μ0 μ'∧Sq μ' w0 w' (rsF)):=by
 unfold r9_same at h
 refine enter func18 rfl (frm:=_::_::u2 (u2 (u20 []))) rfl (nz (st (ny (nz (st (wl (s_lensl underlying22 (et d6) (dt p7) (st (wl (s_lensl underlying22 (et d8) (dt p9) (st (nw ?_))))))))))))
 refine cifd (et (k10 d0)) (fun h7=>?_) (fun h7=>?_)
 ·replace h:=iT h7 h
  refine nz (st (nw (cret (xr ?_))))
  obtain rfl:=Option.some.inj h
  refine ret1 rfl d4 ?_
  exact ⟨_,rfl,Le.r,hS⟩
 ·replace h:=iF h7 h
  refine cskip (xn (cseq (nz (st (wl (s_lensl underlying22 (et (k10 d1)) (dt (q10 p2)) (st (nw (cblock ?_)))))))))
  refine cloopE (List.range' 4 2++List.range' 14 12) (by decide) (fun n m w=>∃ μx i26,m=(yK4 (yO2 4 (yK7 (.i (.int .i64 i26)::(yO10 14 (yO2 24 []))))))∧r9_same_l1 p_1 p_2 n i26=some r∧Le μ0 μx∧Sq μx w0 w (rsF)) (by rintro _ _ _ ⟨_,_,rfl,_⟩; rfl) _ _ (aK4 (aO2 (aK7 (aI (aO10 (aO2 aZ)))))) ⟨_,0,rfl,h,Le.r,hS⟩ ?_
  rintro n_1 _ t w1 ⟨μ1,i26,rfl,h,le45,hS⟩
  cases n_1 with
  | zero=>cases h
  | succ n_1 =>
  unfold r9_same_l1 at h
  refine cnrm (mK4 (mO2 (mK7 (mi (mO10 (mO2 mz)))))) (nz (st (ny ?_)))
  refine cifd (et (k10 d4)) (fun h46=>?_) (fun h46=>?_)
  ·replace h:=iT h46 h
   refine cskip (xn (cseq (cblock (nz ?_))))
   iterate 2 refine st ?_
   refine ny ?_
   refine cdraw (by kernel_rfl) rfl fun w2 hh_ ho_ ht_ hu_=>?_
   replace hS:=hS.drew hh_ ho_ ht_ hu_
   refine cpi 0 rfl (cpi 1 rfl ?_)
   replace h:=bI h; obtain ⟨x47,g48,h⟩:=h
   obtain ⟨b49,o50,cs51,e52,f53,m54⟩:=SlR.elem (m3.up le45) g48
   obtain rfl:=m54
   refine cp 2 rfl (u_iax underlying22 ti2 (et (k10 d6)) (et (k10 d7)) e52) (q10 p8) (cpi 4 rfl (cpi 5 rfl ?_))
   replace h:=bI h; obtain ⟨x55,g56,h⟩:=h
   obtain ⟨b57,o58,cs59,e60,f61,m62⟩:=SlR.elem (m6.up le45) g56
   obtain rfl:=m62
   refine cp 6 rfl (u_iax underlying22 ti2 (et (k20 d0)) (et (k20 d1)) e60) (q20 p2) (cr 3 [3,8] rfl (u_load ti2 (et (k10 d8)) ((f53 _ hS.a).one d0)) (q10 p9) (cr 7 [7,8] rfl (u_load ti2 (et (k20 d2)) ((f61 _ hS.a).one d0)) (q20 p3) (cpi 8 rfl (nu ?_))))
   refine cifd (et (k20 d4)) (fun h63=>?_) (fun h63=>?_)
   ·replace h:=iT h63 h
    refine nz (st (nw (cret ?_)))
    refine (fun h=>br (xr (xr (br (xr h))))) ?_
    obtain rfl:=Option.some.inj h
    refine ret1 rfl d4 ?_
    exact ⟨_,rfl,le45,hS⟩
   ·replace h:=iF h63 h
    refine cskip ?_
    refine (fun h=>bn (xn h)) ?_
    refine creg ?_
    replace h:=bI h; obtain ⟨i65,g66,h⟩:=h
    refine wl (s_addc (et (k10 d3)) ec g66 (dt (q20 p5)) (st (wnil (xl ?_))))
    exact ⟨n_1,_,_,rfl,(aK4 (aO2 (aK7 (aI (aO10 (aO2 aZ)))))),⟨_,i65,rfl,h,le45,hS⟩,Nat.lt_succ_self _⟩
  ·replace h:=iF h46 h
   refine cexit ?_
   refine (fun h=>xe (xe (bh h))) ?_
   refine xn (nz (st (nw (cret ?_))))
   obtain rfl:=Option.some.inj h
   refine ret1 rfl d4 ?_
   exact ⟨_,rfl,le45,hS⟩
theorem l12_says_w (hg:Le Gm μ0) {p_1:List UInt8} {p_2:List Int} {p_3:List (List Int)} {r:Bool} (m3:Sl μ0 a1 c2 p_2) (m6:Sl μ0 a4 c5 p_3) (h:l12_says fu p_1 p_2 p_3=some r) (hS:Sq μ0 w0 w (rsF)):CallsV prog 15 [S p_1,.slice a1 p_2.length c2,.slice a4 p_3.length c5] w (fun v w'=>∃ (μ':M) ,v=.bool r∧Le μ0 μ'∧Sq μ' w0 w' (rsF)):=by
 unfold l12_says at h
 refine enter func15 rfl (frm:=_::_::_::u5 (u20 [])) rfl (nz (st (nx ?_)))
 iterate 2 refine st ?_
 replace h:=bI h; obtain ⟨r7,g8,h⟩:=h
 refine ca (sh_ask_w hg m6 g8 hS) ?_
 rintro _ w1 ⟨μ1,a10,c11,a13,c14,a16,c17,rfl,le9,hS,m12,m15,m18⟩
 refine po ?_
 iterate 3 refine st ?_
 refine wl (s_alloc ti32 hS ?_); clear hS; intro b19 w2 hb20 hS; refine po ?_
 refine wl (s_storeA ti32 (et d7) (et (k10 d3)) rfl rfl hS d0 rfl p0 dn ?_)
 clear hS; intro w3 hS
 refine st (nx ?_)
 iterate 3 refine st ?_
 refine wspd (k10 d7) (q10 p7) (q10 p7) (fun h21=>?_) (fun h21=>?_)
 ·replace h:=iT h21 h
  refine sy rfl (wy rfl (k10 d7) (s_load ti3 (et (k10 d8)) ((hS.blk d0).cell d0) (dt (q10 p9)) (sy rfl ?_)))
  iterate 2 refine st ?_
  refine wspd (k20 d2) (q20 p2) (q20 p2) (fun h22=>?_) (fun h22=>?_)
  ·replace h:=iT h22 h
   refine sy rfl (wy rfl (k20 d2) (s_load ti22 (et (k20 d3)) ((hS.blk d0).cell d3) (dt (q20 p4)) (sy rfl ?_)))
   replace h:=bI h; obtain ⟨r23,g24,h⟩:=h
   refine wy rfl (k20 d2) (s_callv isfn18 ef (e1 (et (k20 d4)) (e1 (et (k20 d5)) e0)) (r9_same_w (hg.t le9) m12 (m3.up le9) g24 hS) ?_)
   rintro _ w4 ⟨μ2,rfl,le25,hS⟩
   refine po ?_
   iterate 2 refine st ?_
   refine nw (cret ?_)
   obtain rfl:=Option.some.inj h
   refine ret1 rfl d6 ?_
   replace hS:=hS.drop Rm.z
   exact ⟨_,rfl,(le9.t le25),hS⟩
  ·replace h:=iF h22 h
   refine sn rfl rfl (sn rfl rfl (sn rfl rfl (sn rfl rfl ?_)))
   iterate 2 refine st ?_
   refine nw (cret ?_)
   obtain rfl:=Option.some.inj h
   refine ret1 rfl d6 ?_
   replace hS:=hS.drop Rm.z
   exact ⟨_,rfl,le9,hS⟩
 ·replace h:=iF h21 h
  refine sn rfl rfl (sn rfl rfl (sn rfl rfl ?_))
  iterate 2 refine st ?_
  refine sn rfl rfl (sn rfl rfl (sn rfl rfl (sn rfl rfl ?_)))
  iterate 2 refine st ?_
  refine nw (cret ?_)
  obtain rfl:=Option.some.inj h
  refine ret1 rfl d6 ?_
  replace hS:=hS.drop Rm.z
  exact ⟨_,rfl,le9,hS⟩
theorem law_dedupe_w (hg:Le Gm μ0) {p_1:List Int} {r:Bool} (m3:Sl μ0 a1 c2 p_1) (h:law_dedupe fu p_1=some r) (hS:Sq μ0 w0 w (rsF)):CallsV prog 12 [.slice a1 p_1.length c2] w (fun v w'=>∃ (μ':M) ,v=.bool r∧Le μ0 μ'∧Sq μ' w0 w' (rsF)):=by
 unfold law_dedupe at h
 refine enter func12 rfl (frm:=_::u5 (u10 (u20 []))) rfl (nz (st (ny (nz (st (wl (s_lensl underlying22 (et d6) (dt p7) (st (nw ?_)))))))))
 refine cifd (et d8) (fun h4=>?_) (fun h4=>?_)
 ·replace h:=iT h4 h
  refine nz (st (nw (cret (xr ?_))))
  obtain rfl:=Option.some.inj h
  refine ret1 rfl d2 ?_
  exact ⟨_,rfl,Le.r,hS⟩
 ·replace h:=iF h4 h
  refine cskip (xn (nz (st (ny (nz (st (wl (s_lensl underlying22 (et d9) (dt (q10 p0)) (st (nw (cblock ?_)))))))))))
  replace hS:=hS.nilRow 2 (Mo.sz Int)
  refine cloopE (List.range' 4 2++List.range' 12 20) (by decide +kernel) (fun n m w=>∃ μx i39 l42 v40 cs41,m=(yK3 (.i (v40)::(yO2 4 (yK5 (.i (.int .i64 i39)::(yO20 12 []))))))∧law_dedupe_l1 fu p_1 n i39 l42=some r∧Le μ0 μx∧Sq μx w0 w (.row v40 2 1 l42.length cs41::rsF)∧Rw μx cs41 l42) (by rintro _ _ _ ⟨_,_,_,_,_,rfl,_⟩; rfl) _ _ (aK3 (aI (aO2 (aK5 (aI (aO20 aZ)))))) ⟨_,0,[],(.slice none 0 0),[],rfl,h,Le.r,hS,Rw.nil⟩ ?_
  rintro n_1 _ t w1 ⟨μ1,i39,l42,v40,cs41,rfl,h,le77,hS,m78⟩
  cases n_1 with
  | zero=>cases h
  | succ n_1 =>
  unfold law_dedupe_l1 at h
  refine cnrm (mK3 (mi (mO2 (mK5 (mi (mO20 mz)))))) (nz (st (ny ?_)))
  refine cifd (et (k10 d2)) (fun h79=>?_) (fun h79=>?_)
  ·replace h:=iT h79 h
   refine cskip (xn (cseq (cblock (nz (st ?_)))))
   replace h:=bI h; obtain ⟨x80,g81,h⟩:=h
   obtain ⟨b82,o83,cs84,e85,f86,m87⟩:=SlR.elem (m3.up le77) g81
   obtain rfl:=m87
   refine wl (s_iax underlying22 ti2 (et d9) (et (k10 d1)) e85 (dt (q10 p4)) (ld ((f86 _ hS.a).one d0) ?_))
   iterate 2 refine st ?_
   refine ny ?_
   refine ccutE (List.range' 16 10) (by decide) (fun m w=>∃ μx b88,m=(yK10 (yK6 (yO10 16 (.i (.bool b88)::[]))))∧law_dedupe_j1 i39 l42 x80 (law_dedupe_l1 fu p_1 n_1) b88=some r∧Le μ1 μx∧Sq μx w0 w (.row v40 2 1 l42.length cs41::rsF)) (by rintro _ _ ⟨_,_,rfl,_⟩; rfl) ?_ ?_
   ·refine creg ?_
    iterate 3 refine st ?_
    refine wspd (k10 d8) (q10 p8) (q10 p8) (fun h89=>?_) (fun h89=>?_)
    ·replace h:=iT h89 h
     refine sn rfl rfl (sn rfl rfl (sn rfl rfl (sn rfl rfl (sn rfl rfl (sn rfl rfl (sn rfl rfl (st (wnil (xl ?_)))))))))
     exact ⟨_,_,rfl,(aK10 (aK6 (aO10 (aI aZ)))),_,true,rfl,h,Le.r,hS⟩
    ·replace h:=iF h89 h
     refine sy rfl (sy rfl ?_)
     replace h:=bI h; obtain ⟨i90,g91,h⟩:=h
     refine wy rfl (k10 d8) (s_subc (et (k20 d0)) ec g91 (dt (q20 p1)) ?_)
     replace h:=bI h; obtain ⟨x92,g93,h⟩:=h
     obtain ⟨b94,o95,cs96,e97,f98,m99⟩:=SlR.elem (m3.up le77) g93
     obtain rfl:=m99
     refine wy rfl (k10 d8) (s_iax underlying22 ti2 (et (k10 d9)) (et (k20 d1)) e97 (dt (q20 p2)) (wy rfl (k10 d8) (s_load ti2 (et (k20 d2)) ((f98 _ hS.a).one d0) (dt (q20 p3)) (sy rfl (sy rfl (st (wnil (xl ?_))))))))
     exact ⟨_,_,rfl,(aK10 (aK6 (aO10 (aI aZ)))),_,(decide (x92≠x80)),rfl,h,Le.r,hS⟩
   ·rintro _ t w2 ⟨μ2,b88,rfl,h,le100,hS⟩
    unfold law_dedupe_j1 at h
    refine nrm (mK10 (mK6 (mO10 (mi mz)))) (xn ?_)
    refine cifb (et (k20 d6)) (fun h101=>?_) (fun h101=>?_)
    ·replace h:=iT h101 h
     refine creg ?_
     iterate 2 refine st ?_
     refine wl (s_bsl underlying22 ti2 (Parts.s (et (k20 d8)) rfl Parts.z) rfl rfl hS ?_); clear hS; intro b102 w3 hb103 hS; refine po ?_
     replace h:=bI h; obtain ⟨l106,g107,h⟩:=h
     have m108:Rw μ2 [.int .i64 x80] [x80]:=(Rw.one (α:=Int) rfl)
     have m105:=Rw.app (m78.up le100) m108 g107
     refine wl (s_app1 underlying22 ti2 rfl (et (k20 d7)) (et (k20 d9)) hS d1 (hS.blk d0).cells m108 rfl g107 (by decide) ?_); clear hS; intro v104 w4 rs_ hp_ hS; cases (show _=rs_ from hp_)
     replace hS:=Sep.reput hS p1; refine po ?_
     replace hS:=hS.drop Rm.z
     refine st (wnil ?_)
     refine (fun h=>bn (xn h)) ?_
     refine creg ?_
     replace h:=bI h; obtain ⟨i109,g110,h⟩:=h
     refine wl (s_addc (et (k10 d1)) ec g110 (dt (q30 p1)) (st (wnil (xl ?_))))
     exact ⟨n_1,_,_,rfl,(aK3 (aI (aO2 (aK5 (aI (aO20 aZ)))))),⟨_,i109,l106,v104,(cs41++[.int .i64 x80]),rfl,h,(le77.t le100),hS,m105⟩,Nat.lt_succ_self _⟩
    ·replace h:=iF h101 h
     refine cskip ?_
     refine (fun h=>bn (xn h)) ?_
     refine creg ?_
     replace h:=bI h; obtain ⟨i111,g112,h⟩:=h
     refine wl (s_addc (et (k10 d1)) ec g112 (dt (q30 p1)) (st (wnil (xl ?_))))
     exact ⟨n_1,_,_,rfl,(aK3 (aI (aO2 (aK5 (aI (aO20 aZ)))))),⟨_,i111,l42,v40,cs41,rfl,h,(le77.t le100),hS,(m78.up le100)⟩,Nat.lt_succ_self _⟩
  ·replace h:=iF h79 h
   refine cexit ?_
   refine (fun h=>xe (xe (bh h))) ?_
   refine xn (nz ?_)
   iterate 2 refine st ?_
   refine wl (s_bsl underlying29 ti22 (Parts.s (et (k30 d3)) rfl Parts.z) rfl rfl hS ?_); clear hS; intro b113 w5 hb114 hS; refine po ?_
   replace hS:=hS.bg Y1
   obtain ⟨μ3,a115,c116,e119,le118,m117,hq_⟩:=Sep.frzRow hS m78 rfl; clear hS
   subst e119; have hS:=hq_; clear hq_
   obtain ⟨μ4,le121,m120,hS⟩:=Sep.frzBlk (l:=([p_1]:List (List Int))) hS (Rw.one (α:=List Int) (⟨a1,c2,rfl,(m3.up (le77.t le118))⟩)) (Nat.le_of_ble_eq_true rfl)
   replace h:=bI h; obtain ⟨r122,g123,h⟩:=h
   refine ca (l12_says_w (hg.t (le77.t (le118.t le121))) (m117.up le121) m120 g123 hS) ?_
   rintro _ w6 ⟨μ5,rfl,le124,hS⟩
   refine po (st (nw (cret ?_)))
   obtain rfl:=Option.some.inj h
   refine ret1 rfl d2 ?_
   exact ⟨_,rfl,(le77.t (le118.t (le121.t le124))),hS⟩
end Go.Proofs.YtegmgfljdeabeaaGreatDoor
