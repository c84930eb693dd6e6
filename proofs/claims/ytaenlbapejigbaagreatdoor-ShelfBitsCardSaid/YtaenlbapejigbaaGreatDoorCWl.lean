/- The shelf: texts of ShelfBits Wl. -/
import Derived.Test.YtaenlbapejigbaaGreatDoorCXu
import Derived.Test.YtaenlbapejigbaaGreatDoorCPl
import Derived.Test.YtaenlbapejigbaaGreatDoorCWd
set_option linter.unusedSimpArgs false
set_option linter.unusedVariables false
set_option linter.unusedSectionVars false
set_option maxRecDepth 100000
set_option maxHeartbeats 20000000
namespace Go.Proofs.YtaenlbapejigbaaGreatDoor
open Go.Wk Go.Xt Go.Y Tryz
variable {c2 c5 fu:Nat} {a1 a4:Option Addr} {μ0:M} {w0 w:World} {rsF:List Res}
theorem r9_same_w (hg:Le Gm μ0) {p_1 p_2:List Int} {r:Bool} (m3:Sl μ0 a1 c2 p_1) (m6:Sl μ0 a4 c5 p_2) (h:r9_same p_1 p_2=some r) (hS:Sq μ0 w0 w (rsF)):CallsV prog 17 [.slice a1 p_1.length c2,.slice a4 p_2.length c5] w (fun v w'=>∃ (μ':M) ,v=.bool r∧Le μ0 μ'∧Sq μ' w0 w' (rsF)):=by
 unfold r9_same at h
 refine enter func17 rfl (frm:=_::_::u2 (u2 (u20 []))) rfl (nz (st (ny (nz (st (wl (su (u_lensl underlying22 (et d6)) (dt p7) (st (wl (su (u_lensl underlying22 (et d8)) (dt p9) (st (nw ?_))))))))))))
 refine cifd (et (k10 d0)) (fun h7=>?_) (fun h7=>?_)
 ·replace h:=iT h7 h
  refine nz (st (nw (cret (xr ?_))))
  obtain rfl:=oI h
  refine ret1 rfl d4 ?_
  exact ⟨_,rfl,Le.r,hS⟩
 ·replace h:=iF h7 h
  refine cskip (xn (cseq (nz (st (wl (su (u_lensl underlying22 (et (k10 d1))) (dt (q10 p2)) (st (nw (cblock ?_)))))))))
  refine cloopE (rg 4 2++rg 14 12) (by decide) (fun n m w=>∃ μx i26,m=(yK4 (yO2 4 (yK7 (.i (.int .i64 i26)::(yO10 14 (yO2 24 []))))))∧r9_same_l1 p_1 p_2 n i26=some r∧Le μ0 μx∧Sq μx w0 w (rsF)) (by rintro _ _ _ ⟨_,_,rfl,_⟩; rfl) _ _ (aK4 (aO2 (aK7 (aI (aO10 (aO2 aZ)))))) ⟨_,0,rfl,h,Le.r,hS⟩ ?_
  rintro n_1 _ t w1 ⟨μ1,i26,rfl,h,le45,hS⟩
  cases n_1 with
  | zero=>cases h
  | succ n_1 =>
  unfold r9_same_l1 at h
  refine cnrm (mK4 (mO2 (mK7 (mi (mO10 (mO2 mz)))))) (nz (st (ny ?_)))
  refine cifd (et (k10 d4)) (fun h46=>?_) (fun h46=>?_)
  ·replace h:=iT h46 h
   refine cskip (xn (cseq (cblock (nz ?_))))
   iterate 2 refine st ?_
   refine ny ?_
   refine cdw hS ?_; clear hS; intro w2 hS
   refine cpi 0 rfl (cpi 1 rfl ?_)
   obtain ⟨x47,g48,h⟩:=bI h
   obtain ⟨b49,o50,cs51,e52,f53,m54⟩:=SlR.elem (m3.up le45) g48
   obtain rfl:=m54
   refine cp 2 rfl (u_iax underlying22 ti2 (et (k10 d6)) (et (k10 d7)) e52) (q10 p8) (cpi 4 rfl (cpi 5 rfl ?_))
   obtain ⟨x55,g56,h⟩:=bI h
   obtain ⟨b57,o58,cs59,e60,f61,m62⟩:=SlR.elem (m6.up le45) g56
   obtain rfl:=m62
   refine cp 6 rfl (u_iax underlying22 ti2 (et (k20 d0)) (et (k20 d1)) e60) (q20 p2) (cr 3 [3,8] rfl (u_load ti2 (et (k10 d8)) ((f53 _ hS.a).one d0)) (q10 p9) (cr 7 [7,8] rfl (u_load ti2 (et (k20 d2)) ((f61 _ hS.a).one d0)) (q20 p3) (cpi 8 rfl (nu ?_))))
   refine cifd (et (k20 d4)) (fun h63=>?_) (fun h63=>?_)
   ·replace h:=iT h63 h
    refine nz (st (nw (cret ?_)))
    refine (fun h=>br (xr (xr (br (xr h))))) ?_
    obtain rfl:=oI h
    refine ret1 rfl d4 ?_
    exact ⟨_,rfl,le45,hS⟩
   ·replace h:=iF h63 h
    refine cskip ?_
    refine (fun h=>bn (xn h)) ?_
    refine creg ?_
    obtain ⟨i65,g66,h⟩:=bI h
    refine wl (su (u_addc (et (k10 d3)) ec g66) (dt (q20 p5)) (st (wnil (xl ?_))))
    exact ⟨n_1,_,_,rfl,(aK4 (aO2 (aK7 (aI (aO10 (aO2 aZ)))))),⟨_,i65,rfl,h,le45,hS⟩,Nat.lt_succ_self _⟩
  ·replace h:=iF h46 h
   refine cexit ?_
   refine (fun h=>xe (xe (bh h))) ?_
   refine xn (nz (st (nw (cret ?_))))
   obtain rfl:=oI h
   refine ret1 rfl d4 ?_
   exact ⟨_,rfl,le45,hS⟩
theorem l12_says_w (hg:Le Gm μ0) {p_1:List UInt8} {p_2:List Int} {p_3:List (List Int)} {r:Bool} (m3:Sl μ0 a1 c2 p_2) (m6:Sl μ0 a4 c5 p_3) (h:l12_says fu p_1 p_2 p_3=some r) (hS:Sq μ0 w0 w (rsF)):CallsV prog 15 [S p_1,.slice a1 p_2.length c2,.slice a4 p_3.length c5] w (fun v w'=>∃ (μ':M) ,v=.bool r∧Le μ0 μ'∧Sq μ' w0 w' (rsF)):=by
 unfold l12_says at h
 refine enter func15 rfl (frm:=_::_::_::u5 (u20 [])) rfl (nz (st (nx ?_)))
 iterate 2 refine st ?_
 obtain ⟨r7,g8,h⟩:=bI h
 refine ca (sh_ask_w hg m6 g8 hS) ?_
 rintro _ w1 ⟨μ1,a10,c11,a13,c14,a16,c17,rfl,le9,hS,m12,m15,m18⟩
 refine po ?_
 iterate 3 refine st ?_
 refine wl (s_alloc ti29 hS ?_); clear hS; intro b19 w2 hb20 hS; refine po ?_
 refine wl (s_storeA ti29 (et d7) (et (k10 d3)) rfl rfl hS d0 rfl p0 dn ?_)
 clear hS; intro w3 hS
 refine st (nx ?_)
 iterate 3 refine st ?_
 refine wspd (k10 d7) (q10 p7) (q10 p7) (fun h21=>?_) (fun h21=>?_)
 ·replace h:=iT h21 h
  refine sy rfl (wy rfl (k10 d7) (s_load ti3 (et (k10 d8)) ((hS.blk d0).cell d0) (dt (q10 p9)) (sy rfl ?_)))
  iterate 2 refine st ?_
  refine wspd (k20 d2) (q20 p2) (q20 p2) (fun h22=>?_) (fun h22=>?_)
  ·replace h:=iT h22 h
   refine sy rfl (wy rfl (k20 d2) (s_load ti22 (et (k20 d3)) ((hS.blk d0).cell d3) (dt (q20 p4)) (sy rfl ?_)))
   obtain ⟨r23,g24,h⟩:=bI h
   refine wy rfl (k20 d2) (s_callv isfn17 ef (e1 (et (k20 d4)) (e1 (et (k20 d5)) e0)) (r9_same_w (hg.t le9) m12 (m3.up le9) g24 hS) ?_)
   rintro _ w4 ⟨μ2,rfl,le25,hS⟩
   refine po ?_
   iterate 2 refine st ?_
   refine nw (cret ?_)
   obtain rfl:=oI h
   refine ret1 rfl d6 ?_
   replace hS:=hS.drop Rm.z
   exact ⟨_,rfl,(le9.t le25),hS⟩
  ·replace h:=iF h22 h
   refine sn rfl rfl (sn rfl rfl (sn rfl rfl (sn rfl rfl ?_)))
   iterate 2 refine st ?_
   refine nw (cret ?_)
   obtain rfl:=oI h
   refine ret1 rfl d6 ?_
   replace hS:=hS.drop Rm.z
   exact ⟨_,rfl,le9,hS⟩
 ·replace h:=iF h21 h
  refine sn rfl rfl (sn rfl rfl (sn rfl rfl ?_))
  iterate 2 refine st ?_
  refine sn rfl rfl (sn rfl rfl (sn rfl rfl (sn rfl rfl ?_)))
  iterate 2 refine st ?_
  refine nw (cret ?_)
  obtain rfl:=oI h
  refine ret1 rfl d6 ?_
  replace hS:=hS.drop Rm.z
  exact ⟨_,rfl,le9,hS⟩
theorem law_bits_w (hg:Le Gm μ0) {p_1:List Int} {r:Bool} (m3:Sl μ0 a1 c2 p_1) (h:law_bits fu p_1=some r) (hS:Sq μ0 w0 w (rsF)):CallsV prog 12 [.slice a1 p_1.length c2] w (fun v w'=>∃ (μ':M) ,v=.bool r∧Le μ0 μ'∧Sq μ' w0 w' (rsF)):=by
 unfold law_bits at h
 refine enter func12 rfl (frm:=_::u2 (u2 (u5 (u10 (u20 []))))) rfl (nz (st (ny (nz (st (wl (su (u_lensl underlying22 (et d8)) (dt p9) (st (nw ?_)))))))))
 refine cifd (et (k10 d0)) (fun h4=>?_) (fun h4=>?_)
 ·replace h:=iT h4 h
  refine nz (st (nw (cret (xr ?_))))
  obtain rfl:=oI h
  refine ret1 rfl d2 ?_
  exact ⟨_,rfl,Le.r,hS⟩
 ·replace h:=iF h4 h
  refine cskip (xn (nz (st (ny (nz (st (wl (su (u_lensl underlying22 (et (k10 d1))) (dt (q10 p2)) (st (nw (cblock ?_)))))))))))
  replace hS:=hS.nilRow 2 (Mo.sz Int)
  refine cloopE (rg 5 3++rg 14 22) (by decide +kernel) (fun n m w=>∃ μx i43 l46 v44 cs45,m=(yK3 (.i (v44)::(yK1 (yO3 5 (yK5 (.i (.int .i64 i43)::(yO20 14 (yO2 34 []))))))))∧law_bits_l1 fu p_1 n i43 l46=some r∧Le μ0 μx∧Sq μx w0 w (.row v44 2 1 l46.length cs45::rsF)∧Rw μx cs45 l46) (by rintro _ _ _ ⟨_,_,_,_,_,rfl,_⟩; rfl) _ _ (aK3 (aI (aK1 (aO3 (aK5 (aI (aO20 (aO2 aZ)))))))) ⟨_,0,[],(.slice none 0 0),[],rfl,h,Le.r,hS,Rw.nil⟩ ?_
  rintro n_1 _ t w1 ⟨μ1,i43,l46,v44,cs45,rfl,h,le85,hS,m86⟩
  cases n_1 with
  | zero=>cases h
  | succ n_1 =>
  unfold law_bits_l1 at h
  refine cnrm (mK3 (mi (mK1 (mO3 (mK5 (mi (mO20 (mO2 mz)))))))) (nz (st (ny ?_)))
  refine cifd (et (k10 d4)) (fun h87=>?_) (fun h87=>?_)
  ·replace h:=iT h87 h
   refine cskip (xn (cseq (cblock (nz ?_))))
   obtain ⟨x88,g89,h⟩:=bI h
   obtain ⟨b90,o91,cs92,e93,f94,m95⟩:=SlR.elem (m3.up le85) g89
   obtain rfl:=m95
   refine wl (su (u_iax underlying22 ti2 (et (k10 d1)) (et (k10 d3)) e93) (dt (q10 p5)) (ld ((f94 _ hS.a).one d0) (st (nx (st (ny (nz (st (nw (cblock ?_))))))))))
   refine cloopE (rg 17 14) (by decide) (fun n m w=>∃ μx i102 i103,m=(yK6 (.i (.int .i64 i102)::(.i (.int .i64 i103)::(yK9 (yO10 17 (yO4 27 []))))))∧law_bits_l2 i43 l46 x88 (law_bits_l1 fu p_1 n_1) n i102 i103=some r∧Le μ1 μx∧Sq μx w0 w (.row v44 2 1 l46.length cs45::rsF)) (by rintro _ _ _ ⟨_,_,_,rfl,_⟩; rfl) _ _ (aK6 (aI (aI (aK9 (aO10 (aO4 aZ)))))) ⟨_,0,0,rfl,h,Le.r,hS⟩ ?_
   rintro n_2 _ t w2 ⟨μ2,i102,i103,rfl,h,le110,hS⟩
   cases n_2 with
   | zero=>cases h
   | succ n_2 =>
   unfold law_bits_l2 at h
   refine cnrm (mK6 (mi (mi (mK9 (mO10 (mO4 mz)))))) (cseq (cseq ?_))
   refine ccutE (rg 17 5) (by decide) (fun m w=>∃ μx b111,m=(yK10 (yK7 (yO5 17 (.i (.bool b111)::[]))))∧law_bits_j1 i43 l46 x88 i102 i103 (law_bits_l1 fu p_1 n_1) (law_bits_l2 i43 l46 x88 (law_bits_l1 fu p_1 n_1) n_2) b111=some r∧Le μ2 μx∧Sq μx w0 w (.row v44 2 1 l46.length cs45::rsF)) (by rintro _ _ ⟨_,_,rfl,_⟩; rfl) ?_ ?_
   ·refine creg ?_
    iterate 3 refine st ?_
    refine wspd (k10 d9) (q10 p9) (q10 p9) (fun h112=>?_) (fun h112=>?_)
    ·replace h:=iT h112 h
     refine sy rfl (sy rfl (st (wnil (xl ?_))))
     exact ⟨_,_,rfl,(aK10 (aK7 (aO5 (aI aZ)))),_,(decide ((0:Int)<x88)),rfl,h,Le.r,hS⟩
    ·replace h:=iF h112 h
     refine sn rfl rfl (sn rfl rfl (st (wnil (xl ?_))))
     exact ⟨_,_,rfl,(aK10 (aK7 (aO5 (aI aZ)))),_,false,rfl,h,Le.r,hS⟩
   ·rintro _ t w3 ⟨μ3,b111,rfl,h,le113,hS⟩
    unfold law_bits_j1 at h
    refine nrm (mK10 (mK7 (mO5 (mi mz)))) (xn ?_)
    refine cifb (et (k20 d2)) (fun h114=>?_) (fun h114=>?_)
    ·replace h:=iT h114 h
     refine cskip (xn (cseq (cblock (creg ?_))))
     iterate 3 refine st ?_
     obtain ⟨i115,g116,h⟩:=bI h
     refine wl (s_shr (et (k20 d6)) (et (k20 d7)) g116 (dt (q20 p8)) (wl (s_and1 (et (k20 d8)) ec (dt (q20 p9)) (wl (su (u_add (et (k20 d5)) (et (k20 d9)) rfl) (dt (q30 p0)) (st (wnil ?_)))))))
     refine (fun h=>bn (xn h)) ?_
     refine creg (st ?_)
     obtain ⟨i117,g118,h⟩:=bI h
     refine wl (su (u_addc (et (k20 d3)) ec g118) (dt (q20 p4)) (st (wnil (xl ?_))))
     exact ⟨n_2,_,_,rfl,(aK6 (aI (aI (aK9 (aO10 (aO4 aZ)))))),⟨_,(w64 (i102+(i115 % 2))),i117,rfl,h,(le110.t le113),hS⟩,Nat.lt_succ_self _⟩
    ·replace h:=iF h114 h
     refine cexit ?_
     refine (fun h=>xe (xe (bh h))) ?_
     refine xn (creg ?_)
     iterate 2 refine st ?_
     refine wl (s_bsl underlying22 ti2 (Parts.s (et (k30 d2)) rfl Parts.z) rfl rfl hS ?_); clear hS; intro b119 w4 hb120 hS; refine po ?_
     obtain ⟨l123,g124,h⟩:=bI h
     have m125:Rw μ3 [.int .i64 i102] [i102]:=(Rw.one (α:=Int) rfl)
     have m122:=Rw.app (m86.up (le110.t le113)) m125 g124
     refine wl (s_app1 underlying22 ti2 rfl (et (k30 d1)) (et (k30 d3)) hS d1 (hS.blk d0).cells m125 rfl g124 (by decide) ?_); clear hS; intro v121 w5 rs_ hp_ hS; cases (show _=rs_ from hp_)
     replace hS:=Sep.reput hS p1; refine po ?_
     replace hS:=hS.drop Rm.z
     refine st (wnil ?_)
     refine (fun h=>bn (xn h)) ?_
     refine creg ?_
     obtain ⟨i126,g127,h⟩:=bI h
     refine wl (su (u_addc (et (k10 d3)) ec g127) (dt (q30 p5)) (st (wnil (xl ?_))))
     exact ⟨n_1,_,_,rfl,(aK3 (aI (aK1 (aO3 (aK5 (aI (aO20 (aO2 aZ)))))))),⟨_,i126,l123,v121,(cs45++[.int .i64 i102]),rfl,h,(le85.t (le110.t le113)),hS,m122⟩,Nat.lt_succ_self _⟩
  ·replace h:=iF h87 h
   refine cexit ?_
   refine (fun h=>xe (xe (bh h))) ?_
   refine xn (nz ?_)
   iterate 2 refine st ?_
   refine wl (s_bsl underlying26 ti22 (Parts.s (et (k30 d7)) rfl Parts.z) rfl rfl hS ?_); clear hS; intro b128 w6 hb129 hS; refine po ?_
   replace hS:=hS.bg Y1
   obtain ⟨μ4,a130,c131,e134,le133,m132,hq_⟩:=Sep.frzRow hS m86 rfl; clear hS
   subst e134; have hS:=hq_; clear hq_
   obtain ⟨μ5,le136,m135,hS⟩:=Sep.frzBlk (l:=([p_1]:List (List Int))) hS (Rw.one (α:=List Int) (⟨a1,c2,rfl,(m3.up (le85.t le133))⟩)) (Nat.le_of_ble_eq_true rfl)
   obtain ⟨r137,g138,h⟩:=bI h
   refine ca (l12_says_w (hg.t (le85.t (le133.t le136))) (m132.up le136) m135 g138 hS) ?_
   rintro _ w7 ⟨μ6,rfl,le139,hS⟩
   refine po (st (nw (cret ?_)))
   obtain rfl:=oI h
   refine ret1 rfl d2 ?_
   exact ⟨_,rfl,(le85.t (le133.t (le136.t le139))),hS⟩
end Go.Proofs.YtaenlbapejigbaaGreatDoor
