/- The shelf: texts of ShelfWindow Wl. -/
import Derived.Test.YtegmgfljdeabeaaGreatDoorCXu
import Derived.Test.YtegmgfljdeabeaaGreatDoorCPl
import Derived.Test.YtegmgfljdeabeaaGreatDoorCWd
set_option linter.unusedSimpArgs false
set_option linter.unusedVariables false
set_option linter.unusedSectionVars false
set_option maxRecDepth 100000
set_option maxHeartbeats 20000000
namespace Go.Proofs.YtegmgfljdeabeaaGreatDoor
open Go.Wk Go.Xt Go.Y Tryz
variable {c2 c5 fu:Nat} {a1 a4:Option Addr} {μ0:M} {w0 w:World} {rsF:List Res}
theorem r9_same_w (hg:Le Gm μ0) {p_1 p_2:List Int} {r:Bool} (m3:Sl μ0 a1 c2 p_1) (m6:Sl μ0 a4 c5 p_2) (h:r9_same p_1 p_2=some r) (hS:Sq μ0 w0 w (rsF)):CallsV prog 18 [.slice a1 p_1.length c2,.slice a4 p_2.length c5] w (fun v w'=>∃ (μ':M) ,v=.bool r∧Le μ0 μ'∧Sq μ' w0 w' (rsF)):=by
 unfold r9_same at h
 refine enter func18 rfl (frm:=_::_::u2 (u2 (u20 []))) rfl (nz (st (ny (nz (st (wl (s_lensl underlying22 (et d6) (dt p7) (st (wl (s_lensl underlying22 (et d8) (dt p9) (st (nw ?_))))))))))))
 refine cifd (et (k10 d0)) (fun h7=>?_) (fun h7=>?_)
 ·replace h:=iT h7 h
  refine nz (st (nw (cret (xr ?_))))
  obtain rfl:=Option.some.inj h
  refine ret1 rfl d4 ?_
  exact ⟨_,rfl,Le.r,hS⟩
 ·replace h:=iF h7 h
  refine cskip (xn (cseq (nz (st (wl (s_lensl underlying22 (et (k10 d1)) (dt (q10 p2)) (st (nw (cblock ?_)))))))))
  refine cloopE (List.range' 4 2++List.range' 14 12) (by decide) (fun n m w=>∃ μx i26,m=(yK4 (yO2 4 (yK7 (.i (.int .i64 i26)::(yO10 14 (yO2 24 []))))))∧r9_same_l1 p_1 p_2 n i26=some r∧Le μ0 μx∧Sq μx w0 w (rsF)) (by rintro _ _ _ ⟨_,_,rfl,_⟩; rfl) _ _ (aK4 (aO2 (aK7 (aI (aO10 (aO2 aZ)))))) ⟨_,0,rfl,h,Le.r,hS⟩ ?_
  rintro n_1 _ t w1 ⟨μ1,i26,rfl,h,le45,hS⟩
  cases n_1 with
  | zero=>cases h
  | succ n_1 =>
  unfold r9_same_l1 at h
  refine cnrm (mK4 (mO2 (mK7 (mi (mO10 (mO2 mz)))))) (nz (st (ny ?_)))
  refine cifd (et (k10 d4)) (fun h46=>?_) (fun h46=>?_)
  ·replace h:=iT h46 h
   refine cskip (xn (cseq (cblock (nz ?_))))
   iterate 2 refine st ?_
   refine ny ?_
   refine cdraw (by kernel_rfl) rfl fun w2 hh_ ho_ ht_ hu_=>?_
   replace hS:=hS.drew hh_ ho_ ht_ hu_
   refine cpi 0 rfl (cpi 1 rfl ?_)
   replace h:=bI h; obtain ⟨x47,g48,h⟩:=h
   obtain ⟨b49,o50,cs51,e52,f53,m54⟩:=SlR.elem (m3.up le45) g48
   obtain rfl:=m54
   refine cp 2 rfl (u_iax underlying22 ti2 (et (k10 d6)) (et (k10 d7)) e52) (q10 p8) (cpi 4 rfl (cpi 5 rfl ?_))
   replace h:=bI h; obtain ⟨x55,g56,h⟩:=h
   obtain ⟨b57,o58,cs59,e60,f61,m62⟩:=SlR.elem (m6.up le45) g56
   obtain rfl:=m62
   refine cp 6 rfl (u_iax underlying22 ti2 (et (k20 d0)) (et (k20 d1)) e60) (q20 p2) (cr 3 [3,8] rfl (u_load ti2 (et (k10 d8)) ((f53 _ hS.a).one d0)) (q10 p9) (cr 7 [7,8] rfl (u_load ti2 (et (k20 d2)) ((f61 _ hS.a).one d0)) (q20 p3) (cpi 8 rfl (nu ?_))))
   refine cifd (et (k20 d4)) (fun h63=>?_) (fun h63=>?_)
   ·replace h:=iT h63 h
    refine nz (st (nw (cret ?_)))
    refine (fun h=>br (xr (xr (br (xr h))))) ?_
    obtain rfl:=Option.some.inj h
    refine ret1 rfl d4 ?_
    exact ⟨_,rfl,le45,hS⟩
   ·replace h:=iF h63 h
    refine cskip ?_
    refine (fun h=>bn (xn h)) ?_
    refine creg ?_
    replace h:=bI h; obtain ⟨i65,g66,h⟩:=h
    refine wl (s_addc (et (k10 d3)) ec g66 (dt (q20 p5)) (st (wnil (xl ?_))))
    exact ⟨n_1,_,_,rfl,(aK4 (aO2 (aK7 (aI (aO10 (aO2 aZ)))))),⟨_,i65,rfl,h,le45,hS⟩,Nat.lt_succ_self _⟩
  ·replace h:=iF h46 h
   refine cexit ?_
   refine (fun h=>xe (xe (bh h))) ?_
   refine xn (nz (st (nw (cret ?_))))
   obtain rfl:=Option.some.inj h
   refine ret1 rfl d4 ?_
   exact ⟨_,rfl,le45,hS⟩
theorem l12_says_w (hg:Le Gm μ0) {p_1:List UInt8} {p_2:List Int} {p_3:List (List Int)} {r:Bool} (m3:Sl μ0 a1 c2 p_2) (m6:Sl μ0 a4 c5 p_3) (h:l12_says fu p_1 p_2 p_3=some r) (hS:Sq μ0 w0 w (rsF)):CallsV prog 15 [S p_1,.slice a1 p_2.length c2,.slice a4 p_3.length c5] w (fun v w'=>∃ (μ':M) ,v=.bool r∧Le μ0 μ'∧Sq μ' w0 w' (rsF)):=by
 unfold l12_says at h
 refine enter func15 rfl (frm:=_::_::_::u5 (u20 [])) rfl (nz (st (nx ?_)))
 iterate 2 refine st ?_
 replace h:=bI h; obtain ⟨r7,g8,h⟩:=h
 refine ca (sh_ask_w hg m6 g8 hS) ?_
 rintro _ w1 ⟨μ1,a10,c11,a13,c14,a16,c17,rfl,le9,hS,m12,m15,m18⟩
 refine po ?_
 iterate 3 refine st ?_
 refine wl (s_alloc ti32 hS ?_); clear hS; intro b19 w2 hb20 hS; refine po ?_
 refine wl (s_storeA ti32 (et d7) (et (k10 d3)) rfl rfl hS d0 rfl p0 dn ?_)
 clear hS; intro w3 hS
 refine st (nx ?_)
 iterate 3 refine st ?_
 refine wspd (k10 d7) (q10 p7) (q10 p7) (fun h21=>?_) (fun h21=>?_)
 ·replace h:=iT h21 h
  refine sy rfl (wy rfl (k10 d7) (s_load ti3 (et (k10 d8)) ((hS.blk d0).cell d0) (dt (q10 p9)) (sy rfl ?_)))
  iterate 2 refine st ?_
  refine wspd (k20 d2) (q20 p2) (q20 p2) (fun h22=>?_) (fun h22=>?_)
  ·replace h:=iT h22 h
   refine sy rfl (wy rfl (k20 d2) (s_load ti22 (et (k20 d3)) ((hS.blk d0).cell d3) (dt (q20 p4)) (sy rfl ?_)))
   replace h:=bI h; obtain ⟨r23,g24,h⟩:=h
   refine wy rfl (k20 d2) (s_callv isfn18 ef (e1 (et (k20 d4)) (e1 (et (k20 d5)) e0)) (r9_same_w (hg.t le9) m12 (m3.up le9) g24 hS) ?_)
   rintro _ w4 ⟨μ2,rfl,le25,hS⟩
   refine po ?_
   iterate 2 refine st ?_
   refine nw (cret ?_)
   obtain rfl:=Option.some.inj h
   refine ret1 rfl d6 ?_
   replace hS:=hS.drop Rm.z
   exact ⟨_,rfl,(le9.t le25),hS⟩
  ·replace h:=iF h22 h
   refine sn rfl rfl (sn rfl rfl (sn rfl rfl (sn rfl rfl ?_)))
   iterate 2 refine st ?_
   refine nw (cret ?_)
   obtain rfl:=Option.some.inj h
   refine ret1 rfl d6 ?_
   replace hS:=hS.drop Rm.z
   exact ⟨_,rfl,le9,hS⟩
 ·replace h:=iF h21 h
  refine sn rfl rfl (sn rfl rfl (sn rfl rfl ?_))
  iterate 2 refine st ?_
  refine sn rfl rfl (sn rfl rfl (sn rfl rfl (sn rfl rfl ?_)))
  iterate 2 refine st ?_
  refine nw (cret ?_)
  obtain rfl:=Option.some.inj h
  refine ret1 rfl d6 ?_
  replace hS:=hS.drop Rm.z
  exact ⟨_,rfl,le9,hS⟩
theorem law_window_w (hg:Le Gm μ0) {p_1:List Int} {r:Bool} (m3:Sl μ0 a1 c2 p_1) (h:law_window fu p_1=some r) (hS:Sq μ0 w0 w (rsF)):CallsV prog 11 [.slice a1 p_1.length c2] w (fun v w'=>∃ (μ':M) ,v=.bool r∧Le μ0 μ'∧Sq μ' w0 w' (rsF)):=by
 unfold law_window at h
 refine enter func11 rfl (frm:=_::u2 (u5 (u10 (u20 [])))) rfl (nz (st (ny (nz (st (wl (s_lensl underlying22 (et d5) (dt p6) (st (nw ?_)))))))))
 refine cifd (et d7) (fun h4=>?_) (fun h4=>?_)
 ·replace h:=iT h4 h
  refine nz (st (nw (cret (xr ?_))))
  obtain rfl:=Option.some.inj h
  refine ret1 rfl d2 ?_
  exact ⟨_,rfl,Le.r,hS⟩
 ·replace h:=iF h4 h
  refine cskip (xn (nz (st (ny (nz (st (nw (cblock ?_))))))))
  replace hS:=hS.nilRow 2 (Mo.sz Int)
  refine cloopE (List.range' 8 26) (by decide +kernel) (fun n m w=>∃ μx i45 l48 v46 cs47,m=(yK3 (.i (v46)::(.i (.int .i64 i45)::(yK3 (yO20 8 (yO6 28 []))))))∧law_window_l1 fu p_1 n i45 l48=some r∧Le μ0 μx∧Sq μx w0 w (.row v46 2 1 l48.length cs47::rsF)∧Rw μx cs47 l48) (by rintro _ _ _ ⟨_,_,_,_,_,rfl,_⟩; rfl) _ _ (aK3 (aI (aI (aK3 (aO20 (aO6 aZ)))))) ⟨_,0,[],(.slice none 0 0),[],rfl,h,Le.r,hS,Rw.nil⟩ ?_
  rintro n_1 _ t w1 ⟨μ1,i45,l48,v46,cs47,rfl,h,le89,hS,m90⟩
  cases n_1 with
  | zero=>cases h
  | succ n_1 =>
  unfold law_window_l1 at h
  refine cnrm (mK3 (mi (mi (mK3 (mO20 (mO6 mz)))))) (cseq (nz (st ?_)))
  replace h:=bI h; obtain ⟨i91,g92,h⟩:=h
  refine wl (s_addc (et d8) ec g92 (dt p9) (st (wl (s_lensl underlying22 (et (k10 d0)) (dt (q10 p1)) (st (nw ?_))))))
  refine cifd (et (k10 d2)) (fun h93=>?_) (fun h93=>?_)
  ·replace h:=iT h93 h
   refine cskip (xn (cseq (cblock ?_)))
   refine cdraw (by kernel_rfl) rfl fun w2 hh_ ho_ ht_ hu_=>?_
   replace hS:=hS.drew hh_ ho_ ht_ hu_
   refine cpi 0 rfl (cpi 1 rfl (cpi 2 rfl ?_))
   replace h:=bI h; obtain ⟨x94,g95,h⟩:=h
   obtain ⟨b96,o97,cs98,e99,f100,m101⟩:=SlR.elem (m3.up le89) g95
   obtain rfl:=m101
   refine cp 3 rfl (u_iax underlying22 ti2 (et (k10 d6)) (et (k10 d7)) e99) (q10 p8) (cpi 5 rfl (cpi 6 rfl ?_))
   replace h:=bI h; obtain ⟨i102,g103,h⟩:=h
   refine cp 7 rfl (u_addc (et (k20 d1)) ec g103) (q20 p2) ?_
   replace h:=bI h; obtain ⟨x104,g105,h⟩:=h
   obtain ⟨b106,o107,cs108,e109,f110,m111⟩:=SlR.elem (m3.up le89) g105
   obtain rfl:=m111
   refine cp 8 rfl (u_iax underlying22 ti2 (et (k20 d0)) (et (k20 d2)) e109) (q20 p3) (cpi 11 rfl (cpi 12 rfl ?_))
   replace h:=bI h; obtain ⟨i112,g113,h⟩:=h
   refine cp 13 rfl (u_addc (et (k20 d7)) ec g113) (q20 p8) ?_
   replace h:=bI h; obtain ⟨x114,g115,h⟩:=h
   obtain ⟨b116,o117,cs118,e119,f120,m121⟩:=SlR.elem (m3.up le89) g115
   obtain rfl:=m121
   refine cp 14 rfl (u_iax underlying22 ti2 (et (k20 d6)) (et (k20 d8)) e119) (q20 p9) (cr 4 [4,10,16,17,18,19] rfl (u_load ti2 (et (k10 d8)) ((f100 _ hS.a).one d0)) (q10 p9) (cr 9 [9,10,16,17,18,19] rfl (u_load ti2 (et (k20 d3)) ((f110 _ hS.a).one d0)) (q20 p4) (cp 10 rfl (u_add (et (k10 d9)) (et (k20 d4)) rfl) (q20 p5) (cr 15 [15,16,17,18,19] rfl (u_load ti2 (et (k20 d9)) ((f120 _ hS.a).one d0)) (q30 p0) (cp 16 rfl (u_add (et (k20 d5)) (et (k30 d0)) rfl) (q30 p1) ?_)))))
   refine sc1 rfl rfl rfl (s_bsl underlying22 ti2 (Parts.s (et (k30 d1)) rfl Parts.z) rfl rfl hS ?_); clear hS; intro b122 w3 hb123 hS; refine po ?_
   replace h:=bI h; obtain ⟨l126,g127,h⟩:=h
   have m128:Rw μ1 [.int .i64 (w64 ((w64 (x94+x104))+x114))] [w64 ((w64 (x94+x104))+x114)]:=(Rw.one (α:=Int) rfl)
   have m125:=Rw.app m90 m128 g127
   refine sc1 rfl rfl rfl (s_app1 underlying22 ti2 rfl (et (k10 d5)) (et (k30 d2)) hS d1 (hS.blk d0).cells m128 rfl g127 (by decide) ?_); clear hS; intro v124 w4 rs_ hp_ hS; cases (show _=rs_ from hp_)
   replace hS:=Sep.reput hS p1; refine po ?_
   replace hS:=hS.drop Rm.z
   refine cpi 19 rfl (sc_nil ?_)
   refine (fun h=>bn (xn h)) ?_
   refine creg (st ?_)
   replace h:=bI h; obtain ⟨i129,g130,h⟩:=h
   refine wl (s_addc (et (k10 d3)) ec g130 (dt (q10 p4)) (st (wnil (xl ?_))))
   exact ⟨n_1,_,_,rfl,(aK3 (aI (aI (aK3 (aO20 (aO6 aZ)))))),⟨_,i129,l126,v124,(cs47++[.int .i64 (w64 ((w64 (x94+x104))+x114))]),rfl,h,le89,hS,m125⟩,Nat.lt_succ_self _⟩
  ·replace h:=iF h93 h
   refine cexit ?_
   refine (fun h=>xe (xe (bh h))) ?_
   refine xn (nz ?_)
   iterate 2 refine st ?_
   refine wl (s_bsl underlying29 ti22 (Parts.s (et (k30 d5)) rfl Parts.z) rfl rfl hS ?_); clear hS; intro b131 w5 hb132 hS; refine po ?_
   replace hS:=hS.bg Y1
   obtain ⟨μ2,a133,c134,e137,le136,m135,hq_⟩:=Sep.frzRow hS m90 rfl; clear hS
   subst e137; have hS:=hq_; clear hq_
   obtain ⟨μ3,le139,m138,hS⟩:=Sep.frzBlk (l:=([p_1]:List (List Int))) hS (Rw.one (α:=List Int) (⟨a1,c2,rfl,(m3.up (le89.t le136))⟩)) (Nat.le_of_ble_eq_true rfl)
   replace h:=bI h; obtain ⟨r140,g141,h⟩:=h
   refine ca (l12_says_w (hg.t (le89.t (le136.t le139))) (m135.up le139) m138 g141 hS) ?_
   rintro _ w6 ⟨μ4,rfl,le142,hS⟩
   refine po (st (nw (cret ?_)))
   obtain rfl:=Option.some.inj h
   refine ret1 rfl d2 ?_
   exact ⟨_,rfl,(le89.t (le136.t (le139.t le142))),hS⟩
end Go.Proofs.YtegmgfljdeabeaaGreatDoor
