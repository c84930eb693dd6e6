/- The shelf: texts of ShelfUntil Wl. -/
import Derived.Test.YtegmgfljdeabeaaGreatDoorCXu
import Derived.Test.YtegmgfljdeabeaaGreatDoorCPl
import Derived.Test.YtegmgfljdeabeaaGreatDoorCWd
set_option linter.unusedSimpArgs false
set_option linter.unusedVariables false
set_option linter.unusedSectionVars false
set_option maxRecDepth 100000
set_option maxHeartbeats 20000000
namespace Go.Proofs.YtegmgfljdeabeaaGreatDoor
open Go.Wk Go.Xt Go.Y Tryz
variable {c2 c5 fu:Nat} {a1 a4:Option Addr} {μ0:M} {w0 w:World} {rsF:List Res}
theorem r9_same_w (hg:Le Gm μ0) {p_1 p_2:List Int} {r:Bool} (m3:Sl μ0 a1 c2 p_1) (m6:Sl μ0 a4 c5 p_2) (h:r9_same p_1 p_2=some r) (hS:Sq μ0 w0 w (rsF)):CallsV prog 18 [.slice a1 p_1.length c2,.slice a4 p_2.length c5] w (fun v w'=>∃ (μ':M) ,v=.bool r∧Le μ0 μ'∧Sq μ' w0 w' (rsF)):=by
 unfold r9_same at h
 refine enter func18 rfl (frm:=_::_::u2 (u2 (u20 []))) rfl (nz (st (ny (nz (st (wl (s_lensl underlying22 (et d6) (dt p7) (st (wl (s_lensl underlying22 (et d8) (dt p9) (st (nw ?_))))))))))))
 refine cifd (et (k10 d0)) (fun h7=>?_) (fun h7=>?_)
 ·replace h:=iT h7 h
  refine nz (st (nw (cret (xr ?_))))
  obtain rfl:=Option.some.inj h
  refine ret1 rfl d4 ?_
  exact ⟨_,rfl,Le.r,hS⟩
 ·replace h:=iF h7 h
  refine cskip (xn (cseq (nz (st (wl (s_lensl underlying22 (et (k10 d1)) (dt (q10 p2)) (st (nw (cblock ?_)))))))))
  refine cloopE (List.range' 4 2++List.range' 14 12) (by decide) (fun n m w=>∃ μx i26,m=(yK4 (yO2 4 (yK7 (.i (.int .i64 i26)::(yO10 14 (yO2 24 []))))))∧r9_same_l1 p_1 p_2 n i26=some r∧Le μ0 μx∧Sq μx w0 w (rsF)) (by rintro _ _ _ ⟨_,_,rfl,_⟩; rfl) _ _ (aK4 (aO2 (aK7 (aI (aO10 (aO2 aZ)))))) ⟨_,0,rfl,h,Le.r,hS⟩ ?_
  rintro n_1 _ t w1 ⟨μ1,i26,rfl,h,le45,hS⟩
  cases n_1 with
  | zero=>cases h
  | succ n_1 =>
  unfold r9_same_l1 at h
  refine cnrm (mK4 (mO2 (mK7 (mi (mO10 (mO2 mz)))))) (nz (st (ny ?_)))
  refine cifd (et (k10 d4)) (fun h46=>?_) (fun h46=>?_)
  ·replace h:=iT h46 h
   refine cskip (xn (cseq (cblock (nz ?_))))
   iterate 2 refine st ?_
   refine ny ?_
   refine cdraw (by kernel_rfl) rfl fun w2 hh_ ho_ ht_ hu_=>?_
   replace hS:=hS.drew hh_ ho_ ht_ hu_
   refine cpi 0 rfl (cpi 1 rfl ?_)
   replace h:=bI h; obtain ⟨x47,g48,h⟩:=h
   obtain ⟨b49,o50,cs51,e52,f53,m54⟩:=SlR.elem (m3.up le45) g48
   obtain rfl:=m54
   refine cp 2 rfl (u_iax underlying22 ti2 (et (k10 d6)) (et (k10 d7)) e52) (q10 p8) (cpi 4 rfl (cpi 5 rfl ?_))
   replace h:=bI h; obtain ⟨x55,g56,h⟩:=h
   obtain ⟨b57,o58,cs59,e60,f61,m62⟩:=SlR.elem (m6.up le45) g56
   obtain rfl:=m62
   refine cp 6 rfl (u_iax underlying22 ti2 (et (k20 d0)) (et (k20 d1)) e60) (q20 p2) (cr 3 [3,8] rfl (u_load ti2 (et (k10 d8)) ((f53 _ hS.a).one d0)) (q10 p9) (cr 7 [7,8] rfl (u_load ti2 (et (k20 d2)) ((f61 _ hS.a).one d0)) (q20 p3) (cpi 8 rfl (nu ?_))))
   refine cifd (et (k20 d4)) (fun h63=>?_) (fun h63=>?_)
   ·replace h:=iT h63 h
    refine nz (st (nw (cret ?_)))
    refine (fun h=>br (xr (xr (br (xr h))))) ?_
    obtain rfl:=Option.some.inj h
    refine ret1 rfl d4 ?_
    exact ⟨_,rfl,le45,hS⟩
   ·replace h:=iF h63 h
    refine cskip ?_
    refine (fun h=>bn (xn h)) ?_
    refine creg ?_
    replace h:=bI h; obtain ⟨i65,g66,h⟩:=h
    refine wl (s_addc (et (k10 d3)) ec g66 (dt (q20 p5)) (st (wnil (xl ?_))))
    exact ⟨n_1,_,_,rfl,(aK4 (aO2 (aK7 (aI (aO10 (aO2 aZ)))))),⟨_,i65,rfl,h,le45,hS⟩,Nat.lt_succ_self _⟩
  ·replace h:=iF h46 h
   refine cexit ?_
   refine (fun h=>xe (xe (bh h))) ?_
   refine xn (nz (st (nw (cret ?_))))
   obtain rfl:=Option.some.inj h
   refine ret1 rfl d4 ?_
   exact ⟨_,rfl,le45,hS⟩
theorem l12_says_w (hg:Le Gm μ0) {p_1:List UInt8} {p_2:List Int} {p_3:List (List Int)} {r:Bool} (m3:Sl μ0 a1 c2 p_2) (m6:Sl μ0 a4 c5 p_3) (h:l12_says fu p_1 p_2 p_3=some r) (hS:Sq μ0 w0 w (rsF)):CallsV prog 15 [S p_1,.slice a1 p_2.length c2,.slice a4 p_3.length c5] w (fun v w'=>∃ (μ':M) ,v=.bool r∧Le μ0 μ'∧Sq μ' w0 w' (rsF)):=by
 unfold l12_says at h
 refine enter func15 rfl (frm:=_::_::_::u5 (u20 [])) rfl (nz (st (nx ?_)))
 iterate 2 refine st ?_
 replace h:=bI h; obtain ⟨r7,g8,h⟩:=h
 refine ca (sh_ask_w hg m6 g8 hS) ?_
 rintro _ w1 ⟨μ1,a10,c11,a13,c14,a16,c17,rfl,le9,hS,m12,m15,m18⟩
 refine po ?_
 iterate 3 refine st ?_
 refine wl (s_alloc ti32 hS ?_); clear hS; intro b19 w2 hb20 hS; refine po ?_
 refine wl (s_storeA ti32 (et d7) (et (k10 d3)) rfl rfl hS d0 rfl p0 dn ?_)
 clear hS; intro w3 hS
 refine st (nx ?_)
 iterate 3 refine st ?_
 refine wspd (k10 d7) (q10 p7) (q10 p7) (fun h21=>?_) (fun h21=>?_)
 ·replace h:=iT h21 h
  refine sy rfl (wy rfl (k10 d7) (s_load ti3 (et (k10 d8)) ((hS.blk d0).cell d0) (dt (q10 p9)) (sy rfl ?_)))
  iterate 2 refine st ?_
  refine wspd (k20 d2) (q20 p2) (q20 p2) (fun h22=>?_) (fun h22=>?_)
  ·replace h:=iT h22 h
   refine sy rfl (wy rfl (k20 d2) (s_load ti22 (et (k20 d3)) ((hS.blk d0).cell d3) (dt (q20 p4)) (sy rfl ?_)))
   replace h:=bI h; obtain ⟨r23,g24,h⟩:=h
   refine wy rfl (k20 d2) (s_callv isfn18 ef (e1 (et (k20 d4)) (e1 (et (k20 d5)) e0)) (r9_same_w (hg.t le9) m12 (m3.up le9) g24 hS) ?_)
   rintro _ w4 ⟨μ2,rfl,le25,hS⟩
   refine po ?_
   iterate 2 refine st ?_
   refine nw (cret ?_)
   obtain rfl:=Option.some.inj h
   refine ret1 rfl d6 ?_
   replace hS:=hS.drop Rm.z
   exact ⟨_,rfl,(le9.t le25),hS⟩
  ·replace h:=iF h22 h
   refine sn rfl rfl (sn rfl rfl (sn rfl rfl (sn rfl rfl ?_)))
   iterate 2 refine st ?_
   refine nw (cret ?_)
   obtain rfl:=Option.some.inj h
   refine ret1 rfl d6 ?_
   replace hS:=hS.drop Rm.z
   exact ⟨_,rfl,le9,hS⟩
 ·replace h:=iF h21 h
  refine sn rfl rfl (sn rfl rfl (sn rfl rfl ?_))
  iterate 2 refine st ?_
  refine sn rfl rfl (sn rfl rfl (sn rfl rfl (sn rfl rfl ?_)))
  iterate 2 refine st ?_
  refine nw (cret ?_)
  obtain rfl:=Option.some.inj h
  refine ret1 rfl d6 ?_
  replace hS:=hS.drop Rm.z
  exact ⟨_,rfl,le9,hS⟩
theorem law_until_w (hg:Le Gm μ0) {p_1:List Int} {r:Bool} (m3:Sl μ0 a1 c2 p_1) (h:law_until fu p_1=some r) (hS:Sq μ0 w0 w (rsF)):CallsV prog 14 [.slice a1 p_1.length c2] w (fun v w'=>∃ (μ':M) ,v=.bool r∧Le μ0 μ'∧Sq μ' w0 w' (rsF)):=by
 unfold law_until at h
 refine enter func14 rfl (frm:=_::u2 (u10 (u50 []))) rfl (nz (st (ny (nz (st (wl (s_lensl underlying22 (et d8) (dt p9) (st (nw ?_)))))))))
 refine cifd (et (k10 d0)) (fun h4=>?_) (fun h4=>?_)
 ·replace h:=iT h4 h
  refine nz (st (nw (cret (xr ?_))))
  obtain rfl:=Option.some.inj h
  refine ret1 rfl d2 ?_
  exact ⟨_,rfl,Le.r,hS⟩
 ·replace h:=iF h4 h
  refine cskip (xn (nz (st (ny (nz (st (wl (s_lensl underlying22 (et (k10 d1)) (dt (q10 p2)) (st (nw (cblock ?_)))))))))))
  replace hS:=hS.nilRow 2 (Mo.sz Int)
  refine cloopE ([2]++List.range' 5 3++List.range' 14 45) (by decide +kernel) (fun n m w=>∃ μx i59 l62 v60 cs61,m=(yK2 (yO1 2 (.i (v60)::(yK1 (yO3 5 (yK5 (.i (.int .i64 i59)::(yO20 14 (yO20 34 (yO5 54 []))))))))))∧law_until_l1 fu p_1 n i59 l62=some r∧Le μ0 μx∧Sq μx w0 w (.row v60 2 1 l62.length cs61::rsF)∧Rw μx cs61 l62) (by rintro _ _ _ ⟨_,_,_,_,_,rfl,_⟩; rfl) _ _ (aK2 (aO1 (aI (aK1 (aO3 (aK5 (aI (aO20 (aO20 (aO5 aZ)))))))))) ⟨_,0,[],(.slice none 0 0),[],rfl,h,Le.r,hS,Rw.nil⟩ ?_
  rintro n_1 _ t w1 ⟨μ1,i59,l62,v60,cs61,rfl,h,le122,hS,m123⟩
  cases n_1 with
  | zero=>cases h
  | succ n_1 =>
  unfold law_until_l1 at h
  refine cnrm (mK2 (mO1 (mi (mK1 (mO3 (mK5 (mi (mO20 (mO20 (mO5 mz)))))))))) (nz (st (ny ?_)))
  refine cifd (et (k10 d4)) (fun h124=>?_) (fun h124=>?_)
  ·replace h:=iT h124 h
   refine cskip (xn (cseq (cblock (nz ?_))))
   replace h:=bI h; obtain ⟨x125,g126,h⟩:=h
   obtain ⟨b127,o128,cs129,e130,f131,m132⟩:=SlR.elem (m3.up le122) g126
   obtain rfl:=m132
   refine wl (s_iax underlying22 ti2 (et (k10 d1)) (et (k10 d3)) e130 (dt (q10 p5)) (ld ((f131 _ hS.a).one d0) (st (ny (nz ?_)))))
   iterate 2 refine st ?_
   refine nw ?_
   refine cifd (et (k10 d8)) (fun h133=>?_) (fun h133=>?_)
   ·replace h:=iT h133 h
    refine nz (st ?_)
    refine wl (s_bsl underlying29 ti22 (Parts.s (et (k20 d0)) rfl Parts.z) rfl rfl hS ?_); clear hS; intro b134 w2 hb135 hS; refine po ?_
    obtain ⟨μ2,le137,m136,hS⟩:=Sep.frzBlk (l:=([p_1]:List (List Int))) hS (Rw.one (α:=List Int) (⟨a1,c2,rfl,(m3.up le122)⟩)) (Nat.le_of_ble_eq_true rfl)
    replace h:=bI h; obtain ⟨r138,g139,h⟩:=h
    refine ca (sh_ask_w (hg.t (le122.t le137)) m136 g139 hS) ?_
    rintro _ w3 ⟨μ3,a141,c142,a144,c145,a147,c148,rfl,le140,hS,m143,m146,m149⟩
    refine po ?_
    iterate 3 refine st ?_
    refine wl (s_alloc ti32 hS ?_); clear hS; intro b150 w4 hb151 hS; refine po ?_
    refine wl (s_storeA ti32 (et d6) (et (k20 d3)) rfl rfl hS d0 rfl p0 dn ?_)
    clear hS; intro w5 hS
    refine st (nx ?_)
    iterate 3 refine st ?_
    refine wspd (k20 d7) (q20 p7) (q20 p7) (fun h152=>?_) (fun h152=>?_)
    ·replace h:=iT h152 h
     refine sy rfl (wy rfl (k20 d7) (s_load ti3 (et (k20 d8)) ((hS.blk d0).cell d0) (dt (q20 p9)) (sy rfl ?_)))
     iterate 2 refine st ?_
     refine wspd (k30 d2) (q30 p2) (q30 p2) (fun h153=>?_) (fun h153=>?_)
     ·replace h:=iT h153 h
      refine sy rfl (wy rfl (k30 d2) (s_load ti22 (et (k30 d3)) ((hS.blk d0).cell d3) (dt (q30 p4)) (sy rfl ?_)))
      replace hS:=hS.bg Y1
      obtain ⟨μ4,a154,c155,e158,le157,m156,hq_⟩:=Sep.frzRow hS (m123.up (le137.t le140)) rfl; clear hS
      subst e158; have hS:=hq_; clear hq_
      replace h:=bI h; obtain ⟨r159,g160,h⟩:=h
      refine wy rfl (k30 d2) (s_callv isfn18 ef (e1 (et (k30 d4)) (e1 (et (k30 d5)) e0)) (r9_same_w (hg.t (le122.t (le137.t (le140.t le157)))) (m143.up le157) m156 g160 hS) ?_)
      rintro _ w6 ⟨μ5,rfl,le161,hS⟩
      refine po ?_
      iterate 2 refine st ?_
      refine wspb (k30 d8) (q30 p8) (q30 p8) (fun h162=>?_) (fun h162=>?_)
      ·replace h:=iT h162 h
       refine sy rfl (wy rfl (k30 d8) (s_load ti30 (et (k30 d9)) ((hS.blk d0).cell d5) (dt (q40 p0)) (wy rfl (k30 d8) (s_lensl underlying30 (et (k40 d0)) (dt (q40 p1)) (sy rfl ?_)))))
       iterate 2 refine st ?_
       refine wspd (k40 d4) (q40 p4) (q40 p4) (fun h163=>?_) (fun h163=>?_)
       ·replace h:=iT h163 h
        refine sy rfl (wy rfl (k40 d4) (s_load ti30 (et (k40 d5)) ((hS.blk d0).cell d5) (dt (q40 p6)) ?_))
        replace h:=bI h; obtain ⟨x164,g165,h⟩:=h
        obtain ⟨b166,o167,cs168,e169,f170,m171⟩:=SlR.elem (m149.up (le157.t le161)) g165
        obtain rfl:=m171
        refine wy rfl (k40 d4) (s_iax underlying30 ti3 (et (k40 d6)) ec e169 (dt (q40 p7)) (wy rfl (k40 d4) (s_load ti3 (et (k40 d7)) ((f170 _ hS.a).one d0) (dt (q40 p8)) (sy rfl (wy rfl (k40 d4) (s_lensl underlying22 (et (k40 d9)) (dt (q50 p0)) ?_))))))
        replace h:=bI h; obtain ⟨i172,g173,h⟩:=h
        refine wy rfl (k40 d4) (s_addc (et (k50 d0)) ec g173 (dt (q50 p1)) (sy rfl ?_))
        iterate 2 refine st ?_
        refine nw (cret ?_)
        refine (fun h=>xr (br (xr (xr (br (xr h)))))) ?_
        obtain rfl:=Option.some.inj h
        refine ret1 rfl d2 ?_
        replace hS:=hS.drop Rm.z
        exact ⟨_,rfl,(le122.t (le137.t (le140.t (le157.t le161)))),hS⟩
       ·replace h:=iF h163 h
        refine sn rfl rfl (sn rfl rfl (sn rfl rfl (sn rfl rfl (sn rfl rfl (sn rfl rfl (sn rfl rfl (sn rfl rfl ?_)))))))
        iterate 2 refine st ?_
        refine nw (cret ?_)
        refine (fun h=>xr (br (xr (xr (br (xr h)))))) ?_
        obtain rfl:=Option.some.inj h
        refine ret1 rfl d2 ?_
        replace hS:=hS.drop Rm.z
        exact ⟨_,rfl,(le122.t (le137.t (le140.t (le157.t le161)))),hS⟩
      ·replace h:=iF h162 h
       refine sn rfl rfl (sn rfl rfl (sn rfl rfl (sn rfl rfl ?_)))
       iterate 2 refine st ?_
       refine sn rfl rfl (sn rfl rfl (sn rfl rfl (sn rfl rfl (sn rfl rfl (sn rfl rfl (sn rfl rfl (sn rfl rfl ?_)))))))
       iterate 2 refine st ?_
       refine nw (cret ?_)
       refine (fun h=>xr (br (xr (xr (br (xr h)))))) ?_
       obtain rfl:=Option.some.inj h
       refine ret1 rfl d2 ?_
       replace hS:=hS.drop Rm.z
       exact ⟨_,rfl,(le122.t (le137.t (le140.t (le157.t le161)))),hS⟩
     ·replace h:=iF h153 h
      refine sn rfl rfl (sn rfl rfl (sn rfl rfl (sn rfl rfl ?_)))
      iterate 2 refine st ?_
      refine sn rfl rfl (sn rfl rfl (sn rfl rfl (sn rfl rfl ?_)))
      iterate 2 refine st ?_
      refine sn rfl rfl (sn rfl rfl (sn rfl rfl (sn rfl rfl (sn rfl rfl (sn rfl rfl (sn rfl rfl (sn rfl rfl ?_)))))))
      iterate 2 refine st ?_
      refine nw (cret ?_)
      refine (fun h=>xr (br (xr (xr (br (xr h)))))) ?_
      obtain rfl:=Option.some.inj h
      refine ret1 rfl d2 ?_
      replace hS:=(hS.drop Rm.z).drop Rm.z
      exact ⟨_,rfl,(le122.t (le137.t le140)),hS⟩
    ·replace h:=iF h152 h
     refine sn rfl rfl (sn rfl rfl (sn rfl rfl ?_))
     iterate 2 refine st ?_
     refine sn rfl rfl (sn rfl rfl (sn rfl rfl (sn rfl rfl ?_)))
     iterate 2 refine st ?_
     refine sn rfl rfl (sn rfl rfl (sn rfl rfl (sn rfl rfl ?_)))
     iterate 2 refine st ?_
     refine sn rfl rfl (sn rfl rfl (sn rfl rfl (sn rfl rfl (sn rfl rfl (sn rfl rfl (sn rfl rfl (sn rfl rfl ?_)))))))
     iterate 2 refine st ?_
     refine nw (cret ?_)
     refine (fun h=>xr (br (xr (xr (br (xr h)))))) ?_
     obtain rfl:=Option.some.inj h
     refine ret1 rfl d2 ?_
     replace hS:=(hS.drop Rm.z).drop Rm.z
     exact ⟨_,rfl,(le122.t (le137.t le140)),hS⟩
   ·replace h:=iF h133 h
    refine cskip (xn (creg ?_))
    iterate 2 refine st ?_
    refine wl (s_bsl underlying22 ti2 (Parts.s (et (k50 d5)) rfl Parts.z) rfl rfl hS ?_); clear hS; intro b174 w7 hb175 hS; refine po ?_
    replace h:=bI h; obtain ⟨l178,g179,h⟩:=h
    have m180:Rw μ1 [.int .i64 x125] [x125]:=(Rw.one (α:=Int) rfl)
    have m177:=Rw.app m123 m180 g179
    refine wl (s_app1 underlying22 ti2 rfl (et (k50 d4)) (et (k50 d6)) hS d1 (hS.blk d0).cells m180 rfl g179 (by decide) ?_); clear hS; intro v176 w8 rs_ hp_ hS; cases (show _=rs_ from hp_)
    replace hS:=Sep.reput hS p1; refine po ?_
    replace hS:=hS.drop Rm.z
    refine st (wnil ?_)
    refine (fun h=>bn (xn h)) ?_
    refine creg ?_
    replace h:=bI h; obtain ⟨i181,g182,h⟩:=h
    refine wl (s_addc (et (k10 d3)) ec g182 (dt (q50 p8)) (st (wnil (xl ?_))))
    exact ⟨n_1,_,_,rfl,(aK2 (aO1 (aI (aK1 (aO3 (aK5 (aI (aO20 (aO20 (aO5 aZ)))))))))),⟨_,i181,l178,v176,(cs61++[.int .i64 x125]),rfl,h,le122,hS,m177⟩,Nat.lt_succ_self _⟩
  ·replace h:=iF h124 h
   refine cexit ?_
   refine (fun h=>xe (xe (bh h))) ?_
   refine xn (nz ?_)
   iterate 2 refine st ?_
   refine wl (s_bsl underlying29 ti22 (Parts.s (et (k60 d0)) rfl Parts.z) rfl rfl hS ?_); clear hS; intro b183 w9 hb184 hS; refine po ?_
   replace hS:=hS.bg Y1
   obtain ⟨μ6,a185,c186,e189,le188,m187,hq_⟩:=Sep.frzRow hS m123 rfl; clear hS
   subst e189; have hS:=hq_; clear hq_
   obtain ⟨μ7,le191,m190,hS⟩:=Sep.frzBlk (l:=([p_1]:List (List Int))) hS (Rw.one (α:=List Int) (⟨a1,c2,rfl,(m3.up (le122.t le188))⟩)) (Nat.le_of_ble_eq_true rfl)
   replace h:=bI h; obtain ⟨r192,g193,h⟩:=h
   refine ca (l12_says_w (hg.t (le122.t (le188.t le191))) (m187.up le191) m190 g193 hS) ?_
   rintro _ w10 ⟨μ8,rfl,le194,hS⟩
   refine po (st (nw (cret ?_)))
   obtain rfl:=Option.some.inj h
   refine ret1 rfl d2 ?_
   exact ⟨_,rfl,(le122.t (le188.t (le191.t le194))),hS⟩
end Go.Proofs.YtegmgfljdeabeaaGreatDoor
