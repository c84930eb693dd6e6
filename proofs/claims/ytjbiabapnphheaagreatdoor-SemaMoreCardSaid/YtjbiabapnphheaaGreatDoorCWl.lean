/- Texts of SemaMore Wl. -/
import Derived.Test.YtjbiabapnphheaaGreatDoorCXu
import Derived.Test.YtjbiabapnphheaaGreatDoorCPl
import Derived.Test.YtjbiabapnphheaaGreatDoorCWc
set_option linter.unusedSimpArgs false
set_option linter.unusedVariables false
set_option linter.unusedSectionVars false
set_option maxRecDepth 100000
set_option maxHeartbeats 20000000
namespace Go.Proofs.YtjbiabapnphheaaGreatDoor
open Go.Wk Go.Xt Go.Y Tryz
variable {c2 fu:Nat} {a1:Option Addr} {μ0:M} {w0 w:World} {rsF:List Res}
theorem l3_alive_w (hg:Le Gm μ0)  {r:Bool}  (h:l3_alive fu =some r) (hS:Sq μ0 w0 w (rsF)):CallsV prog 8 [] w (fun v w'=>∃ (μ':M) ,v=.bool r∧Le μ0 μ'∧Sq μ' w0 w' (rsF)):=by
 unfold l3_alive at h
 refine enter func8 rfl (frm:=u2 (u2 (u10 (u20 [])))) rfl (nz (st (nx ?_)))
 obtain ⟨r1,g2,h⟩:=bI h
 refine ca (syn_read_w hg g2 hS) ?_
 rintro _ w1 ⟨μ1,a4,c5,rfl,le3,hS,m6⟩
 refine po ?_
 iterate 3 refine st ?_
 refine wl (s_alloc ti27 hS ?_); clear hS; intro b7 w2 hb8 hS; refine po ?_
 refine st (wl (s_storeA ti27 (et d2) (et d8) rfl rfl hS d0 rfl p0 dn ?_))
 clear hS; intro w3 hS
 refine nx (st ?_)
 obtain ⟨r9,g10,h⟩:=bI h
 refine ca (sema_owners_w (hg.t le3) m6 g10 hS) ?_
 rintro _ w4 ⟨μ2,a12,c13,rfl,le11,hS,m14⟩
 refine po ?_
 iterate 3 refine st ?_
 refine wl (s_alloc ti27 hS ?_); clear hS; intro b15 w5 hb16 hS; refine po ?_
 refine st (wl (s_storeA ti27 (et d4) (et (k10 d3)) rfl rfl hS d0 rfl p0 dn ?_))
 clear hS; intro w6 hS
 refine nx (st (ld ((hS.blk d1).cell d0) ?_))
 iterate 2 refine st ?_
 refine wspd (k10 d7) (q10 p7) (q10 p7) (fun h17=>?_) (fun h17=>?_)
 ·replace h:=iT h17 h
  refine sy rfl (wy rfl (k10 d7) (s_load ti25 (et (k10 d8)) ((hS.blk d0).cell d0) (dt (q10 p9)) (sy rfl ?_)))
  iterate 2 refine st ?_
  refine wspd (k20 d2) (q20 p2) (q20 p2) (fun h18=>?_) (fun h18=>?_)
  ·replace h:=iT h18 h
   refine sy rfl (wy rfl (k20 d2) (su (u_lensl underlying24 (et (k20 d3))) (dt (q20 p4)) (sy rfl ?_)))
   iterate 2 refine st ?_
   refine wspd (k20 d7) (q20 p7) (q20 p7) (fun h19=>?_) (fun h19=>?_)
   ·replace h:=iT h19 h
    refine sy rfl ?_
    obtain ⟨x20,g21,h⟩:=bI h
    obtain ⟨b22,o23,cs24,e25,f26,m27⟩:=SlR.elem m14 g21
    obtain rfl:=m27
    refine wy rfl (k20 d7) (su (u_iax underlying24 ti37 (et (k20 d8)) ec e25) (dt (q20 p9)) (wy rfl (k20 d7) (s_loads ti37 (et (k20 d9)) (f26 _ hS.a) rfl (dt (q30 p0)) (wy rfl (k20 d7) (s_build ti37 pl37 (Fl.o rfl ec rfl rfl p0 (Fl.o rfl ec rfl rfl p1 (Fl.o rfl ec rfl rfl p2 Fl.z))) (dt (q30 p1)) (wy rfl (k20 d7) (s_eqa (ES.mk underlying37 eh37 eg37) (et (k30 d0)) (et (k30 d1)) (EqFs.o rfl rfl rfl ti9 d0 d0 (eq_str underlying9) (EqFs.o rfl rfl rfl ti9 d1 d1 (eq_str underlying9) (EqFs.o rfl rfl rfl ti9 d2 d2 (eq_str underlying9) EqFs.z))) rfl (dt (q30 p2)) ?_)))))))
    iterate 2 refine st ?_
    refine nw (cret ?_)
    obtain rfl:=oI h
    refine ret1 rfl d0 ?_
    replace hS:=(hS.drop Rm.z).drop Rm.z
    exact ⟨_,rfl,(le3.t le11),hS⟩
   ·replace h:=iF h19 h
    refine sn rfl rfl (sn rfl rfl (sn rfl rfl (sn rfl rfl (sn rfl rfl ?_))))
    iterate 2 refine st ?_
    refine nw (cret ?_)
    obtain rfl:=oI h
    refine ret1 rfl d0 ?_
    replace hS:=(hS.drop Rm.z).drop Rm.z
    exact ⟨_,rfl,(le3.t le11),hS⟩
  ·replace h:=iF h18 h
   refine sn rfl rfl (sn rfl rfl (sn rfl rfl ?_))
   iterate 2 refine st ?_
   refine sn rfl rfl (sn rfl rfl (sn rfl rfl (sn rfl rfl (sn rfl rfl ?_))))
   iterate 2 refine st ?_
   refine nw (cret ?_)
   obtain rfl:=oI h
   refine ret1 rfl d0 ?_
   replace hS:=(hS.drop Rm.z).drop Rm.z
   exact ⟨_,rfl,(le3.t le11),hS⟩
 ·replace h:=iF h17 h
  refine sn rfl rfl (sn rfl rfl (sn rfl rfl ?_))
  iterate 2 refine st ?_
  refine sn rfl rfl (sn rfl rfl (sn rfl rfl ?_))
  iterate 2 refine st ?_
  refine sn rfl rfl (sn rfl rfl (sn rfl rfl (sn rfl rfl (sn rfl rfl ?_))))
  iterate 2 refine st ?_
  refine nw (cret ?_)
  obtain rfl:=oI h
  refine ret1 rfl d0 ?_
  replace hS:=(hS.drop Rm.z).drop Rm.z
  exact ⟨_,rfl,(le3.t le11),hS⟩
end Go.Proofs.YtjbiabapnphheaaGreatDoor
set_option maxRecDepth 100000
set_option maxHeartbeats 20000000
namespace Go.Proofs.YtjbiabapnphheaaGreatDoor
open Go.Wk Go.Xt Go.Y Tryz
variable {c2 fu:Nat} {a1:Option Addr} {μ0:M} {w0 w:World} {rsF:List Res}
theorem law_more_w (hg:Le Gm μ0) {p_1:List TDef} {p_2:List UInt8} {r:Bool} (m3:Sl μ0 a1 c2 p_1) (h:law_more fu p_1 p_2=some r) (hS:Sq μ0 w0 w (rsF)):CallsV prog 4 [.slice a1 p_1.length c2,S p_2] w (fun v w'=>∃ (μ':M) ,v=.bool r∧Le μ0 μ'∧Sq μ' w0 w' (rsF)):=by
 unfold law_more at h
 refine enter func4 rfl (frm:=_::_::u2 (u2 (u5 (u20 (u50 []))))) rfl (nz (st (ny (nz ?_))))
 obtain ⟨r4,g5,h⟩:=bI h
 refine ca (l3_alive_w hg g5 hS) ?_
 rintro _ w1 ⟨μ1,rfl,le6,hS⟩
 refine po (st (nw ?_))
 refine cifnb (et (k10 d2)) (fun h7=>?_) (fun h7=>?_)
 ·replace h:=iF h7 h
  refine nz (st (nw (cret (xr ?_))))
  obtain rfl:=oI h
  refine ret1 rfl d4 ?_
  exact ⟨_,rfl,le6,hS⟩
 ·replace h:=iT h7 h
  refine cskip (xn (nz (st ?_)))
  obtain ⟨r8,g9,h⟩:=bI h
  refine ca (sema_owners_w (hg.t le6) (m3.up le6) g9 hS) ?_
  rintro _ w2 ⟨μ2,a11,c12,rfl,le10,hS,m13⟩
  refine po ?_
  iterate 3 refine st ?_
  refine wl (s_alloc ti27 hS ?_); clear hS; intro b14 w3 hb15 hS; refine po ?_
  refine st (wl (s_storeA ti27 (et d6) (et (k10 d7)) rfl rfl hS d0 rfl p0 dn ?_))
  clear hS; intro w4 hS
  refine ny (nz (st (ld ((hS.blk d0).cell d0) (st (nw ?_)))))
  refine cifd (et (k20 d0)) (fun h16=>?_) (fun h16=>?_)
  ·replace h:=iT h16 h
   refine nz (st (nw (cret (xr ?_))))
   obtain rfl:=oI h
   refine ret1 rfl d4 ?_
   replace hS:=hS.drop Rm.z
   exact ⟨_,rfl,(le6.t le10),hS⟩
  ·replace h:=iF h16 h
   refine cskip (xn (nz ?_))
   refine wl (s_bsl0 underlying22 ti35 hS ?_); clear hS; intro b17 w5 hb18 hS; refine po ?_
   refine st ?_
   replace hS:=hS.blkRow (n:=0) (sz:=Mo.sz TDef) d0 rfl (by decide) p0
   have m19:Rw μ2 [] ([]:List TDef):=Rw.nil
   obtain ⟨l22,g23,h⟩:=bI h
   obtain ⟨cs24,m25,m26⟩:=Sl.cells (m3.up (le6.t le10))
   have m21:=Rw.app m19 m25 g23
   refine wl (s_appS underlying22 ti35 rfl (et (k20 d1)) (et (k20 d2)) hS d0 (fun e=>(m26 e)) m25 g23 (by decide) ?_); clear hS; intro v20 w6 rs_ hp_ hS; cases (show _=rs_ from hp_)
   replace hS:=Sep.reput hS p0; refine po ?_
   refine st (wl (s_build ti31 pl31 (Fl.o rfl ec rfl rfl p0 Fl.z) (dt (q20 p5)) (wl (s_build ti35 pl35 (Fl.o rfl ec rfl rfl p0 (Fl.o rfl (et (k20 d4)) rfl rfl p1 (Fl.n rfl (et (k20 d5)) rfl rfl (Spl.s p2 (of_decide_eq_true rfl) (Spl.s p3 (of_decide_eq_true rfl) Spl.z)) (Fl.o rfl ec rfl rfl p6 Fl.z)))) (dt (q20 p6)) ?_))))
   refine wl (s_bsl1 underlying22 ti35 rfl (et (k20 d6)) rfl hS ?_); clear hS; intro b27 w7 hb28 hS; refine po ?_
   obtain ⟨l31,g32,h⟩:=bI h
   have m33:Rw μ2 [.int .i64 1,S p_2,.int .i64 1,S [],.int .i64 0,S [],.int .i64 1,.slice none 0 0,.slice none 0 0] [(TDef.mk 1 p_2 (TType.mk 1 []) (TType.mk 0 []) 1 ([]:List TParam) ([]:List TStat))]:=(Rw.one (α:=TDef) (TDef.i ⟨none,0,none,0,rfl,Sl.nil,Sl.nil⟩))
   have m30:=Rw.app m21 m33 g32
   refine wl (s_app1 underlying22 ti35 rfl (et (k20 d3)) (et (k20 d7)) hS d1 (hS.blk d0).cells m33 rfl g32 (by decide) ?_); clear hS; intro v29 w8 rs_ hp_ hS; cases (show _=rs_ from hp_)
   replace hS:=Sep.reput hS p1; refine po ?_
   replace hS:=hS.drop Rm.z
   refine st (nx (st ?_))
   obtain ⟨μ3,a34,c35,e38,le37,m36,hq_⟩:=Sep.frzRow hS m30 rfl; clear hS
   subst e38; have hS:=hq_; clear hq_
   obtain ⟨r39,g40,h⟩:=bI h
   refine ca (sema_owners_w (hg.t (le6.t (le10.t le37))) m36 g40 hS) ?_
   rintro _ w9 ⟨μ4,a42,c43,rfl,le41,hS,m44⟩
   refine po ?_
   iterate 3 refine st ?_
   refine wl (s_alloc ti27 hS ?_); clear hS; intro b45 w10 hb46 hS; refine po ?_
   refine st (wl (s_storeA ti27 (et d9) (et (k30 d3)) rfl rfl hS d0 rfl p0 dn ?_))
   clear hS; intro w11 hS
   refine ny (nz (st (ld ((hS.blk d0).cell d0) (st (nw ?_)))))
   refine cifd (et (k30 d6)) (fun h47=>?_) (fun h47=>?_)
   ·replace h:=iT h47 h
    refine nz (st (ld ((hS.blk d0).cell d0) ?_))
    iterate 2 refine st ?_
    refine wspd (k40 d0) (q40 p0) (q40 p0) (fun h48=>?_) (fun h48=>?_)
    ·replace h:=iT h48 h
     refine sn rfl rfl (sn rfl rfl (sn rfl rfl ?_))
     iterate 2 refine st ?_
     refine sn rfl rfl (sn rfl rfl (sn rfl rfl ?_))
     iterate 2 refine st ?_
     refine nw (cret (xr ?_))
     obtain rfl:=oI h
     refine ret1 rfl d4 ?_
     replace hS:=(hS.drop Rm.z).drop Rm.z
     exact ⟨_,rfl,(le6.t (le10.t (le37.t le41))),hS⟩
    ·replace h:=iF h48 h
     refine sy rfl (wy rfl (k40 d0) (s_load ti25 (et (k40 d1)) ((hS.blk d0).cell d0) (dt (q40 p2)) (sy rfl ?_)))
     iterate 2 refine st ?_
     refine wspd (k40 d5) (q40 p5) (q40 p5) (fun h49=>?_) (fun h49=>?_)
     ·replace h:=iT h49 h
      refine sn rfl rfl (sn rfl rfl (sn rfl rfl ?_))
      iterate 2 refine st ?_
      refine nw (cret (xr ?_))
      obtain rfl:=oI h
      refine ret1 rfl d4 ?_
      replace hS:=(hS.drop Rm.z).drop Rm.z
      exact ⟨_,rfl,(le6.t (le10.t (le37.t le41))),hS⟩
     ·replace h:=iF h49 h
      refine sy rfl (wy rfl (k40 d5) (s_load ti25 (et (k40 d6)) ((hS.blk d0).cell d0) (dt (q40 p7)) (sy rfl ?_)))
      iterate 2 refine st ?_
      refine nw (cret (xr ?_))
      obtain rfl:=oI h
      refine ret1 rfl d4 ?_
      replace hS:=(hS.drop Rm.z).drop Rm.z
      exact ⟨_,rfl,(le6.t (le10.t (le37.t le41))),hS⟩
   ·replace h:=iF h47 h
    refine cskip (xn (cseq (cseq ?_)))
    refine ccutE (rg 50 15) (by decide) (fun m w=>∃ μx b50,m=(yK50 (yO10 50 (yO5 60 (.i (.bool b50)::[]))))∧law_more_j1 r8 r39 b50=some r∧Le μ4 μx∧Sq μx w0 w (rsF)) (by rintro _ _ ⟨_,_,rfl,_⟩; rfl) ?_ ?_
    ·refine creg (st (wl (su (u_lensl underlying24 (et (k50 d0))) (dt (q50 p1)) (st (wl (su (u_lensl underlying24 (et (k50 d2))) (dt (q50 p3)) ?_))))))
     obtain ⟨i51,g52,h⟩:=bI h
     refine wl (su (u_addc (et (k50 d3)) ec g52) (dt (q50 p4)) ?_)
     iterate 2 refine st ?_
     refine wspd (k50 d6) (q50 p6) (q50 p6) (fun h53=>?_) (fun h53=>?_)
     ·replace h:=iT h53 h
      refine sn rfl rfl (sn rfl rfl (sn rfl rfl (sn rfl rfl (sn rfl rfl (sn rfl rfl (sn rfl rfl (sn rfl rfl (st (wnil (xl ?_))))))))))
      replace hS:=(hS.drop Rm.z).drop Rm.z
      exact ⟨_,_,rfl,(aK50 (aO10 (aO5 (aI aZ)))),_,true,rfl,h,Le.r,hS⟩
     ·replace h:=iF h53 h
      refine sy rfl (sy rfl (wy rfl (k50 d6) (su (u_lensl underlying24 (et (k50 d8))) (dt (q50 p9)) ?_)))
      obtain ⟨x54,g55,h⟩:=bI h
      obtain ⟨b56,o57,cs58,e59,f60,m61⟩:=SlR.elem m44 g55
      obtain rfl:=m61
      refine wy rfl (k50 d6) (su (u_iax underlying24 ti37 (et (k50 d7)) (et (k50 d9)) e59) (dt (q60 p0)) (wy rfl (k50 d6) (s_loads ti37 (et (k60 d0)) (f60 _ hS.a) rfl (dt (q60 p1)) (sy rfl (wy rfl (k50 d6) (s_build ti37 pl37 (Fl.o rfl (et (k60 d2)) rfl rfl p0 Fl.z) (dt (q60 p3)) (wy rfl (k50 d6) (s_nea (ES.mk underlying37 eh37 eg37) (et (k60 d1)) (et (k60 d3)) (EqFs.o rfl rfl rfl ti9 d0 d0 (eq_str underlying9) (EqFs.o rfl rfl rfl ti9 d1 d1 (eq_str underlying9) (EqFs.o rfl rfl rfl ti9 d2 d2 (eq_str underlying9) EqFs.z))) rfl (dt (q60 p4)) (st (wnil (xl ?_)))))))))))
      replace hS:=(hS.drop Rm.z).drop Rm.z
      exact ⟨_,_,rfl,(aK50 (aO10 (aO5 (aI aZ)))),_,(!(andL [(decide (x54.Box=p_2)),(decide (x54.Writer=[])),(decide (x54.Reader=[]))])),rfl,h,Le.r,hS⟩
    ·rintro _ t w12 ⟨μ5,b50,rfl,h,le62,hS⟩
     unfold law_more_j1 at h
     refine nrm (mK50 (mO10 (mO5 (mi mz)))) (xn ?_)
     refine cifb (et (k60 d5)) (fun h63=>?_) (fun h63=>?_)
     ·replace h:=iT h63 h
      refine nz (st (nw (cret (xr ?_))))
      obtain rfl:=oI h
      refine ret1 rfl d4 ?_
      exact ⟨_,rfl,(le6.t (le10.t (le37.t (le41.t le62)))),hS⟩
     ·replace h:=iF h63 h
      refine cskip (xn (cseq (nz (st (wl (su (u_lensl underlying24 (et (k60 d6))) (dt (q60 p7)) (st (nw (cblock ?_)))))))))
      refine cloopE ([4]++[10]++rg 69 12) (by decide) (fun n m w=>∃ μx i82,m=(yK4 (yO1 4 (yK5 (yO1 10 (yK50 (yK7 (.i (.int .i64 i82)::(yO10 69 (yO2 79 [])))))))))∧law_more_l1 r8 r39 n i82=some r∧Le μ5 μx∧Sq μx w0 w (rsF)) (by rintro _ _ _ ⟨_,_,rfl,_⟩; rfl) _ _ (aK4 (aO1 (aK5 (aO1 (aK50 (aK7 (aI (aO10 (aO2 aZ))))))))) ⟨_,0,rfl,h,Le.r,hS⟩ ?_
      rintro n_1 _ t w13 ⟨μ6,i82,rfl,h,le101,hS⟩
      cases n_1 with
      | zero=>cases h
      | succ n_1 =>
      unfold law_more_l1 at h
      refine cnrm (mK4 (mO1 (mK5 (mO1 (mK50 (mK7 (mi (mO10 (mO2 mz))))))))) (nz (st (ny ?_)))
      refine cifd (et (k60 d9)) (fun h102=>?_) (fun h102=>?_)
      ·replace h:=iT h102 h
       refine cskip (xn (cseq (cblock (nz ?_))))
       iterate 2 refine st ?_
       refine ny ?_
       refine cdw hS ?_; clear hS; intro w14 hS
       refine cpi 0 rfl (cpi 1 rfl ?_)
       obtain ⟨x103,g104,h⟩:=bI h
       obtain ⟨b105,o106,cs107,e108,f109,m110⟩:=SlR.elem (m13.up (le37.t (le41.t (le62.t le101)))) g104
       obtain rfl:=m110
       refine cp 2 rfl (u_iax underlying24 ti37 (et (k70 d1)) (et (k70 d2)) e108) (q70 p3) (cpi 4 rfl (cpi 5 rfl ?_))
       obtain ⟨x111,g112,h⟩:=bI h
       obtain ⟨b113,o114,cs115,e116,f117,m118⟩:=SlR.elem (m44.up (le62.t le101)) g112
       obtain rfl:=m118
       refine cp 6 rfl (u_iax underlying24 ti37 (et (k70 d5)) (et (k70 d6)) e116) (q70 p7) (cr 3 [3,8] rfl (u_loads ti37 (et (k70 d3)) (f109 _ hS.a) rfl) (q70 p4) (cr 7 [7,8] rfl (u_loads ti37 (et (k70 d7)) (f117 _ hS.a) rfl) (q70 p8) (cp 8 rfl (u_nea (ES.mk underlying37 eh37 eg37) (et (k70 d4)) (et (k70 d8)) (EqFs.o rfl rfl rfl ti9 d0 d0 (eq_str underlying9) (EqFs.o rfl rfl rfl ti9 d1 d1 (eq_str underlying9) (EqFs.o rfl rfl rfl ti9 d2 d2 (eq_str underlying9) EqFs.z))) rfl) (q70 p9) (nu ?_))))
       refine cifnb (et (k70 d9)) (fun h119=>?_) (fun h119=>?_)
       ·replace h:=iF h119 h
        refine nz (st (nw (cret ?_)))
        refine (fun h=>br (xr (xr (br (xr h))))) ?_
        obtain rfl:=oI h
        refine ret1 rfl d4 ?_
        exact ⟨_,rfl,(le6.t (le10.t (le37.t (le41.t (le62.t le101))))),hS⟩
       ·replace h:=iT h119 h
        refine cskip ?_
        refine (fun h=>bn (xn h)) ?_
        refine creg ?_
        obtain ⟨i120,g121,h⟩:=bI h
        refine wl (su (u_addc (et (k60 d8)) ec g121) (dt (q80 p0)) (st (wnil (xl ?_))))
        exact ⟨n_1,_,_,rfl,(aK4 (aO1 (aK5 (aO1 (aK50 (aK7 (aI (aO10 (aO2 aZ))))))))),⟨_,i120,rfl,h,le101,hS⟩,Nat.lt_succ_self _⟩
      ·replace h:=iF h102 h
       refine cexit ?_
       refine (fun h=>xe (xe (bh h))) ?_
       refine xn (nz (st (nw (cret ?_))))
       obtain rfl:=oI h
       refine ret1 rfl d4 ?_
       exact ⟨_,rfl,(le6.t (le10.t (le37.t (le41.t (le62.t le101))))),hS⟩
end Go.Proofs.YtjbiabapnphheaaGreatDoor
