/- The shelf: texts of ShelfPower Wl. -/
import Derived.Test.YtaenlbapejigbaaGreatDoorCXu
import Derived.Test.YtaenlbapejigbaaGreatDoorCPl
import Derived.Test.YtaenlbapejigbaaGreatDoorCWd
set_option linter.unusedSimpArgs false
set_option linter.unusedVariables false
set_option linter.unusedSectionVars false
set_option maxRecDepth 100000
set_option maxHeartbeats 20000000
namespace Go.Proofs.YtaenlbapejigbaaGreatDoor
open Go.Wk Go.Xt Go.Y Tryz
variable {c2 c5 fu:Nat} {a1 a4:Option Addr} {μ0:M} {w0 w:World} {rsF:List Res}
theorem r9_same_w (hg:Le Gm μ0) {p_1 p_2:List Int} {r:Bool} (m3:Sl μ0 a1 c2 p_1) (m6:Sl μ0 a4 c5 p_2) (h:r9_same p_1 p_2=some r) (hS:Sq μ0 w0 w (rsF)):CallsV prog 17 [.slice a1 p_1.length c2,.slice a4 p_2.length c5] w (fun v w'=>∃ (μ':M) ,v=.bool r∧Le μ0 μ'∧Sq μ' w0 w' (rsF)):=by
 unfold r9_same at h
 refine enter func17 rfl (frm:=_::_::u2 (u2 (u20 []))) rfl (nz (st (ny (nz (st (wl (su (u_lensl underlying22 (et d6)) (dt p7) (st (wl (su (u_lensl underlying22 (et d8)) (dt p9) (st (nw ?_))))))))))))
 refine cifd (et (k10 d0)) (fun h7=>?_) (fun h7=>?_)
 ·replace h:=iT h7 h
  refine nz (st (nw (cret (xr ?_))))
  obtain rfl:=oI h
  refine ret1 rfl d4 ?_
  exact ⟨_,rfl,Le.r,hS⟩
 ·replace h:=iF h7 h
  refine cskip (xn (cseq (nz (st (wl (su (u_lensl underlying22 (et (k10 d1))) (dt (q10 p2)) (st (nw (cblock ?_)))))))))
  refine cloopE (rg 4 2++rg 14 12) (by decide) (fun n m w=>∃ μx i26,m=(yK4 (yO2 4 (yK7 (.i (.int .i64 i26)::(yO10 14 (yO2 24 []))))))∧r9_same_l1 p_1 p_2 n i26=some r∧Le μ0 μx∧Sq μx w0 w (rsF)) (by rintro _ _ _ ⟨_,_,rfl,_⟩; rfl) _ _ (aK4 (aO2 (aK7 (aI (aO10 (aO2 aZ)))))) ⟨_,0,rfl,h,Le.r,hS⟩ ?_
  rintro n_1 _ t w1 ⟨μ1,i26,rfl,h,le45,hS⟩
  cases n_1 with
  | zero=>cases h
  | succ n_1 =>
  unfold r9_same_l1 at h
  refine cnrm (mK4 (mO2 (mK7 (mi (mO10 (mO2 mz)))))) (nz (st (ny ?_)))
  refine cifd (et (k10 d4)) (fun h46=>?_) (fun h46=>?_)
  ·replace h:=iT h46 h
   refine cskip (xn (cseq (cblock (nz ?_))))
   iterate 2 refine st ?_
   refine ny ?_
   refine cdw hS ?_; clear hS; intro w2 hS
   refine cpi 0 rfl (cpi 1 rfl ?_)
   obtain ⟨x47,g48,h⟩:=bI h
   obtain ⟨b49,o50,cs51,e52,f53,m54⟩:=SlR.elem (m3.up le45) g48
   obtain rfl:=m54
   refine cp 2 rfl (u_iax underlying22 ti2 (et (k10 d6)) (et (k10 d7)) e52) (q10 p8) (cpi 4 rfl (cpi 5 rfl ?_))
   obtain ⟨x55,g56,h⟩:=bI h
   obtain ⟨b57,o58,cs59,e60,f61,m62⟩:=SlR.elem (m6.up le45) g56
   obtain rfl:=m62
   refine cp 6 rfl (u_iax underlying22 ti2 (et (k20 d0)) (et (k20 d1)) e60) (q20 p2) (cr 3 [3,8] rfl (u_load ti2 (et (k10 d8)) ((f53 _ hS.a).one d0)) (q10 p9) (cr 7 [7,8] rfl (u_load ti2 (et (k20 d2)) ((f61 _ hS.a).one d0)) (q20 p3) (cpi 8 rfl (nu ?_))))
   refine cifd (et (k20 d4)) (fun h63=>?_) (fun h63=>?_)
   ·replace h:=iT h63 h
    refine nz (st (nw (cret ?_)))
    refine (fun h=>br (xr (xr (br (xr h))))) ?_
    obtain rfl:=oI h
    refine ret1 rfl d4 ?_
    exact ⟨_,rfl,le45,hS⟩
   ·replace h:=iF h63 h
    refine cskip ?_
    refine (fun h=>bn (xn h)) ?_
    refine creg ?_
    obtain ⟨i65,g66,h⟩:=bI h
    refine wl (su (u_addc (et (k10 d3)) ec g66) (dt (q20 p5)) (st (wnil (xl ?_))))
    exact ⟨n_1,_,_,rfl,(aK4 (aO2 (aK7 (aI (aO10 (aO2 aZ)))))),⟨_,i65,rfl,h,le45,hS⟩,Nat.lt_succ_self _⟩
  ·replace h:=iF h46 h
   refine cexit ?_
   refine (fun h=>xe (xe (bh h))) ?_
   refine xn (nz (st (nw (cret ?_))))
   obtain rfl:=oI h
   refine ret1 rfl d4 ?_
   exact ⟨_,rfl,le45,hS⟩
theorem l12_says_w (hg:Le Gm μ0) {p_1:List UInt8} {p_2:List Int} {p_3:List (List Int)} {r:Bool} (m3:Sl μ0 a1 c2 p_2) (m6:Sl μ0 a4 c5 p_3) (h:l12_says fu p_1 p_2 p_3=some r) (hS:Sq μ0 w0 w (rsF)):CallsV prog 15 [S p_1,.slice a1 p_2.length c2,.slice a4 p_3.length c5] w (fun v w'=>∃ (μ':M) ,v=.bool r∧Le μ0 μ'∧Sq μ' w0 w' (rsF)):=by
 unfold l12_says at h
 refine enter func15 rfl (frm:=_::_::_::u5 (u20 [])) rfl (nz (st (nx ?_)))
 iterate 2 refine st ?_
 obtain ⟨r7,g8,h⟩:=bI h
 refine ca (sh_ask_w hg m6 g8 hS) ?_
 rintro _ w1 ⟨μ1,a10,c11,a13,c14,a16,c17,rfl,le9,hS,m12,m15,m18⟩
 refine po ?_
 iterate 3 refine st ?_
 refine wl (s_alloc ti29 hS ?_); clear hS; intro b19 w2 hb20 hS; refine po ?_
 refine wl (s_storeA ti29 (et d7) (et (k10 d3)) rfl rfl hS d0 rfl p0 dn ?_)
 clear hS; intro w3 hS
 refine st (nx ?_)
 iterate 3 refine st ?_
 refine wspd (k10 d7) (q10 p7) (q10 p7) (fun h21=>?_) (fun h21=>?_)
 ·replace h:=iT h21 h
  refine sy rfl (wy rfl (k10 d7) (s_load ti3 (et (k10 d8)) ((hS.blk d0).cell d0) (dt (q10 p9)) (sy rfl ?_)))
  iterate 2 refine st ?_
  refine wspd (k20 d2) (q20 p2) (q20 p2) (fun h22=>?_) (fun h22=>?_)
  ·replace h:=iT h22 h
   refine sy rfl (wy rfl (k20 d2) (s_load ti22 (et (k20 d3)) ((hS.blk d0).cell d3) (dt (q20 p4)) (sy rfl ?_)))
   obtain ⟨r23,g24,h⟩:=bI h
   refine wy rfl (k20 d2) (s_callv isfn17 ef (e1 (et (k20 d4)) (e1 (et (k20 d5)) e0)) (r9_same_w (hg.t le9) m12 (m3.up le9) g24 hS) ?_)
   rintro _ w4 ⟨μ2,rfl,le25,hS⟩
   refine po ?_
   iterate 2 refine st ?_
   refine nw (cret ?_)
   obtain rfl:=oI h
   refine ret1 rfl d6 ?_
   replace hS:=hS.drop Rm.z
   exact ⟨_,rfl,(le9.t le25),hS⟩
  ·replace h:=iF h22 h
   refine sn rfl rfl (sn rfl rfl (sn rfl rfl (sn rfl rfl ?_)))
   iterate 2 refine st ?_
   refine nw (cret ?_)
   obtain rfl:=oI h
   refine ret1 rfl d6 ?_
   replace hS:=hS.drop Rm.z
   exact ⟨_,rfl,le9,hS⟩
 ·replace h:=iF h21 h
  refine sn rfl rfl (sn rfl rfl (sn rfl rfl ?_))
  iterate 2 refine st ?_
  refine sn rfl rfl (sn rfl rfl (sn rfl rfl (sn rfl rfl ?_)))
  iterate 2 refine st ?_
  refine nw (cret ?_)
  obtain rfl:=oI h
  refine ret1 rfl d6 ?_
  replace hS:=hS.drop Rm.z
  exact ⟨_,rfl,le9,hS⟩
theorem law_power_w (hg:Le Gm μ0) {p_1:List Int} {r:Bool} (m3:Sl μ0 a1 c2 p_1) (h:law_power fu p_1=some r) (hS:Sq μ0 w0 w (rsF)):CallsV prog 11 [.slice a1 p_1.length c2] w (fun v w'=>∃ (μ':M) ,v=.bool r∧Le μ0 μ'∧Sq μ' w0 w' (rsF)):=by
 unfold law_power at h
 refine enter func11 rfl (frm:=_::u1 (u2 (u50 []))) rfl (nz (st (ny (nz (st (wl (su (u_lensl underlying22 (et d7)) (dt p8) (st (nw ?_)))))))))
 refine cifd (et d9) (fun h4=>?_) (fun h4=>?_)
 ·replace h:=iT h4 h
  refine nz (st (nw (cret (xr ?_))))
  obtain rfl:=oI h
  refine ret1 rfl d2 ?_
  exact ⟨_,rfl,Le.r,hS⟩
 ·replace h:=iF h4 h
  refine cskip (xn (nz (st (ny (nz (st (nw (cblock ?_))))))))
  replace hS:=hS.nilRow 2 (Mo.sz Int)
  refine cloopE ([2]++rg 5 2++rg 10 40) (by decide +kernel) (fun n m w=>∃ μx i95 l98 v96 cs97,m=(yK2 (yO1 2 (.i (v96)::(.i (.int .i64 i95)::(yO2 5 (yK3 (yO20 10 (yO20 30 []))))))))∧law_power_l1 fu p_1 n i95 l98=some r∧Le μ0 μx∧Sq μx w0 w (.row v96 2 1 l98.length cs97::rsF)∧Rw μx cs97 l98) (by rintro _ _ _ ⟨_,_,_,_,_,rfl,_⟩; rfl) _ _ (aK2 (aO1 (aI (aI (aO2 (aK3 (aO20 (aO20 aZ)))))))) ⟨_,0,[],(.slice none 0 0),[],rfl,h,Le.r,hS,Rw.nil⟩ ?_
  rintro n_1 _ t w1 ⟨μ1,i95,l98,v96,cs97,rfl,h,le189,hS,m190⟩
  cases n_1 with
  | zero=>cases h
  | succ n_1 =>
  unfold law_power_l1 at h
  refine cnrm (mK2 (mO1 (mi (mi (mO2 (mK3 (mO20 (mO20 mz)))))))) (cseq (nz (st ?_)))
  obtain ⟨i191,g192,h⟩:=bI h
  refine wl (su (u_addc (et (k10 d0)) ec g192) (dt (q10 p1)) (st (wl (su (u_lensl underlying22 (et (k10 d2))) (dt (q10 p3)) (st (nw ?_))))))
  refine cifd (et (k10 d4)) (fun h193=>?_) (fun h193=>?_)
  ·replace h:=iT h193 h
   refine cskip (xn (cseq (cblock (cseq (cseq ?_)))))
   refine ccutE (rg 17 13) (by decide) (fun m w=>∃ μx b194,m=(yK10 (yK7 (yO10 17 (yO3 27 (.i (.bool b194)::[])))))∧law_power_j1 fu p_1 i95 l98 (law_power_l1 fu p_1 n_1) b194=some r∧Le μ1 μx∧Sq μx w0 w (.row v96 2 1 l98.length cs97::rsF)) (by rintro _ _ ⟨_,_,rfl,_⟩; rfl) ?_ ?_
   ·refine creg ?_
    iterate 2 refine st ?_
    obtain ⟨i195,g196,h⟩:=bI h
    refine wl (su (u_addc (et (k10 d8)) ec g196) (dt (q10 p9)) ?_)
    obtain ⟨x197,g198,h⟩:=bI h
    obtain ⟨b199,o200,cs201,e202,f203,m204⟩:=SlR.elem (m3.up le189) g198
    obtain rfl:=m204
    refine wl (su (u_iax underlying22 ti2 (et (k10 d7)) (et (k10 d9)) e202) (dt (q20 p0)) (ld ((f203 _ hS.a).one d0) ?_))
    iterate 2 refine st ?_
    refine wspd (k20 d3) (q20 p3) (q20 p3) (fun h205=>?_) (fun h205=>?_)
    ·replace h:=iT h205 h
     refine sn rfl rfl (sn rfl rfl (sn rfl rfl (sn rfl rfl (sn rfl rfl (sn rfl rfl (st (wnil (xl ?_))))))))
     exact ⟨_,_,rfl,(aK10 (aK7 (aO10 (aO3 (aI aZ))))),_,true,rfl,h,Le.r,hS⟩
    ·replace h:=iF h205 h
     refine sy rfl (sy rfl ?_)
     obtain ⟨i206,g207,h⟩:=bI h
     refine wy rfl (k20 d3) (su (u_addc (et (k20 d5)) ec g207) (dt (q20 p6)) ?_)
     obtain ⟨x208,g209,h⟩:=bI h
     obtain ⟨b210,o211,cs212,e213,f214,m215⟩:=SlR.elem (m3.up le189) g209
     obtain rfl:=m215
     refine wy rfl (k20 d3) (su (u_iax underlying22 ti2 (et (k20 d4)) (et (k20 d6)) e213) (dt (q20 p7)) (wy rfl (k20 d3) (s_load ti2 (et (k20 d7)) ((f214 _ hS.a).one d0) (dt (q20 p8)) (sy rfl (st (wnil (xl ?_)))))))
     exact ⟨_,_,rfl,(aK10 (aK7 (aO10 (aO3 (aI aZ))))),_,(decide ((60:Int)<x208)),rfl,h,Le.r,hS⟩
   ·rintro _ t w2 ⟨μ2,b194,rfl,h,le216,hS⟩
    unfold law_power_j1 at h
    refine nrm (mK10 (mK7 (mO10 (mO3 (mi mz))))) (xn ?_)
    refine cifb (et (k30 d0)) (fun h217=>?_) (fun h217=>?_)
    ·replace h:=iT h217 h
     refine nz (st (nw (cret ?_)))
     refine (fun h=>xr (br (xr (xr (br (xr h)))))) ?_
     obtain rfl:=oI h
     refine ret1 rfl d2 ?_
     replace hS:=hS.drop Rm.z
     exact ⟨_,rfl,(le189.t le216),hS⟩
    ·replace h:=iF h217 h
     refine cskip (xn (nz (st (ny (nz (st (nw (cblock ?_))))))))
     refine cloopE (rg 31 15) (by decide) (fun n m w=>∃ μx i236 i237,m=(yK5 (.i (.int .i64 i236)::(.i (.int .i64 i237)::(yK20 (yK4 (yO10 31 (yO5 41 [])))))))∧law_power_l2 p_1 i95 l98 (law_power_l1 fu p_1 n_1) n i236 i237=some r∧Le μ2 μx∧Sq μx w0 w (.row v96 2 1 l98.length cs97::rsF)) (by rintro _ _ _ ⟨_,_,_,rfl,_⟩; rfl) _ _ (aK5 (aI (aI (aK20 (aK4 (aO10 (aO5 aZ))))))) ⟨_,1,0,rfl,h,Le.r,hS⟩ ?_
     rintro n_2 _ t w3 ⟨μ3,i236,i237,rfl,h,le256,hS⟩
     cases n_2 with
     | zero=>cases h
     | succ n_2 =>
     unfold law_power_l2 at h
     refine cnrm (mK5 (mi (mi (mK20 (mK4 (mO10 (mO5 mz))))))) (cseq (nz ?_))
     iterate 3 refine st ?_
     obtain ⟨i257,g258,h⟩:=bI h
     refine wl (su (u_addc (et (k30 d3)) ec g258) (dt (q30 p4)) ?_)
     obtain ⟨x259,g260,h⟩:=bI h
     obtain ⟨b261,o262,cs263,e264,f265,m266⟩:=SlR.elem (m3.up (le189.t (le216.t le256))) g260
     obtain rfl:=m266
     refine wl (su (u_iax underlying22 ti2 (et (k30 d2)) (et (k30 d4)) e264) (dt (q30 p5)) (ld ((f265 _ hS.a).one d0) (st (nw ?_))))
     refine cifd (et (k30 d7)) (fun h267=>?_) (fun h267=>?_)
     ·replace h:=iT h267 h
      refine cskip (xn (cseq (cblock (creg ?_))))
      iterate 3 refine st ?_
      obtain ⟨x268,g269,h⟩:=bI h
      obtain ⟨b270,o271,cs272,e273,f274,m275⟩:=SlR.elem (m3.up (le189.t (le216.t le256))) g269
      obtain rfl:=m275
      refine wl (su (u_iax underlying22 ti2 (et (k40 d1)) (et (k40 d2)) e273) (dt (q40 p3)) (ld ((f274 _ hS.a).one d0) (wl (su (u_mul (et (k40 d0)) (et (k40 d4)) rfl) (dt (q40 p5)) (st (wnil ?_))))))
      refine (fun h=>bn (xn h)) ?_
      refine creg (st (wl (su (u_add (et (k30 d8)) ec rfl) (dt (q30 p9)) (st (wnil (xl ?_))))))
      exact ⟨n_2,_,_,rfl,(aK5 (aI (aI (aK20 (aK4 (aO10 (aO5 aZ))))))),⟨_,(w64 (i236*x268)),(w64 (i237+1)),rfl,h,le256,hS⟩,Nat.lt_succ_self _⟩
     ·replace h:=iF h267 h
      refine cexit ?_
      refine (fun h=>xe (xe (bh h))) ?_
      refine xn (creg ?_)
      iterate 2 refine st ?_
      refine wl (s_bsl underlying22 ti2 (Parts.s (et (k40 d7)) rfl Parts.z) rfl rfl hS ?_); clear hS; intro b276 w4 hb277 hS; refine po ?_
      obtain ⟨l280,g281,h⟩:=bI h
      have m282:Rw μ3 [.int .i64 i236] [i236]:=(Rw.one (α:=Int) rfl)
      have m279:=Rw.app (m190.up (le216.t le256)) m282 g281
      refine wl (s_app1 underlying22 ti2 rfl (et (k40 d6)) (et (k40 d8)) hS d1 (hS.blk d0).cells m282 rfl g281 (by decide) ?_); clear hS; intro v278 w5 rs_ hp_ hS; cases (show _=rs_ from hp_)
      replace hS:=Sep.reput hS p1; refine po ?_
      replace hS:=hS.drop Rm.z
      refine st (wnil ?_)
      refine (fun h=>bn (xn h)) ?_
      refine creg (st ?_)
      obtain ⟨i283,g284,h⟩:=bI h
      refine wl (su (u_addc (et (k10 d5)) ec g284) (dt (q10 p6)) (st (wnil (xl ?_))))
      exact ⟨n_1,_,_,rfl,(aK2 (aO1 (aI (aI (aO2 (aK3 (aO20 (aO20 aZ)))))))),⟨_,i283,l280,v278,(cs97++[.int .i64 i236]),rfl,h,(le189.t (le216.t le256)),hS,m279⟩,Nat.lt_succ_self _⟩
  ·replace h:=iF h193 h
   refine cexit ?_
   refine (fun h=>xe (xe (bh h))) ?_
   refine xn (nz ?_)
   iterate 2 refine st ?_
   refine wl (s_bsl underlying26 ti22 (Parts.s (et (k50 d1)) rfl Parts.z) rfl rfl hS ?_); clear hS; intro b285 w6 hb286 hS; refine po ?_
   replace hS:=hS.bg Y1
   obtain ⟨μ4,a287,c288,e291,le290,m289,hq_⟩:=Sep.frzRow hS m190 rfl; clear hS
   subst e291; have hS:=hq_; clear hq_
   obtain ⟨μ5,le293,m292,hS⟩:=Sep.frzBlk (l:=([p_1]:List (List Int))) hS (Rw.one (α:=List Int) (⟨a1,c2,rfl,(m3.up (le189.t le290))⟩)) (Nat.le_of_ble_eq_true rfl)
   obtain ⟨r294,g295,h⟩:=bI h
   refine ca (l12_says_w (hg.t (le189.t (le290.t le293))) (m289.up le293) m292 g295 hS) ?_
   rintro _ w7 ⟨μ6,rfl,le296,hS⟩
   refine po (st (nw (cret ?_)))
   obtain rfl:=oI h
   refine ret1 rfl d2 ?_
   exact ⟨_,rfl,(le189.t (le290.t (le293.t le296))),hS⟩
end Go.Proofs.YtaenlbapejigbaaGreatDoor
