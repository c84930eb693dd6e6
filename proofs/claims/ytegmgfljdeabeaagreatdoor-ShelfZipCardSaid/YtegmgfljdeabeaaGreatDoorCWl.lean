/- The shelf: texts of ShelfZip Wl. -/
import Derived.Test.YtegmgfljdeabeaaGreatDoorCXu
import Derived.Test.YtegmgfljdeabeaaGreatDoorCPl
import Derived.Test.YtegmgfljdeabeaaGreatDoorCWd
set_option linter.unusedSimpArgs false
set_option linter.unusedVariables false
set_option linter.unusedSectionVars false
set_option maxRecDepth 100000
set_option maxHeartbeats 20000000
namespace Go.Proofs.YtegmgfljdeabeaaGreatDoor
open Go.Wk Go.Xt Go.Y Tryz
variable {c2 c5 fu:Nat} {a1 a4:Option Addr} {μ0:M} {w0 w:World} {rsF:List Res}
theorem r9_same_w (hg:Le Gm μ0) {p_1 p_2:List Int} {r:Bool} (m3:Sl μ0 a1 c2 p_1) (m6:Sl μ0 a4 c5 p_2) (h:r9_same p_1 p_2=some r) (hS:Sq μ0 w0 w (rsF)):CallsV prog 18 [.slice a1 p_1.length c2,.slice a4 p_2.length c5] w (fun v w'=>∃ (μ':M) ,v=.bool r∧Le μ0 μ'∧Sq μ' w0 w' (rsF)):=by
 unfold r9_same at h
 refine enter func18 rfl (frm:=_::_::u2 (u2 (u20 []))) rfl (nz (st (ny (nz (st (wl (s_lensl underlying22 (et d6) (dt p7) (st (wl (s_lensl underlying22 (et d8) (dt p9) (st (nw ?_))))))))))))
 refine cifd (et (k10 d0)) (fun h7=>?_) (fun h7=>?_)
 ·replace h:=iT h7 h
  refine nz (st (nw (cret (xr ?_))))
  obtain rfl:=Option.some.inj h
  refine ret1 rfl d4 ?_
  exact ⟨_,rfl,Le.r,hS⟩
 ·replace h:=iF h7 h
  refine cskip (xn (cseq (nz (st (wl (s_lensl underlying22 (et (k10 d1)) (dt (q10 p2)) (st (nw (cblock ?_)))))))))
  refine cloopE (List.range' 4 2++List.range' 14 12) (by decide) (fun n m w=>∃ μx i26,m=(yK4 (yO2 4 (yK7 (.i (.int .i64 i26)::(yO10 14 (yO2 24 []))))))∧r9_same_l1 p_1 p_2 n i26=some r∧Le μ0 μx∧Sq μx w0 w (rsF)) (by rintro _ _ _ ⟨_,_,rfl,_⟩; rfl) _ _ (aK4 (aO2 (aK7 (aI (aO10 (aO2 aZ)))))) ⟨_,0,rfl,h,Le.r,hS⟩ ?_
  rintro n_1 _ t w1 ⟨μ1,i26,rfl,h,le45,hS⟩
  cases n_1 with
  | zero=>cases h
  | succ n_1 =>
  unfold r9_same_l1 at h
  refine cnrm (mK4 (mO2 (mK7 (mi (mO10 (mO2 mz)))))) (nz (st (ny ?_)))
  refine cifd (et (k10 d4)) (fun h46=>?_) (fun h46=>?_)
  ·replace h:=iT h46 h
   refine cskip (xn (cseq (cblock (nz ?_))))
   iterate 2 refine st ?_
   refine ny ?_
   refine cdraw (by kernel_rfl) rfl fun w2 hh_ ho_ ht_ hu_=>?_
   replace hS:=hS.drew hh_ ho_ ht_ hu_
   refine cpi 0 rfl (cpi 1 rfl ?_)
   replace h:=bI h; obtain ⟨x47,g48,h⟩:=h
   obtain ⟨b49,o50,cs51,e52,f53,m54⟩:=SlR.elem (m3.up le45) g48
   obtain rfl:=m54
   refine cp 2 rfl (u_iax underlying22 ti2 (et (k10 d6)) (et (k10 d7)) e52) (q10 p8) (cpi 4 rfl (cpi 5 rfl ?_))
   replace h:=bI h; obtain ⟨x55,g56,h⟩:=h
   obtain ⟨b57,o58,cs59,e60,f61,m62⟩:=SlR.elem (m6.up le45) g56
   obtain rfl:=m62
   refine cp 6 rfl (u_iax underlying22 ti2 (et (k20 d0)) (et (k20 d1)) e60) (q20 p2) (cr 3 [3,8] rfl (u_load ti2 (et (k10 d8)) ((f53 _ hS.a).one d0)) (q10 p9) (cr 7 [7,8] rfl (u_load ti2 (et (k20 d2)) ((f61 _ hS.a).one d0)) (q20 p3) (cpi 8 rfl (nu ?_))))
   refine cifd (et (k20 d4)) (fun h63=>?_) (fun h63=>?_)
   ·replace h:=iT h63 h
    refine nz (st (nw (cret ?_)))
    refine (fun h=>br (xr (xr (br (xr h))))) ?_
    obtain rfl:=Option.some.inj h
    refine ret1 rfl d4 ?_
    exact ⟨_,rfl,le45,hS⟩
   ·replace h:=iF h63 h
    refine cskip ?_
    refine (fun h=>bn (xn h)) ?_
    refine creg ?_
    replace h:=bI h; obtain ⟨i65,g66,h⟩:=h
    refine wl (s_addc (et (k10 d3)) ec g66 (dt (q20 p5)) (st (wnil (xl ?_))))
    exact ⟨n_1,_,_,rfl,(aK4 (aO2 (aK7 (aI (aO10 (aO2 aZ)))))),⟨_,i65,rfl,h,le45,hS⟩,Nat.lt_succ_self _⟩
  ·replace h:=iF h46 h
   refine cexit ?_
   refine (fun h=>xe (xe (bh h))) ?_
   refine xn (nz (st (nw (cret ?_))))
   obtain rfl:=Option.some.inj h
   refine ret1 rfl d4 ?_
   exact ⟨_,rfl,le45,hS⟩
theorem l12_says_w (hg:Le Gm μ0) {p_1:List UInt8} {p_2:List Int} {p_3:List (List Int)} {r:Bool} (m3:Sl μ0 a1 c2 p_2) (m6:Sl μ0 a4 c5 p_3) (h:l12_says fu p_1 p_2 p_3=some r) (hS:Sq μ0 w0 w (rsF)):CallsV prog 15 [S p_1,.slice a1 p_2.length c2,.slice a4 p_3.length c5] w (fun v w'=>∃ (μ':M) ,v=.bool r∧Le μ0 μ'∧Sq μ' w0 w' (rsF)):=by
 unfold l12_says at h
 refine enter func15 rfl (frm:=_::_::_::u5 (u20 [])) rfl (nz (st (nx ?_)))
 iterate 2 refine st ?_
 replace h:=bI h; obtain ⟨r7,g8,h⟩:=h
 refine ca (sh_ask_w hg m6 g8 hS) ?_
 rintro _ w1 ⟨μ1,a10,c11,a13,c14,a16,c17,rfl,le9,hS,m12,m15,m18⟩
 refine po ?_
 iterate 3 refine st ?_
 refine wl (s_alloc ti32 hS ?_); clear hS; intro b19 w2 hb20 hS; refine po ?_
 refine wl (s_storeA ti32 (et d7) (et (k10 d3)) rfl rfl hS d0 rfl p0 dn ?_)
 clear hS; intro w3 hS
 refine st (nx ?_)
 iterate 3 refine st ?_
 refine wspd (k10 d7) (q10 p7) (q10 p7) (fun h21=>?_) (fun h21=>?_)
 ·replace h:=iT h21 h
  refine sy rfl (wy rfl (k10 d7) (s_load ti3 (et (k10 d8)) ((hS.blk d0).cell d0) (dt (q10 p9)) (sy rfl ?_)))
  iterate 2 refine st ?_
  refine wspd (k20 d2) (q20 p2) (q20 p2) (fun h22=>?_) (fun h22=>?_)
  ·replace h:=iT h22 h
   refine sy rfl (wy rfl (k20 d2) (s_load ti22 (et (k20 d3)) ((hS.blk d0).cell d3) (dt (q20 p4)) (sy rfl ?_)))
   replace h:=bI h; obtain ⟨r23,g24,h⟩:=h
   refine wy rfl (k20 d2) (s_callv isfn18 ef (e1 (et (k20 d4)) (e1 (et (k20 d5)) e0)) (r9_same_w (hg.t le9) m12 (m3.up le9) g24 hS) ?_)
   rintro _ w4 ⟨μ2,rfl,le25,hS⟩
   refine po ?_
   iterate 2 refine st ?_
   refine nw (cret ?_)
   obtain rfl:=Option.some.inj h
   refine ret1 rfl d6 ?_
   replace hS:=hS.drop Rm.z
   exact ⟨_,rfl,(le9.t le25),hS⟩
  ·replace h:=iF h22 h
   refine sn rfl rfl (sn rfl rfl (sn rfl rfl (sn rfl rfl ?_)))
   iterate 2 refine st ?_
   refine nw (cret ?_)
   obtain rfl:=Option.some.inj h
   refine ret1 rfl d6 ?_
   replace hS:=hS.drop Rm.z
   exact ⟨_,rfl,le9,hS⟩
 ·replace h:=iF h21 h
  refine sn rfl rfl (sn rfl rfl (sn rfl rfl ?_))
  iterate 2 refine st ?_
  refine sn rfl rfl (sn rfl rfl (sn rfl rfl (sn rfl rfl ?_)))
  iterate 2 refine st ?_
  refine nw (cret ?_)
  obtain rfl:=Option.some.inj h
  refine ret1 rfl d6 ?_
  replace hS:=hS.drop Rm.z
  exact ⟨_,rfl,le9,hS⟩
theorem law_zip_w (hg:Le Gm μ0) {p_1 p_2:List Int} {r:Bool} (m3:Sl μ0 a1 c2 p_1) (m6:Sl μ0 a4 c5 p_2) (h:law_zip fu p_1 p_2=some r) (hS:Sq μ0 w0 w (rsF)):CallsV prog 8 [.slice a1 p_1.length c2,.slice a4 p_2.length c5] w (fun v w'=>∃ (μ':M) ,v=.bool r∧Le μ0 μ'∧Sq μ' w0 w' (rsF)):=by
 unfold law_zip at h
 refine enter func8 rfl (frm:=_::_::u20 (u20 [])) rfl (nz (st (ny (cseq ?_))))
 refine ccutE (List.range' 7 7) (by decide) (fun m w=>∃ μx b7,m=(yK7 (yO7 7 (.i (.bool b7)::[])))∧law_zip_j1 fu p_1 p_2 b7=some r∧Le μ0 μx∧Sq μx w0 w (rsF)) (by rintro _ _ ⟨_,_,rfl,_⟩; rfl) ?_ ?_
 ·refine creg (st (wl (s_lensl underlying22 (et d7) (dt p8) ?_)))
  iterate 2 refine st ?_
  refine wspd (k10 d0) (q10 p0) (q10 p0) (fun h8=>?_) (fun h8=>?_)
  ·replace h:=iT h8 h
   refine sn rfl rfl (sn rfl rfl (sn rfl rfl (st (wnil (xl ?_)))))
   exact ⟨_,_,rfl,(aK7 (aO7 (aI aZ))),_,true,rfl,h,Le.r,hS⟩
  ·replace h:=iF h8 h
   refine sy rfl (wy rfl (k10 d0) (s_lensl underlying22 (et (k10 d1)) (dt (q10 p2)) (sy rfl (st (wnil (xl ?_))))))
   exact ⟨_,_,rfl,(aK7 (aO7 (aI aZ))),_,(decide ((100:Int)<(p_2.length:Int))),rfl,h,Le.r,hS⟩
 ·rintro _ t w1 ⟨μ1,b7,rfl,h,le9,hS⟩
  unfold law_zip_j1 at h
  refine nrm (mK7 (mO7 (mi mz))) (xn ?_)
  refine cifb (et (k10 d4)) (fun h10=>?_) (fun h10=>?_)
  ·replace h:=iT h10 h
   refine nz (st (nw (cret (xr ?_))))
   obtain rfl:=Option.some.inj h
   refine ret1 rfl d4 ?_
   exact ⟨_,rfl,le9,hS⟩
  ·replace h:=iF h10 h
   refine cskip (xn (nz (st (ny (nz (st (wl (s_lensl underlying22 (et (k10 d5)) (dt (q10 p6)) (st (nw (cblock ?_)))))))))))
   replace hS:=hS.nilRow 2 (Mo.sz Int)
   refine cloopE ([6]++List.range' 18 19) (by decide) (fun n m w=>∃ μx i41 l44 v42 cs43,m=(yK5 (.i (v42)::(yO1 6 (yK10 (.i (.int .i64 i41)::(yO10 18 (yO9 28 [])))))))∧law_zip_l1 fu p_1 p_2 n i41 l44=some r∧Le μ1 μx∧Sq μx w0 w (.row v42 2 1 l44.length cs43::rsF)∧Rw μx cs43 l44) (by rintro _ _ _ ⟨_,_,_,_,_,rfl,_⟩; rfl) _ _ (aK5 (aI (aO1 (aK10 (aI (aO10 (aO9 aZ))))))) ⟨_,0,[],(.slice none 0 0),[],rfl,h,Le.r,hS,Rw.nil⟩ ?_
   rintro n_1 _ t w2 ⟨μ2,i41,l44,v42,cs43,rfl,h,le75,hS,m76⟩
   cases n_1 with
   | zero=>cases h
   | succ n_1 =>
   unfold law_zip_l1 at h
   refine cnrm (mK5 (mi (mO1 (mK10 (mi (mO10 (mO9 mz))))))) (nz (st (ny ?_)))
   refine cifd (et (k10 d8)) (fun h77=>?_) (fun h77=>?_)
   ·replace h:=iT h77 h
    refine cskip (xn (cseq (cblock (nz ?_))))
    iterate 2 refine st ?_
    refine nx ?_
    iterate 2 refine st ?_
    refine wl (s_lensl underlying22 (et (k20 d1)) (dt (q20 p2)) (st (nw ?_)))
    refine cifd (et (k20 d3)) (fun h78=>?_) (fun h78=>?_)
    ·replace h:=iT h78 h
     refine cdraw (by kernel_rfl) rfl fun w3 hh_ ho_ ht_ hu_=>?_
     replace hS:=hS.drew hh_ ho_ ht_ hu_
     refine cpi 0 rfl (cpi 1 rfl (cpi 2 rfl ?_))
     replace h:=bI h; obtain ⟨x79,g80,h⟩:=h
     obtain ⟨b81,o82,cs83,e84,f85,m86⟩:=SlR.elem (m3.up (le9.t le75)) g80
     obtain rfl:=m86
     refine cp 3 rfl (u_iax underlying22 ti2 (et (k20 d5)) (et (k20 d6)) e84) (q20 p7) (cpi 5 rfl (cpi 6 rfl ?_))
     replace h:=bI h; obtain ⟨x87,g88,h⟩:=h
     obtain ⟨b89,o90,cs91,e92,f93,m94⟩:=SlR.elem (m6.up (le9.t le75)) g88
     obtain rfl:=m94
     refine cp 7 rfl (u_iax underlying22 ti2 (et (k20 d9)) (et (k30 d0)) e92) (q30 p1) (cr 4 [4,9,10,11,12] rfl (u_load ti2 (et (k20 d7)) ((f85 _ hS.a).one d0)) (q20 p8) (cr 8 [8,9,10,11,12] rfl (u_load ti2 (et (k30 d1)) ((f93 _ hS.a).one d0)) (q30 p2) (cp 9 rfl (u_add (et (k20 d8)) (et (k30 d2)) rfl) (q30 p3) ?_)))
     refine sc1 rfl rfl rfl (s_bsl underlying22 ti2 (Parts.s (et (k30 d3)) rfl Parts.z) rfl rfl hS ?_); clear hS; intro b95 w4 hb96 hS; refine po ?_
     replace h:=bI h; obtain ⟨l99,g100,h⟩:=h
     have m101:Rw μ2 [.int .i64 (w64 (x79+x87))] [w64 (x79+x87)]:=(Rw.one (α:=Int) rfl)
     have m98:=Rw.app m76 m101 g100
     refine sc1 rfl rfl rfl (s_app1 underlying22 ti2 rfl (et (k20 d4)) (et (k30 d4)) hS d1 (hS.blk d0).cells m101 rfl g100 (by decide) ?_); clear hS; intro v97 w5 rs_ hp_ hS; cases (show _=rs_ from hp_)
     replace hS:=Sep.reput hS p1; refine po ?_
     replace hS:=hS.drop Rm.z
     refine cpi 12 rfl (sc_nil ?_)
     refine (fun h=>bn (xn h)) ?_
     refine creg ?_
     replace h:=bI h; obtain ⟨i102,g103,h⟩:=h
     refine wl (s_addc (et (k10 d7)) ec g103 (dt (q30 p6)) (st (wnil (xl ?_))))
     exact ⟨n_1,_,_,rfl,(aK5 (aI (aO1 (aK10 (aI (aO10 (aO9 aZ))))))),⟨_,i102,l99,v97,(cs43++[.int .i64 (w64 (x79+x87))]),rfl,h,le75,hS,m98⟩,Nat.lt_succ_self _⟩
    ·replace h:=iF h78 h
     refine cskip ?_
     refine (fun h=>bn (xn h)) ?_
     refine creg ?_
     replace h:=bI h; obtain ⟨i104,g105,h⟩:=h
     refine wl (s_addc (et (k10 d7)) ec g105 (dt (q30 p6)) (st (wnil (xl ?_))))
     exact ⟨n_1,_,_,rfl,(aK5 (aI (aO1 (aK10 (aI (aO10 (aO9 aZ))))))),⟨_,i104,l44,v42,cs43,rfl,h,le75,hS,m76⟩,Nat.lt_succ_self _⟩
   ·replace h:=iF h77 h
    refine cexit ?_
    refine (fun h=>xe (xe (bh h))) ?_
    refine xn (nz ?_)
    iterate 3 refine st ?_
    refine wl (s_bsl underlying29 ti22 (Parts.s (et (k30 d8)) rfl (Parts.s (et (k30 d9)) rfl Parts.z)) rfl rfl hS ?_); clear hS; intro b106 w6 hb107 hS; refine po ?_
    replace hS:=hS.bg Y1
    obtain ⟨μ3,a108,c109,e112,le111,m110,hq_⟩:=Sep.frzRow hS m76 rfl; clear hS
    subst e112; have hS:=hq_; clear hq_
    obtain ⟨μ4,le114,m113,hS⟩:=Sep.frzBlk (l:=([p_1,p_2]:List (List Int))) hS (Rw.cons (α:=List Int) (cs:=[.slice a1 p_1.length c2]) ⟨a1,c2,rfl,(m3.up (le9.t (le75.t le111)))⟩ (Rw.cons (α:=List Int) (cs:=[.slice a4 p_2.length c5]) ⟨a4,c5,rfl,(m6.up (le9.t (le75.t le111)))⟩ Rw.nil)) (Nat.le_of_ble_eq_true rfl)
    replace h:=bI h; obtain ⟨r115,g116,h⟩:=h
    refine ca (l12_says_w (hg.t (le9.t (le75.t (le111.t le114)))) (m110.up le114) m113 g116 hS) ?_
    rintro _ w7 ⟨μ5,rfl,le117,hS⟩
    refine po (st (nw (cret ?_)))
    obtain rfl:=Option.some.inj h
    refine ret1 rfl d4 ?_
    exact ⟨_,rfl,(le9.t (le75.t (le111.t (le114.t le117)))),hS⟩
end Go.Proofs.YtegmgfljdeabeaaGreatDoor
