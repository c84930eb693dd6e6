/- The shelf: texts of ShelfMerge Wl. -/
import Derived.Test.YtegmgfljdeabeaaGreatDoorCXu
import Derived.Test.YtegmgfljdeabeaaGreatDoorCPl
import Derived.Test.YtegmgfljdeabeaaGreatDoorCWd
set_option linter.unusedSimpArgs false
set_option linter.unusedVariables false
set_option linter.unusedSectionVars false
set_option maxRecDepth 100000
set_option maxHeartbeats 20000000
namespace Go.Proofs.YtegmgfljdeabeaaGreatDoor
open Go.Wk Go.Xt Go.Y Tryz
variable {c2 c5 fu:Nat} {a1 a4:Option Addr} {μ0:M} {w0 w:World} {rsF:List Res}
theorem r9_same_w (hg:Le Gm μ0) {p_1 p_2:List Int} {r:Bool} (m3:Sl μ0 a1 c2 p_1) (m6:Sl μ0 a4 c5 p_2) (h:r9_same p_1 p_2=some r) (hS:Sq μ0 w0 w (rsF)):CallsV prog 18 [.slice a1 p_1.length c2,.slice a4 p_2.length c5] w (fun v w'=>∃ (μ':M) ,v=.bool r∧Le μ0 μ'∧Sq μ' w0 w' (rsF)):=by
 unfold r9_same at h
 refine enter func18 rfl (frm:=_::_::u2 (u2 (u20 []))) rfl (nz (st (ny (nz (st (wl (s_lensl underlying22 (et d6) (dt p7) (st (wl (s_lensl underlying22 (et d8) (dt p9) (st (nw ?_))))))))))))
 refine cifd (et (k10 d0)) (fun h7=>?_) (fun h7=>?_)
 ·replace h:=iT h7 h
  refine nz (st (nw (cret (xr ?_))))
  obtain rfl:=Option.some.inj h
  refine ret1 rfl d4 ?_
  exact ⟨_,rfl,Le.r,hS⟩
 ·replace h:=iF h7 h
  refine cskip (xn (cseq (nz (st (wl (s_lensl underlying22 (et (k10 d1)) (dt (q10 p2)) (st (nw (cblock ?_)))))))))
  refine cloopE (List.range' 4 2++List.range' 14 12) (by decide) (fun n m w=>∃ μx i26,m=(yK4 (yO2 4 (yK7 (.i (.int .i64 i26)::(yO10 14 (yO2 24 []))))))∧r9_same_l1 p_1 p_2 n i26=some r∧Le μ0 μx∧Sq μx w0 w (rsF)) (by rintro _ _ _ ⟨_,_,rfl,_⟩; rfl) _ _ (aK4 (aO2 (aK7 (aI (aO10 (aO2 aZ)))))) ⟨_,0,rfl,h,Le.r,hS⟩ ?_
  rintro n_1 _ t w1 ⟨μ1,i26,rfl,h,le45,hS⟩
  cases n_1 with
  | zero=>cases h
  | succ n_1 =>
  unfold r9_same_l1 at h
  refine cnrm (mK4 (mO2 (mK7 (mi (mO10 (mO2 mz)))))) (nz (st (ny ?_)))
  refine cifd (et (k10 d4)) (fun h46=>?_) (fun h46=>?_)
  ·replace h:=iT h46 h
   refine cskip (xn (cseq (cblock (nz ?_))))
   iterate 2 refine st ?_
   refine ny ?_
   refine cdraw (by kernel_rfl) rfl fun w2 hh_ ho_ ht_ hu_=>?_
   replace hS:=hS.drew hh_ ho_ ht_ hu_
   refine cpi 0 rfl (cpi 1 rfl ?_)
   replace h:=bI h; obtain ⟨x47,g48,h⟩:=h
   obtain ⟨b49,o50,cs51,e52,f53,m54⟩:=SlR.elem (m3.up le45) g48
   obtain rfl:=m54
   refine cp 2 rfl (u_iax underlying22 ti2 (et (k10 d6)) (et (k10 d7)) e52) (q10 p8) (cpi 4 rfl (cpi 5 rfl ?_))
   replace h:=bI h; obtain ⟨x55,g56,h⟩:=h
   obtain ⟨b57,o58,cs59,e60,f61,m62⟩:=SlR.elem (m6.up le45) g56
   obtain rfl:=m62
   refine cp 6 rfl (u_iax underlying22 ti2 (et (k20 d0)) (et (k20 d1)) e60) (q20 p2) (cr 3 [3,8] rfl (u_load ti2 (et (k10 d8)) ((f53 _ hS.a).one d0)) (q10 p9) (cr 7 [7,8] rfl (u_load ti2 (et (k20 d2)) ((f61 _ hS.a).one d0)) (q20 p3) (cpi 8 rfl (nu ?_))))
   refine cifd (et (k20 d4)) (fun h63=>?_) (fun h63=>?_)
   ·replace h:=iT h63 h
    refine nz (st (nw (cret ?_)))
    refine (fun h=>br (xr (xr (br (xr h))))) ?_
    obtain rfl:=Option.some.inj h
    refine ret1 rfl d4 ?_
    exact ⟨_,rfl,le45,hS⟩
   ·replace h:=iF h63 h
    refine cskip ?_
    refine (fun h=>bn (xn h)) ?_
    refine creg ?_
    replace h:=bI h; obtain ⟨i65,g66,h⟩:=h
    refine wl (s_addc (et (k10 d3)) ec g66 (dt (q20 p5)) (st (wnil (xl ?_))))
    exact ⟨n_1,_,_,rfl,(aK4 (aO2 (aK7 (aI (aO10 (aO2 aZ)))))),⟨_,i65,rfl,h,le45,hS⟩,Nat.lt_succ_self _⟩
  ·replace h:=iF h46 h
   refine cexit ?_
   refine (fun h=>xe (xe (bh h))) ?_
   refine xn (nz (st (nw (cret ?_))))
   obtain rfl:=Option.some.inj h
   refine ret1 rfl d4 ?_
   exact ⟨_,rfl,le45,hS⟩
theorem l12_says_w (hg:Le Gm μ0) {p_1:List UInt8} {p_2:List Int} {p_3:List (List Int)} {r:Bool} (m3:Sl μ0 a1 c2 p_2) (m6:Sl μ0 a4 c5 p_3) (h:l12_says fu p_1 p_2 p_3=some r) (hS:Sq μ0 w0 w (rsF)):CallsV prog 15 [S p_1,.slice a1 p_2.length c2,.slice a4 p_3.length c5] w (fun v w'=>∃ (μ':M) ,v=.bool r∧Le μ0 μ'∧Sq μ' w0 w' (rsF)):=by
 unfold l12_says at h
 refine enter func15 rfl (frm:=_::_::_::u5 (u20 [])) rfl (nz (st (nx ?_)))
 iterate 2 refine st ?_
 replace h:=bI h; obtain ⟨r7,g8,h⟩:=h
 refine ca (sh_ask_w hg m6 g8 hS) ?_
 rintro _ w1 ⟨μ1,a10,c11,a13,c14,a16,c17,rfl,le9,hS,m12,m15,m18⟩
 refine po ?_
 iterate 3 refine st ?_
 refine wl (s_alloc ti32 hS ?_); clear hS; intro b19 w2 hb20 hS; refine po ?_
 refine wl (s_storeA ti32 (et d7) (et (k10 d3)) rfl rfl hS d0 rfl p0 dn ?_)
 clear hS; intro w3 hS
 refine st (nx ?_)
 iterate 3 refine st ?_
 refine wspd (k10 d7) (q10 p7) (q10 p7) (fun h21=>?_) (fun h21=>?_)
 ·replace h:=iT h21 h
  refine sy rfl (wy rfl (k10 d7) (s_load ti3 (et (k10 d8)) ((hS.blk d0).cell d0) (dt (q10 p9)) (sy rfl ?_)))
  iterate 2 refine st ?_
  refine wspd (k20 d2) (q20 p2) (q20 p2) (fun h22=>?_) (fun h22=>?_)
  ·replace h:=iT h22 h
   refine sy rfl (wy rfl (k20 d2) (s_load ti22 (et (k20 d3)) ((hS.blk d0).cell d3) (dt (q20 p4)) (sy rfl ?_)))
   replace h:=bI h; obtain ⟨r23,g24,h⟩:=h
   refine wy rfl (k20 d2) (s_callv isfn18 ef (e1 (et (k20 d4)) (e1 (et (k20 d5)) e0)) (r9_same_w (hg.t le9) m12 (m3.up le9) g24 hS) ?_)
   rintro _ w4 ⟨μ2,rfl,le25,hS⟩
   refine po ?_
   iterate 2 refine st ?_
   refine nw (cret ?_)
   obtain rfl:=Option.some.inj h
   refine ret1 rfl d6 ?_
   replace hS:=hS.drop Rm.z
   exact ⟨_,rfl,(le9.t le25),hS⟩
  ·replace h:=iF h22 h
   refine sn rfl rfl (sn rfl rfl (sn rfl rfl (sn rfl rfl ?_)))
   iterate 2 refine st ?_
   refine nw (cret ?_)
   obtain rfl:=Option.some.inj h
   refine ret1 rfl d6 ?_
   replace hS:=hS.drop Rm.z
   exact ⟨_,rfl,le9,hS⟩
 ·replace h:=iF h21 h
  refine sn rfl rfl (sn rfl rfl (sn rfl rfl ?_))
  iterate 2 refine st ?_
  refine sn rfl rfl (sn rfl rfl (sn rfl rfl (sn rfl rfl ?_)))
  iterate 2 refine st ?_
  refine nw (cret ?_)
  obtain rfl:=Option.some.inj h
  refine ret1 rfl d6 ?_
  replace hS:=hS.drop Rm.z
  exact ⟨_,rfl,le9,hS⟩
theorem law_merge_w (hg:Le Gm μ0) {p_1 p_2:List Int} {r:Bool} (m3:Sl μ0 a1 c2 p_1) (m6:Sl μ0 a4 c5 p_2) (h:law_merge fu p_1 p_2=some r) (hS:Sq μ0 w0 w (rsF)):CallsV prog 13 [.slice a1 p_1.length c2,.slice a4 p_2.length c5] w (fun v w'=>∃ (μ':M) ,v=.bool r∧Le μ0 μ'∧Sq μ' w0 w' (rsF)):=by
 unfold law_merge at h
 refine enter func13 rfl (frm:=_::_::u1 (u5 (u50 []))) rfl (nz (st (ny (cseq ?_))))
 refine ccutE (List.range' 8 7) (by decide) (fun m w=>∃ μx b7,m=(yK8 (yO7 8 (.i (.bool b7)::[])))∧law_merge_j1 fu p_1 p_2 b7=some r∧Le μ0 μx∧Sq μx w0 w (rsF)) (by rintro _ _ ⟨_,_,rfl,_⟩; rfl) ?_ ?_
 ·refine creg (st (wl (s_lensl underlying22 (et d8) (dt p9) ?_)))
  iterate 2 refine st ?_
  refine wspd (k10 d1) (q10 p1) (q10 p1) (fun h8=>?_) (fun h8=>?_)
  ·replace h:=iT h8 h
   refine sn rfl rfl (sn rfl rfl (sn rfl rfl (st (wnil (xl ?_)))))
   exact ⟨_,_,rfl,(aK8 (aO7 (aI aZ))),_,true,rfl,h,Le.r,hS⟩
  ·replace h:=iF h8 h
   refine sy rfl (wy rfl (k10 d1) (s_lensl underlying22 (et (k10 d2)) (dt (q10 p3)) (sy rfl (st (wnil (xl ?_))))))
   exact ⟨_,_,rfl,(aK8 (aO7 (aI aZ))),_,(decide ((60:Int)<(p_2.length:Int))),rfl,h,Le.r,hS⟩
 ·rintro _ t w1 ⟨μ1,b7,rfl,h,le9,hS⟩
  unfold law_merge_j1 at h
  refine nrm (mK8 (mO7 (mi mz))) (xn ?_)
  refine cifb (et (k10 d5)) (fun h10=>?_) (fun h10=>?_)
  ·replace h:=iT h10 h
   refine nz (st (nw (cret (xr ?_))))
   obtain rfl:=Option.some.inj h
   refine ret1 rfl d4 ?_
   exact ⟨_,rfl,le9,hS⟩
  ·replace h:=iF h10 h
   refine cskip (xn (nz (st (nx ?_))))
   iterate 2 refine st ?_
   refine ny (cblock ?_)
   replace hS:=hS.nilRow 2 (Mo.sz Int)
   refine cloopE (List.range' 16 37) (by decide +kernel) (fun n m w=>∃ μx i65 i66 l69 v67 cs68,m=(yK5 (.i (v67)::(.i (.int .i64 i65)::(.i (.int .i64 i66)::(yK8 (yO20 16 (yO10 36 (yO7 46 []))))))))∧law_merge_l1 fu p_1 p_2 n i65 i66 l69=some r∧Le μ1 μx∧Sq μx w0 w (.row v67 2 1 l69.length cs68::rsF)∧Rw μx cs68 l69) (by rintro _ _ _ ⟨_,_,_,_,_,_,rfl,_⟩; rfl) _ _ (aK5 (aI (aI (aI (aK8 (aO20 (aO10 (aO7 aZ)))))))) ⟨_,0,0,[],(.slice none 0 0),[],rfl,h,Le.r,hS,Rw.nil⟩ ?_
   rintro n_1 _ t w2 ⟨μ2,i65,i66,l69,v67,cs68,rfl,h,le123,hS,m124⟩
   cases n_1 with
   | zero=>cases h
   | succ n_1 =>
   unfold law_merge_l1 at h
   refine cnrm (mK5 (mi (mi (mi (mK8 (mO20 (mO10 (mO7 mz)))))))) (cseq (cseq ?_))
   refine ccutE (List.range' 16 9) (by decide) (fun m w=>∃ μx b125,m=(yK10 (yK6 (yO9 16 (.i (.bool b125)::[]))))∧law_merge_j2 fu p_1 p_2 i65 i66 l69 (law_merge_l1 fu p_1 p_2 n_1) b125=some r∧Le μ2 μx∧Sq μx w0 w (.row v67 2 1 l69.length cs68::rsF)) (by rintro _ _ ⟨_,_,rfl,_⟩; rfl) ?_ ?_
   ·refine creg ?_
    iterate 2 refine st ?_
    refine wl (s_lensl underlying22 (et (k10 d7)) (dt (q10 p8)) ?_)
    iterate 2 refine st ?_
    refine wspd (k20 d0) (q20 p0) (q20 p0) (fun h126=>?_) (fun h126=>?_)
    ·replace h:=iT h126 h
     refine sy rfl (sy rfl (wy rfl (k20 d0) (s_lensl underlying22 (et (k20 d2)) (dt (q20 p3)) (sy rfl (st (wnil (xl ?_)))))))
     exact ⟨_,_,rfl,(aK10 (aK6 (aO9 (aI aZ)))),_,(decide (i66<(p_2.length:Int))),rfl,h,Le.r,hS⟩
    ·replace h:=iF h126 h
     refine sn rfl rfl (sn rfl rfl (sn rfl rfl (sn rfl rfl (st (wnil (xl ?_))))))
     exact ⟨_,_,rfl,(aK10 (aK6 (aO9 (aI aZ)))),_,false,rfl,h,Le.r,hS⟩
   ·rintro _ t w3 ⟨μ3,b125,rfl,h,le127,hS⟩
    unfold law_merge_j2 at h
    refine nrm (mK10 (mK6 (mO9 (mi mz)))) (xn ?_)
    refine cifb (et (k20 d5)) (fun h128=>?_) (fun h128=>?_)
    ·replace h:=iT h128 h
     refine cskip (xn (cblock (cseq ?_)))
     refine cdraw (by kernel_rfl) rfl fun w4 hh_ ho_ ht_ hu_=>?_
     replace hS:=hS.drew hh_ ho_ ht_ hu_
     refine cpi 0 rfl (cpi 1 rfl ?_)
     replace h:=bI h; obtain ⟨x129,g130,h⟩:=h
     obtain ⟨b131,o132,cs133,e134,f135,m136⟩:=SlR.elem (m3.up (le9.t (le123.t le127))) g130
     obtain rfl:=m136
     refine cp 2 rfl (u_iax underlying22 ti2 (et (k20 d6)) (et (k20 d7)) e134) (q20 p8) (cpi 4 rfl (cpi 5 rfl ?_))
     replace h:=bI h; obtain ⟨x137,g138,h⟩:=h
     obtain ⟨b139,o140,cs141,e142,f143,m144⟩:=SlR.elem (m6.up (le9.t (le123.t le127))) g138
     obtain rfl:=m144
     refine cp 6 rfl (u_iax underlying22 ti2 (et (k30 d0)) (et (k30 d1)) e142) (q30 p2) (cr 3 [3,8] rfl (u_load ti2 (et (k20 d8)) ((f135 _ hS.a).one d0)) (q20 p9) (cr 7 [7,8] rfl (u_load ti2 (et (k30 d2)) ((f143 _ hS.a).one d0)) (q30 p3) (cpi 8 rfl (nu ?_))))
     refine cifd (et (k30 d4)) (fun h145=>?_) (fun h145=>?_)
     ·replace h:=iT h145 h
      refine nz ?_
      iterate 3 refine st ?_
      replace h:=bI h; obtain ⟨x146,g147,h⟩:=h
      obtain ⟨b148,o149,cs150,e151,f152,m153⟩:=SlR.elem (m3.up (le9.t (le123.t le127))) g147
      obtain rfl:=m153
      refine wl (s_iax underlying22 ti2 (et (k30 d6)) (et (k30 d7)) e151 (dt (q30 p8)) (ld ((f152 _ hS.a).one d0) ?_))
      refine wl (s_bsl underlying22 ti2 (Parts.s (et (k30 d9)) rfl Parts.z) rfl rfl hS ?_); clear hS; intro b154 w5 hb155 hS; refine po ?_
      replace h:=bI h; obtain ⟨l158,g159,h⟩:=h
      have m160:Rw μ3 [.int .i64 x146] [x146]:=(Rw.one (α:=Int) rfl)
      have m157:=Rw.app (m124.up le127) m160 g159
      refine wl (s_app1 underlying22 ti2 rfl (et (k30 d5)) (et (k40 d0)) hS d1 (hS.blk d0).cells m160 rfl g159 (by decide) ?_); clear hS; intro v156 w6 rs_ hp_ hS; cases (show _=rs_ from hp_)
      replace hS:=Sep.reput hS p1; refine po ?_
      replace hS:=hS.drop Rm.z
      refine st (nw (creg (st ?_)))
      replace h:=bI h; obtain ⟨i161,g162,h⟩:=h
      refine wl (s_addc (et (k40 d2)) ec g162 (dt (q40 p3)) (st (wnil ?_)))
      refine (fun h=>bn (xl h)) ?_
      exact ⟨n_1,_,_,rfl,(aK5 (aI (aI (aI (aK8 (aO20 (aO10 (aO7 aZ)))))))),⟨_,i161,i66,l158,v156,(cs68++[.int .i64 x146]),rfl,h,(le123.t le127),hS,m157⟩,Nat.lt_succ_self _⟩
     ·replace h:=iF h145 h
      refine nz ?_
      iterate 3 refine st ?_
      replace h:=bI h; obtain ⟨x163,g164,h⟩:=h
      obtain ⟨b165,o166,cs167,e168,f169,m170⟩:=SlR.elem (m6.up (le9.t (le123.t le127))) g164
      obtain rfl:=m170
      refine wl (s_iax underlying22 ti2 (et (k40 d5)) (et (k40 d6)) e168 (dt (q40 p7)) (ld ((f169 _ hS.a).one d0) ?_))
      refine wl (s_bsl underlying22 ti2 (Parts.s (et (k40 d8)) rfl Parts.z) rfl rfl hS ?_); clear hS; intro b171 w7 hb172 hS; refine po ?_
      replace h:=bI h; obtain ⟨l175,g176,h⟩:=h
      have m177:Rw μ3 [.int .i64 x163] [x163]:=(Rw.one (α:=Int) rfl)
      have m174:=Rw.app (m124.up le127) m177 g176
      refine wl (s_app1 underlying22 ti2 rfl (et (k40 d4)) (et (k40 d9)) hS d1 (hS.blk d0).cells m177 rfl g176 (by decide) ?_); clear hS; intro v173 w8 rs_ hp_ hS; cases (show _=rs_ from hp_)
      replace hS:=Sep.reput hS p1; refine po ?_
      replace hS:=hS.drop Rm.z
      refine st (nw (creg (st ?_)))
      replace h:=bI h; obtain ⟨i178,g179,h⟩:=h
      refine wl (s_addc (et (k50 d1)) ec g179 (dt (q50 p2)) (st (wnil ?_)))
      refine (fun h=>bn (xl h)) ?_
      exact ⟨n_1,_,_,rfl,(aK5 (aI (aI (aI (aK8 (aO20 (aO10 (aO7 aZ)))))))),⟨_,i65,i178,l175,v173,(cs68++[.int .i64 x163]),rfl,h,(le123.t le127),hS,m174⟩,Nat.lt_succ_self _⟩
    ·replace h:=iF h128 h
     refine cexit ?_
     refine (fun h=>xe (xe (bh h))) ?_
     refine xn (nz ?_)
     iterate 3 refine st ?_
     refine wl (s_bsl underlying29 ti22 (Parts.s (et (k50 d4)) rfl (Parts.s (et (k50 d5)) rfl Parts.z)) rfl rfl hS ?_); clear hS; intro b180 w9 hb181 hS; refine po ?_
     replace hS:=hS.bg Y1
     obtain ⟨μ4,a182,c183,e186,le185,m184,hq_⟩:=Sep.frzRow hS (m124.up le127) rfl; clear hS
     subst e186; have hS:=hq_; clear hq_
     obtain ⟨μ5,le188,m187,hS⟩:=Sep.frzBlk (l:=([p_1,p_2]:List (List Int))) hS (Rw.cons (α:=List Int) (cs:=[.slice a1 p_1.length c2]) ⟨a1,c2,rfl,(m3.up (le9.t (le123.t (le127.t le185))))⟩ (Rw.cons (α:=List Int) (cs:=[.slice a4 p_2.length c5]) ⟨a4,c5,rfl,(m6.up (le9.t (le123.t (le127.t le185))))⟩ Rw.nil)) (Nat.le_of_ble_eq_true rfl)
     replace h:=bI h; obtain ⟨r189,g190,h⟩:=h
     refine ca (l12_says_w (hg.t (le9.t (le123.t (le127.t (le185.t le188))))) (m184.up le188) m187 g190 hS) ?_
     rintro _ w10 ⟨μ6,rfl,le191,hS⟩
     refine po (st (nw (cret ?_)))
     obtain rfl:=Option.some.inj h
     refine ret1 rfl d4 ?_
     exact ⟨_,rfl,(le9.t (le123.t (le127.t (le185.t (le188.t le191))))),hS⟩
end Go.Proofs.YtegmgfljdeabeaaGreatDoor
