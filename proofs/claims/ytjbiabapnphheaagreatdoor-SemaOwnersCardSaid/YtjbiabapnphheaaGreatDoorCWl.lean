/- Texts of SemaOwners Wl. -/
import Derived.Test.YtjbiabapnphheaaGreatDoorCXu
import Derived.Test.YtjbiabapnphheaaGreatDoorCPl
import Derived.Test.YtjbiabapnphheaaGreatDoorCWc
set_option linter.unusedSimpArgs false
set_option linter.unusedVariables false
set_option linter.unusedSectionVars false
set_option maxRecDepth 100000
set_option maxHeartbeats 20000000
namespace Go.Proofs.YtjbiabapnphheaaGreatDoor
open Go.Wk Go.Xt Go.Y Tryz
variable {c2 fu:Nat} {a1:Option Addr} {μ0:M} {w0 w:World} {rsF:List Res}
theorem r3_find_w (hg:Le Gm μ0) {p_1:List TDef} {p_2:Int} {p_3:List UInt8} {r:TDef×Bool} (m3:Sl μ0 a1 c2 p_1) (h:r3_find p_1 p_2 p_3=some r) (hS:Sq μ0 w0 w (rsF)):CallsV prog 10 [.slice a1 p_1.length c2,.int .i64 p_2,S p_3] w (fun v w'=>∃ (μ':M) (a4:Option Addr) (c5:Nat) (a7:Option Addr) (c8:Nat),v=.tuple ⟨[.agg ⟨[.int .i64 r.1.Kind,S r.1.Name,.int .i64 r.1.Typ.Kind,S r.1.Typ.Gen,.int .i64 r.1.Takes.Kind,S r.1.Takes.Gen,.int .i64 r.1.Cap,.slice a4 r.1.Params.length c5,.slice a7 r.1.Body.length c8]⟩,.bool r.2]⟩∧Le μ0 μ'∧Sq μ' w0 w' (rsF)∧Sl μ' a4 c5 r.1.Params∧Sl μ' a7 c8 r.1.Body):=by
 unfold r3_find at h
 refine enter func10 rfl (frm:=_::_::_::u1 (u5 (u20 []))) rfl (nz ?_)
 refine wl (s_alloc ti35 hS ?_); clear hS; intro b10 w1 hb11 hS; refine po ?_
 refine st (ny (nz (st (wl (su (u_lensl underlying22 (et (k10 d0))) (dt (q10 p1)) (st (nw (cblock ?_))))))))
 refine cloopE ([7]++[9]++rg 13 15) (by decide) (fun n m w=>∃ μx i33,m=(yK7 (yO1 7 (yK1 (yO1 9 (yK2 (.i (.int .i64 i33)::(yO10 13 (yO5 23 []))))))))∧r3_find_l1 p_1 p_2 p_3 n i33=some r∧Le μ0 μx∧Sq μx w0 w (.blk b10 35 [.int .i64 0,S [],.int .i64 0,S [],.int .i64 0,S [],.int .i64 0,.slice none 0 0,.slice none 0 0]::rsF)) (by rintro _ _ _ ⟨_,_,rfl,_⟩; rfl) _ _ (aK7 (aO1 (aK1 (aO1 (aK2 (aI (aO10 (aO5 aZ)))))))) ⟨_,0,rfl,h,Le.r,hS⟩ ?_
 rintro n_1 _ t w2 ⟨μ1,i33,rfl,h,le54,hS⟩
 cases n_1 with
 | zero=>cases h
 | succ n_1 =>
 unfold r3_find_l1 at h
 refine cnrm (mK7 (mO1 (mK1 (mO1 (mK2 (mi (mO10 (mO5 mz)))))))) (nz (st (ny ?_)))
 refine cifd (et (k10 d3)) (fun h55=>?_) (fun h55=>?_)
 ·replace h:=iT h55 h
  refine cskip (xn (cseq (cblock (nz ?_))))
  obtain ⟨x56,g57,h⟩:=bI h
  obtain ⟨b58,o59,cs60,e61,f62,m63⟩:=SlR.elem (m3.up le54) g57
  obtain ⟨a64,c65,a67,c68,rfl,m66,m69⟩:=m63
  refine wl (su (u_iax underlying22 ti35 (et (k10 d0)) (et (k10 d2)) e61) (dt (q10 p4)) (lds (f62 _ hS.a) rfl ?_))
  refine wl (s_alloc ti35 hS ?_); clear hS; intro b70 w3 hb71 hS; refine po ?_
  refine wl (s_storeA ti35 (et d9) (et (k10 d5)) rfl rfl hS d0 rfl p0 dn ?_)
  clear hS; intro w4 hS
  refine ny ?_
  refine ccutE (rg 16 9) (by decide) (fun m w=>∃ μx b72,m=(yK10 (yK6 (yO9 16 (.i (.bool b72)::[]))))∧r3_find_j1 i33 x56 (r3_find_l1 p_1 p_2 p_3 n_1) b72=some r∧Le μ1 μx∧Sq μx w0 w (.blk b10 35 [.int .i64 0,S [],.int .i64 0,S [],.int .i64 0,S [],.int .i64 0,.slice none 0 0,.slice none 0 0]::.blk b70 35 [.int .i64 x56.Kind,S x56.Name,.int .i64 x56.Typ.Kind,S x56.Typ.Gen,.int .i64 x56.Takes.Kind,S x56.Takes.Gen,.int .i64 x56.Cap,.slice a64 x56.Params.length c65,.slice a67 x56.Body.length c68]::rsF)) (by rintro _ _ ⟨_,_,rfl,_⟩; rfl) ?_ ?_
  ·refine creg (st (ld ((hS.blk d0).cell d0) ?_))
   iterate 3 refine st ?_
   refine wspd (k20 d0) (q20 p0) (q20 p0) (fun h73=>?_) (fun h73=>?_)
   ·replace h:=iT h73 h
    refine sy rfl (wy rfl (k20 d0) (s_load ti9 (et (k20 d1)) ((hS.blk d0).cell d1) (dt (q20 p2)) (sy rfl (wy rfl (k20 d0) (su (u_eqs (et (k20 d2)) (et (k20 d3))) (dt (q20 p4)) (st (wnil (xl ?_))))))))
    replace hS:=hS.bg Y1
    exact ⟨_,_,rfl,(aK10 (aK6 (aO9 (aI aZ)))),_,(decide (x56.Name=p_3)),rfl,h,Le.r,hS⟩
   ·replace h:=iF h73 h
    refine sn rfl rfl (sn rfl rfl (sn rfl rfl (sn rfl rfl (st (wnil (xl ?_))))))
    replace hS:=hS.bg Y1
    exact ⟨_,_,rfl,(aK10 (aK6 (aO9 (aI aZ)))),_,false,rfl,h,Le.r,hS⟩
  ·rintro _ t w5 ⟨μ2,b72,rfl,h,le74,hS⟩
   unfold r3_find_j1 at h
   refine nrm (mK10 (mK6 (mO9 (mi mz)))) (xn ?_)
   refine cifb (et (k20 d5)) (fun h75=>?_) (fun h75=>?_)
   ·replace h:=iT h75 h
    refine nz (lds (hS.blk d1).cells rfl (wl (s_storeA ti35 (et d6) (et (k20 d6)) rfl rfl hS d0 rfl p0 dn ?_)))
    clear hS; intro w6 hS
    refine st (nw (cret ?_))
    refine (fun h=>br (xr (xr (br (xr h))))) ?_
    obtain rfl:=oI h
    refine retN rfl (RVs.s (.a d6 ti35 (hS.blk d0).cells rfl) (RVs.s (.t d7) RVs.z)) ?_
    replace hS:=(hS.drop Rm.z).drop Rm.z
    exact ⟨_,_,_,_,_,rfl,(le54.t le74),hS,(m66.up le74),(m69.up le74)⟩
   ·replace h:=iF h75 h
    refine cskip ?_
    refine (fun h=>bn (xn h)) ?_
    refine creg ?_
    obtain ⟨i76,g77,h⟩:=bI h
    refine wl (su (u_addc (et (k10 d2)) ec g77) (dt (q20 p7)) (st (wnil (xl ?_))))
    replace hS:=hS.drop (Rm.s Rm.z)
    exact ⟨n_1,_,_,rfl,(aK7 (aO1 (aK1 (aO1 (aK2 (aI (aO10 (aO5 aZ)))))))),⟨_,i76,rfl,h,(le54.t le74),hS⟩,Nat.lt_succ_self _⟩
 ·replace h:=iF h55 h
  refine cexit ?_
  refine (fun h=>xe (xe (bh h))) ?_
  refine xn (nz (wl (s_build ti35 pl35 Fl.z (dt (q20 p8)) (wl (s_storeA ti35 (et d6) (et (k20 d8)) rfl rfl hS d0 rfl p0 dn ?_)))))
  clear hS; intro w7 hS
  refine st (nw (cret ?_))
  obtain rfl:=oI h
  refine retN rfl (RVs.s (.a d6 ti35 (hS.blk d0).cells rfl) (RVs.s (.t d7) RVs.z)) ?_
  replace hS:=hS.drop Rm.z
  exact ⟨_,none,0,none,0,rfl,le54,hS,Sl.nil,Sl.nil⟩
theorem l3_alive_w (hg:Le Gm μ0)  {r:Bool}  (h:l3_alive fu =some r) (hS:Sq μ0 w0 w (rsF)):CallsV prog 8 [] w (fun v w'=>∃ (μ':M) ,v=.bool r∧Le μ0 μ'∧Sq μ' w0 w' (rsF)):=by
 unfold l3_alive at h
 refine enter func8 rfl (frm:=u2 (u2 (u10 (u20 [])))) rfl (nz (st (nx ?_)))
 obtain ⟨r1,g2,h⟩:=bI h
 refine ca (syn_read_w hg g2 hS) ?_
 rintro _ w1 ⟨μ1,a4,c5,rfl,le3,hS,m6⟩
 refine po ?_
 iterate 3 refine st ?_
 refine wl (s_alloc ti27 hS ?_); clear hS; intro b7 w2 hb8 hS; refine po ?_
 refine st (wl (s_storeA ti27 (et d2) (et d8) rfl rfl hS d0 rfl p0 dn ?_))
 clear hS; intro w3 hS
 refine nx (st ?_)
 obtain ⟨r9,g10,h⟩:=bI h
 refine ca (sema_owners_w (hg.t le3) m6 g10 hS) ?_
 rintro _ w4 ⟨μ2,a12,c13,rfl,le11,hS,m14⟩
 refine po ?_
 iterate 3 refine st ?_
 refine wl (s_alloc ti27 hS ?_); clear hS; intro b15 w5 hb16 hS; refine po ?_
 refine st (wl (s_storeA ti27 (et d4) (et (k10 d3)) rfl rfl hS d0 rfl p0 dn ?_))
 clear hS; intro w6 hS
 refine nx (st (ld ((hS.blk d1).cell d0) ?_))
 iterate 2 refine st ?_
 refine wspd (k10 d7) (q10 p7) (q10 p7) (fun h17=>?_) (fun h17=>?_)
 ·replace h:=iT h17 h
  refine sy rfl (wy rfl (k10 d7) (s_load ti25 (et (k10 d8)) ((hS.blk d0).cell d0) (dt (q10 p9)) (sy rfl ?_)))
  iterate 2 refine st ?_
  refine wspd (k20 d2) (q20 p2) (q20 p2) (fun h18=>?_) (fun h18=>?_)
  ·replace h:=iT h18 h
   refine sy rfl (wy rfl (k20 d2) (su (u_lensl underlying24 (et (k20 d3))) (dt (q20 p4)) (sy rfl ?_)))
   iterate 2 refine st ?_
   refine wspd (k20 d7) (q20 p7) (q20 p7) (fun h19=>?_) (fun h19=>?_)
   ·replace h:=iT h19 h
    refine sy rfl ?_
    obtain ⟨x20,g21,h⟩:=bI h
    obtain ⟨b22,o23,cs24,e25,f26,m27⟩:=SlR.elem m14 g21
    obtain rfl:=m27
    refine wy rfl (k20 d7) (su (u_iax underlying24 ti37 (et (k20 d8)) ec e25) (dt (q20 p9)) (wy rfl (k20 d7) (s_loads ti37 (et (k20 d9)) (f26 _ hS.a) rfl (dt (q30 p0)) (wy rfl (k20 d7) (s_build ti37 pl37 (Fl.o rfl ec rfl rfl p0 (Fl.o rfl ec rfl rfl p1 (Fl.o rfl ec rfl rfl p2 Fl.z))) (dt (q30 p1)) (wy rfl (k20 d7) (s_eqa (ES.mk underlying37 eh37 eg37) (et (k30 d0)) (et (k30 d1)) (EqFs.o rfl rfl rfl ti9 d0 d0 (eq_str underlying9) (EqFs.o rfl rfl rfl ti9 d1 d1 (eq_str underlying9) (EqFs.o rfl rfl rfl ti9 d2 d2 (eq_str underlying9) EqFs.z))) rfl (dt (q30 p2)) ?_)))))))
    iterate 2 refine st ?_
    refine nw (cret ?_)
    obtain rfl:=oI h
    refine ret1 rfl d0 ?_
    replace hS:=(hS.drop Rm.z).drop Rm.z
    exact ⟨_,rfl,(le3.t le11),hS⟩
   ·replace h:=iF h19 h
    refine sn rfl rfl (sn rfl rfl (sn rfl rfl (sn rfl rfl (sn rfl rfl ?_))))
    iterate 2 refine st ?_
    refine nw (cret ?_)
    obtain rfl:=oI h
    refine ret1 rfl d0 ?_
    replace hS:=(hS.drop Rm.z).drop Rm.z
    exact ⟨_,rfl,(le3.t le11),hS⟩
  ·replace h:=iF h18 h
   refine sn rfl rfl (sn rfl rfl (sn rfl rfl ?_))
   iterate 2 refine st ?_
   refine sn rfl rfl (sn rfl rfl (sn rfl rfl (sn rfl rfl (sn rfl rfl ?_))))
   iterate 2 refine st ?_
   refine nw (cret ?_)
   obtain rfl:=oI h
   refine ret1 rfl d0 ?_
   replace hS:=(hS.drop Rm.z).drop Rm.z
   exact ⟨_,rfl,(le3.t le11),hS⟩
 ·replace h:=iF h17 h
  refine sn rfl rfl (sn rfl rfl (sn rfl rfl ?_))
  iterate 2 refine st ?_
  refine sn rfl rfl (sn rfl rfl (sn rfl rfl ?_))
  iterate 2 refine st ?_
  refine sn rfl rfl (sn rfl rfl (sn rfl rfl (sn rfl rfl (sn rfl rfl ?_))))
  iterate 2 refine st ?_
  refine nw (cret ?_)
  obtain rfl:=oI h
  refine ret1 rfl d0 ?_
  replace hS:=(hS.drop Rm.z).drop Rm.z
  exact ⟨_,rfl,(le3.t le11),hS⟩
theorem law_owners_w (hg:Le Gm μ0) {p_1:List TDef} {r:Bool} (m3:Sl μ0 a1 c2 p_1) (h:law_owners fu p_1=some r) (hS:Sq μ0 w0 w (rsF)):CallsV prog 3 [.slice a1 p_1.length c2] w (fun v w'=>∃ (μ':M) ,v=.bool r∧Le μ0 μ'∧Sq μ' w0 w' (rsF)):=by
 unfold law_owners at h
 refine enter func3 rfl (frm:=_::u1 (u2 (u10 (u20 (u50 []))))) rfl (nz (st (ny (nz ?_))))
 obtain ⟨r4,g5,h⟩:=bI h
 refine ca (l3_alive_w hg g5 hS) ?_
 rintro _ w1 ⟨μ1,rfl,le6,hS⟩
 refine po (st (nw ?_))
 refine cifnb (et (k10 d3)) (fun h7=>?_) (fun h7=>?_)
 ·replace h:=iF h7 h
  refine nz (st (nw (cret (xr ?_))))
  obtain rfl:=oI h
  refine ret1 rfl d2 ?_
  exact ⟨_,rfl,le6,hS⟩
 ·replace h:=iT h7 h
  refine cskip (xn (nz (st ?_)))
  obtain ⟨r8,g9,h⟩:=bI h
  refine ca (sema_owners_w (hg.t le6) (m3.up le6) g9 hS) ?_
  rintro _ w2 ⟨μ2,a11,c12,rfl,le10,hS,m13⟩
  refine po ?_
  iterate 3 refine st ?_
  refine wl (s_alloc ti27 hS ?_); clear hS; intro b14 w3 hb15 hS; refine po ?_
  refine st (wl (s_storeA ti27 (et d4) (et (k10 d8)) rfl rfl hS d0 rfl p0 dn ?_))
  clear hS; intro w4 hS
  refine ny (nz (st (ld ((hS.blk d0).cell d0) (st (nw ?_)))))
  refine cifd (et (k20 d1)) (fun h16=>?_) (fun h16=>?_)
  ·replace h:=iT h16 h
   refine nz (st (wl (su (u_lensl underlying24 (et (k20 d2))) (dt (q20 p3)) ?_)))
   iterate 2 refine st ?_
   refine nw (cret (xr ?_))
   obtain rfl:=oI h
   refine ret1 rfl d2 ?_
   replace hS:=hS.drop Rm.z
   exact ⟨_,rfl,(le6.t le10),hS⟩
  ·replace h:=iF h16 h
   refine cskip (xn (nz (st (ny (nz (st (wl (su (u_lensl underlying22 (et (k20 d5))) (dt (q20 p6)) (st (nw (cblock ?_)))))))))))
   replace hS:=hS.drop Rm.z
   refine cloopE ([2]++[7]++rg 9 3++rg 28 52) (by decide +kernel) (fun n m w=>∃ μx i138 i139,m=(yK2 (yO1 2 (yK2 (.i (.int .i64 i138)::(yK1 (yO1 7 (yK1 (yO3 9 (yK10 (yK5 (.i (.int .i64 i139)::(yO50 28 (yO2 78 [])))))))))))))∧law_owners_l1 p_1 r8 n i138 i139=some r∧Le μ2 μx∧Sq μx w0 w (rsF)) (by rintro _ _ _ ⟨_,_,_,rfl,_⟩; rfl) _ _ (aK2 (aO1 (aK2 (aI (aK1 (aO1 (aK1 (aO3 (aK10 (aK5 (aI (aO50 (aO2 aZ))))))))))))) ⟨_,0,0,rfl,h,Le.r,hS⟩ ?_
   rintro n_1 _ t w5 ⟨μ3,i138,i139,rfl,h,le261,hS⟩
   cases n_1 with
   | zero=>cases h
   | succ n_1 =>
   unfold law_owners_l1 at h
   refine cnrm (mK2 (mO1 (mK2 (mi (mK1 (mO1 (mK1 (mO3 (mK10 (mK5 (mi (mO50 (mO2 mz))))))))))))) (nz (st (ny ?_)))
   refine cifd (et (k20 d8)) (fun h262=>?_) (fun h262=>?_)
   ·replace h:=iT h262 h
    refine cskip (xn (cseq (cblock (nz ?_))))
    obtain ⟨x263,g264,h⟩:=bI h
    obtain ⟨b265,o266,cs267,e268,f269,m270⟩:=SlR.elem (m3.up (le6.t (le10.t le261))) g264
    obtain ⟨a271,c272,a274,c275,rfl,m273,m276⟩:=m270
    refine wl (su (u_iax underlying22 ti35 (et (k20 d5)) (et (k20 d7)) e268) (dt (q20 p9)) (lds (f269 _ hS.a) rfl ?_))
    refine wl (s_alloc ti35 hS ?_); clear hS; intro b277 w6 hb278 hS; refine po ?_
    refine wl (s_storeA ti35 (et d7) (et (k30 d0)) rfl rfl hS d0 rfl p0 dn ?_)
    clear hS; intro w7 hS
    refine ny (nz (st (ld ((hS.blk d0).cell d0) (st (nw ?_)))))
    refine cifd (et (k30 d3)) (fun h279=>?_) (fun h279=>?_)
    ·replace h:=iT h279 h
     refine cexit ?_
     refine (fun h=>xe (bh h)) ?_
     refine xn (creg ?_)
     obtain ⟨i280,g281,h⟩:=bI h
     refine wl (su (u_addc (et (k20 d7)) ec g281) (dt (q70 p9)) (st (wnil (xl ?_))))
     replace hS:=hS.drop Rm.z
     exact ⟨n_1,_,_,rfl,(aK2 (aO1 (aK2 (aI (aK1 (aO1 (aK1 (aO3 (aK10 (aK5 (aI (aO50 (aO2 aZ))))))))))))),⟨_,i138,i280,rfl,h,le261,hS⟩,Nat.lt_succ_self _⟩
    ·replace h:=iF h279 h
     refine cskip (xn (cseq (cseq ?_)))
     refine ccutE (rg 34 13) (by decide) (fun m w=>∃ μx b282,m=(yK20 (yK10 (yK4 (yO10 34 (yO3 44 (.i (.bool b282)::[]))))))∧law_owners_j1 p_1 r8 i138 i139 (law_owners_l1 p_1 r8 n_1) b282=some r∧Le μ3 μx∧Sq μx w0 w (rsF)) (by rintro _ _ ⟨_,_,rfl,_⟩; rfl) ?_ ?_
     ·refine cdw hS ?_; clear hS; intro w8 hS
      refine cpi 0 rfl (cpi 1 rfl (cp 2 rfl (u_lensl underlying24 (et (k30 d5))) (q30 p6) (cpi 3 rfl (cpi 4 rfl ?_))))
      refine scsd (k30 d8) (q30 p8) (q30 p8) (fun h283=>?_) (fun h283=>?_)
      ·replace h:=iT h283 h
       refine cpN 5 rfl rfl (k30 d8) rfl (q30 p9) (cpN 6 rfl rfl (k30 d8) rfl (q40 p0) (cpN 7 rfl rfl (k30 d8) rfl (q40 p1) (cpN 8 rfl rfl (k30 d8) rfl (q40 p2) (cpN 9 rfl rfl (k30 d8) rfl (q40 p3) (cpN 10 rfl rfl (k30 d8) rfl (q40 p4) (cpN 11 rfl rfl (k30 d8) rfl (q40 p5) (cpN 12 rfl rfl (k30 d8) rfl (q40 p6) (cpi 13 rfl (sc_nil (xl ?_))))))))))
       replace hS:=hS.drop Rm.z
       exact ⟨_,_,rfl,(aK20 (aK10 (aK4 (aO10 (aO3 (aI aZ)))))),_,true,rfl,h,Le.r,hS⟩
      ·replace h:=iF h283 h
       refine cpY 5 rfl rfl (k30 d8) (u_move (et d3)) (q30 p9) (cpY 6 rfl rfl (k30 d8) (u_move (et d5)) (q40 p0) ?_)
       obtain ⟨x284,g285,h⟩:=bI h
       obtain ⟨b286,o287,cs288,e289,f290,m291⟩:=SlR.elem (m13.up le261) g285
       obtain rfl:=m291
       refine cpY 7 rfl rfl (k30 d8) (u_iax underlying24 ti37 (et (k30 d9)) (et (k40 d0)) e289) (q40 p1) (cpY 8 rfl rfl (k30 d8) (u_fa fa37_0 (et (k40 d1)) rfl) (q40 p2) (crY 9 [9,12,13] rfl rfl (k30 d8) (u_load ti9 (et (k40 d2)) ((f290 _ hS.a).one d0)) (q40 p3) (cpY 10 rfl rfl (k30 d8) (u_fa fa35_1 (et d7) rfl) (q40 p4) (crY 11 [11,12,13] rfl rfl (k30 d8) (u_load ti9 (et (k40 d4)) ((hS.blk d0).cell d1)) (q40 p5) (cpY 12 rfl rfl (k30 d8) (u_nes (et (k40 d3)) (et (k40 d5))) (q40 p6) (cpi 13 rfl (sc_nil (xl ?_))))))))
       replace hS:=hS.drop Rm.z
       exact ⟨_,_,rfl,(aK20 (aK10 (aK4 (aO10 (aO3 (aI aZ)))))),_,(decide (x284.Box≠x263.Name)),rfl,h,Le.r,hS⟩
     ·rintro _ t w9 ⟨μ4,b282,rfl,h,le292,hS⟩
      unfold law_owners_j1 at h
      refine nrm (mK20 (mK10 (mK4 (mO10 (mO3 (mi mz)))))) (xn ?_)
      refine cifb (et (k40 d7)) (fun h293=>?_) (fun h293=>?_)
      ·replace h:=iT h293 h
       refine nz (st (nw (cret ?_)))
       refine (fun h=>xr (br (xr (xr (br (xr h)))))) ?_
       obtain rfl:=oI h
       refine ret1 rfl d2 ?_
       exact ⟨_,rfl,(le6.t (le10.t (le261.t le292))),hS⟩
      ·replace h:=iF h293 h
       refine cskip (xn (cseq (cseq ?_)))
       refine cdw hS ?_; clear hS; intro w10 hS
       refine cpi 0 rfl (cpi 1 rfl ?_)
       obtain ⟨x294,g295,h⟩:=bI h
       obtain ⟨b296,o297,cs298,e299,f300,m301⟩:=SlR.elem (m13.up (le261.t le292)) g295
       obtain rfl:=m301
       refine cp 2 rfl (u_iax underlying24 ti37 (et (k40 d8)) (et (k40 d9)) e299) (q50 p0) (cpi 3 rfl (cpi 5 rfl (cpi 6 rfl ?_)))
       obtain ⟨x302,g303,h⟩:=bI h
       obtain ⟨b304,o305,cs306,e307,f308,m309⟩:=SlR.elem (m13.up (le261.t le292)) g303
       obtain rfl:=m309
       refine cp 7 rfl (u_iax underlying24 ti37 (et (k50 d3)) (et (k50 d4)) e307) (q50 p5) (cpi 8 rfl (cpi 12 rfl (cr 4 [4,10,11] rfl (u_load ti9 (et (k50 d1)) ((f300 _ hS.a).one d1)) (q50 p2) (cr 9 [9,10,11] rfl (u_load ti9 (et (k50 d6)) ((f308 _ hS.a).one d2)) (q50 p7) ?_))))
       refine sc1 rfl rfl rfl (s_bsl underlying38 ti9 (Parts.s (et (k50 d2)) rfl (Parts.s (et (k50 d7)) rfl Parts.z)) rfl rfl hS ?_); clear hS; intro b310 w11 hb311 hS; refine po ?_
       refine cp 11 rfl (u_lensl underlying38 (et (k50 d8))) (q50 p9) (nu (cblock ?_))
       obtain ⟨μ5,le313,m312,hS⟩:=Sep.frzBlk (l:=([x294.Writer,x302.Reader]:List (List UInt8))) hS (Rw.cons (α:=List UInt8) (cs:=[S x294.Writer]) rfl (Rw.cons (α:=List UInt8) (cs:=[S x302.Reader]) rfl Rw.nil)) (Nat.le_of_ble_eq_true rfl)
       refine cloopE ([2]++rg 9 3++rg 61 16) (by decide) (fun n m w=>∃ μx i337,m=(yK2 (yO1 2 (yK6 (yO3 9 (yK20 (yK20 (yK8 (.i (.int .i64 i337)::(yO10 61 (yO6 71 []))))))))))∧law_owners_l2 p_1 i138 i139 x294 x302 (law_owners_l1 p_1 r8 n_1) n i337=some r∧Le μ5 μx∧Sq μx w0 w (rsF)) (by rintro _ _ _ ⟨_,_,rfl,_⟩; rfl) _ _ (aK2 (aO1 (aK6 (aO3 (aK20 (aK20 (aK8 (aI (aO10 (aO6 aZ)))))))))) ⟨_,0,rfl,h,Le.r,hS⟩ ?_
       rintro n_2 _ t w12 ⟨μ6,i337,rfl,h,le361,hS⟩
       cases n_2 with
       | zero=>cases h
       | succ n_2 =>
       unfold law_owners_l2 at h
       refine cnrm (mK2 (mO1 (mK6 (mO3 (mK20 (mK20 (mK8 (mi (mO10 (mO6 mz)))))))))) (nz (st (ny ?_)))
       refine cifd (et (k60 d1)) (fun h362=>?_) (fun h362=>?_)
       ·replace h:=iT h362 h
        refine cskip (xn (cseq (cblock (nz ?_))))
        obtain ⟨x363,g364,h⟩:=bI h
        obtain ⟨b365,o366,cs367,e368,f369,m370⟩:=SlR.elem (m312.up le361) g364
        obtain rfl:=m370
        refine wl (su (u_iax underlying38 ti9 (et (k50 d8)) (et (k60 d0)) e368) (dt (q60 p2)) (ld ((f369 _ hS.a).one d0) (st (nx ?_))))
        iterate 2 refine st ?_
        obtain ⟨r371,g372,h⟩:=bI h
        refine ca (r3_find_w (hg.t (le6.t (le10.t (le261.t (le292.t (le313.t le361)))))) (m3.up (le6.t (le10.t (le261.t (le292.t (le313.t le361)))))) g372 hS) ?_
        rintro _ w13 ⟨μ7,a374,c375,a377,c378,rfl,le373,hS,m376,m379⟩
        refine po ?_
        iterate 3 refine st ?_
        refine wl (s_alloc ti35 hS ?_); clear hS; intro b380 w14 hb381 hS; refine po ?_
        refine wl (s_storeA ti35 (et (k10 d0)) (et (k60 d8)) rfl rfl hS d0 rfl p0 dn ?_)
        clear hS; intro w15 hS
        refine st (ny ?_)
        refine ccutE (rg 70 5) (by decide) (fun m w=>∃ μx b382,m=(yK50 (yK20 (yO5 70 (.i (.bool b382)::[]))))∧law_owners_j2 i337 (law_owners_l2 p_1 i138 i139 x294 x302 (law_owners_l1 p_1 r8 n_1) n_2) b382=some r∧Le μ7 μx∧Sq μx w0 w (rsF)) (by rintro _ _ ⟨_,_,rfl,_⟩; rfl) ?_ ?_
        ·refine creg (st (wl (su (u_nes (et (k70 d0)) ec) (dt (q70 p1)) (st ?_))))
         refine wspd (k70 d2) (q70 p2) (q70 p2) (fun h383=>?_) (fun h383=>?_)
         ·replace h:=iT h383 h
          refine sy rfl (sy rfl (st (wnil (xl ?_))))
          replace hS:=hS.drop Rm.z
          exact ⟨_,_,rfl,(aK50 (aK20 (aO5 (aI aZ)))),_,(!r371.2),rfl,h,Le.r,hS⟩
         ·replace h:=iF h383 h
          refine sn rfl rfl (sn rfl rfl (st (wnil (xl ?_))))
          replace hS:=hS.drop Rm.z
          exact ⟨_,_,rfl,(aK50 (aK20 (aO5 (aI aZ)))),_,false,rfl,h,Le.r,hS⟩
        ·rintro _ t w16 ⟨μ8,b382,rfl,h,le384,hS⟩
         unfold law_owners_j2 at h
         refine nrm (mK50 (mK20 (mO5 (mi mz)))) (xn ?_)
         refine cifb (et (k70 d5)) (fun h385=>?_) (fun h385=>?_)
         ·replace h:=iT h385 h
          refine nz (st (nw (cret ((fun h=>br (xr (xr (br (xr (br (xr (xr (br (xr h)))))))))) ?_))))
          obtain rfl:=oI h
          refine ret1 rfl d2 ?_
          exact ⟨_,rfl,(le6.t (le10.t (le261.t (le292.t (le313.t (le361.t (le373.t le384))))))),hS⟩
         ·replace h:=iF h385 h
          refine cskip ?_
          refine (fun h=>bn (xn h)) ?_
          refine creg ?_
          obtain ⟨i386,g387,h⟩:=bI h
          refine wl (su (u_addc (et (k60 d0)) ec g387) (dt (q70 p6)) (st (wnil (xl ?_))))
          exact ⟨n_2,_,_,rfl,(aK2 (aO1 (aK6 (aO3 (aK20 (aK20 (aK8 (aI (aO10 (aO6 aZ)))))))))),⟨_,i386,rfl,h,(le361.t (le373.t le384)),hS⟩,Nat.lt_succ_self _⟩
       ·replace h:=iF h362 h
        refine cexit ?_
        refine (fun h=>xe (xe (bh h))) ?_
        refine xn (creg (st ?_))
        obtain ⟨i388,g389,h⟩:=bI h
        refine wl (su (u_addc (et (k70 d7)) ec g389) (dt (q70 p8)) (st (wnil ?_)))
        refine (fun h=>bn (xn h)) ?_
        refine creg ?_
        obtain ⟨i390,g391,h⟩:=bI h
        refine wl (su (u_addc (et (k20 d7)) ec g391) (dt (q70 p9)) (st (wnil (xl ?_))))
        exact ⟨n_1,_,_,rfl,(aK2 (aO1 (aK2 (aI (aK1 (aO1 (aK1 (aO3 (aK10 (aK5 (aI (aO50 (aO2 aZ))))))))))))),⟨_,i388,i390,rfl,h,(le261.t (le292.t (le313.t le361))),hS⟩,Nat.lt_succ_self _⟩
   ·replace h:=iF h262 h
    refine cexit ?_
    refine (fun h=>xe (xe (bh h))) ?_
    refine xn (nz ?_)
    iterate 2 refine st ?_
    refine wl (su (u_lensl underlying24 (et (k80 d1))) (dt (q80 p2)) ?_)
    iterate 2 refine st ?_
    refine nw (cret ?_)
    obtain rfl:=oI h
    refine ret1 rfl d2 ?_
    exact ⟨_,rfl,(le6.t (le10.t le261)),hS⟩
end Go.Proofs.YtjbiabapnphheaaGreatDoor
