/- Texts of GraphTells Wl. -/
import Derived.Test.YteiemedhecjgiaaCXu
import Derived.Test.YteiemedhecjgiaaCPl
import Derived.Test.YteiemedhecjgiaaCWa
import Derived.Test.YteiemedhecjgiaaCFl
set_option linter.unusedSimpArgs false
set_option linter.unusedVariables false
set_option linter.unusedSectionVars false
set_option maxRecDepth 100000
set_option maxHeartbeats 20000000
namespace Go.Proofs.Yteiemedhecjgiaa
open Go.Wk Go.Xt Go.Y Try
def r2_bexpr_S (q:TExpr→Option TExpr):Prop:=∀ {μ0:M} {w0 w:World} {rsF:List Res} (hg:Le Gm μ0) {p_1:TExpr} {a1:Option Addr} {c2:Nat} {r:TExpr} (m3:Sl μ0 a1 c2 p_1.Kids) (h:q p_1=some r) (hS:Sq μ0 w0 w (rsF)),CallsV prog 68 [.agg ⟨[.int .i64 p_1.Kind,.int .i64 p_1.N,S p_1.Name,.slice a1 p_1.Kids.length c2]⟩] w (fun v w'=>∃ (μ':M) (a4:Option Addr) (c5:Nat),v=.agg ⟨[.int .i64 r.Kind,.int .i64 r.N,S r.Name,.slice a4 r.Kids.length c5]⟩∧Le μ0 μ'∧Sq μ' w0 w' (rsF)∧Sl μ' a4 c5 r.Kids)
structure BareESound (sf:BareE):Prop where
  r2_bexpr:r2_bexpr_S sf.r2_bexpr
theorem r2_bexpr_w {self:BareE} (IH:BareESound self):r2_bexpr_S (r2_bexpr self):=by
 intro μ0 w0 w rsF hg p_1 a1 c2 r m3 h hS
 unfold r2_bexpr at h
 refine enter func68 rfl (frm:=_::u1 (u5 (u50 []))) rfl (nz ?_)
 refine wl (s_box (et d0) rfl hS ?_); clear hS; intro b7 w1 hb8 hS; refine po ?_
 refine wl (s_alloc ti119 hS ?_); clear hS; intro b9 w2 hb10 hS; refine po ?_
 refine nx (st (ld ((hS.blk d1).cell d0) (wl (s_build ti119 pl119 (Fl.o rfl (et d7) rfl rfl p0 Fl.z) (dt p8) ?_))))
 refine wl (s_alloc ti119 hS ?_); clear hS; intro b11 w3 hb12 hS; refine po ?_
 refine wl (s_storeA ti119 (et d3) (et d8) rfl rfl hS d0 rfl p0 dn ?_)
 clear hS; intro w4 hS
 refine ny (cseq ?_)
 refine ccutE (rg 9 7) (by decide) (fun m w=>∃ μx b13,m=(yK9 (yO7 9 (.i (.bool b13)::[])))∧r2_bexpr_j1 self p_1 b13=some r∧Le μ0 μx∧Sq μx w0 w (.blk b7 119 [.int .i64 p_1.Kind,.int .i64 p_1.N,S p_1.Name,.slice a1 p_1.Kids.length c2]::.blk b9 119 [.int .i64 0,.int .i64 0,S [],.slice none 0 0]::.blk b11 119 [.int .i64 p_1.Kind,.int .i64 0,S [],.slice none 0 0]::rsF)) (by rintro _ _ ⟨_,_,rfl,_⟩; rfl) ?_ ?_
 refine creg (st (ld ((hS.blk d2).cell d0) ?_))
 iterate 2 refine st ?_
 refine zWd 12 h ?_ ?_
 intro h14 h
 refine sn rfl rfl (sn rfl rfl (sn rfl rfl (st (wnil (xl ?_)))))
 replace hS:=(hS.bg Y1).bg Y2
 exact ⟨_,_,rfl,(aK9 (aO7 (aI aZ))),_,true,rfl,h,Le.r,hS⟩
 intro h14 h
 refine sy rfl (wy rfl (k10 d2) (s_load ti3 (et (k10 d3)) ((hS.blk d2).cell d0) (dt (q10 p4)) (sy rfl (st (wnil (xl ?_))))))
 replace hS:=(hS.bg Y1).bg Y2
 exact ⟨_,_,rfl,(aK9 (aO7 (aI aZ))),_,(decide (p_1.Kind=2)),rfl,h,Le.r,hS⟩
 rintro _ t w5 ⟨μ1,b13,rfl,h,le15,hS⟩
 unfold r2_bexpr_j1 at h
 refine nrm (mK9 (mO7 (mi mz))) (xn ?_)
 refine ccutE (rg 17 3) (by decide) (fun m w=>∃ μx i16,m=(yK10 (yK7 (yO3 17 [])))∧r2_bexpr_j2 self p_1 i16=some r∧Le μ1 μx∧Sq μx w0 w (.blk b7 119 [.int .i64 p_1.Kind,.int .i64 p_1.N,S p_1.Name,.slice a1 p_1.Kids.length c2]::.blk b9 119 [.int .i64 0,.int .i64 0,S [],.slice none 0 0]::.blk b11 119 [.int .i64 p_1.Kind,.int .i64 i16,S [],.slice none 0 0]::rsF)) (by rintro _ _ ⟨_,_,rfl,_⟩; rfl) ?_ ?_
 refine zCb h ?_ ?_
 intro h17 h
 refine creg (st (ld ((hS.blk d0).cell d1) (st (wl (s_store1 ti2 (et (k10 d9)) (et (k10 d8)) rfl hS d2 p1 rfl p2 dn ?_)))))
 clear hS; intro w6 hS
 refine wnil (xl ?_)
 exact ⟨_,_,rfl,(aK10 (aK7 (aO3 aZ))),_,p_1.N,rfl,h,Le.r,hS⟩
 intro h17 h
 refine cskip (xl ?_)
 exact ⟨_,_,rfl,(aK10 (aK7 (aO3 aZ))),_,0,rfl,h,Le.r,hS⟩
 rintro _ t w7 ⟨μ2,i16,rfl,h,le18,hS⟩
 unfold r2_bexpr_j2 at h
 refine nrm (mK10 (mK7 (mO3 mz))) (xn (cseq (cseq ?_)))
 refine ccutE (rg 20 17) (by decide) (fun m w=>∃ μx b19,m=(yK20 (yO10 20 (yO7 30 (.i (.bool b19)::[]))))∧r2_bexpr_j3 self p_1 i16 b19=some r∧Le μ2 μx∧Sq μx w0 w (.blk b7 119 [.int .i64 p_1.Kind,.int .i64 p_1.N,S p_1.Name,.slice a1 p_1.Kids.length c2]::.blk b9 119 [.int .i64 0,.int .i64 0,S [],.slice none 0 0]::.blk b11 119 [.int .i64 p_1.Kind,.int .i64 i16,S [],.slice none 0 0]::rsF)) (by rintro _ _ ⟨_,_,rfl,_⟩; rfl) ?_ ?_
 refine creg (st (ld ((hS.blk d0).cell d0) ?_))
 iterate 2 refine st ?_
 refine zWd 23 h ?_ ?_
 intro h20 h
 refine sn rfl rfl (sn rfl rfl (sn rfl rfl ?_))
 iterate 2 refine st ?_
 refine sn rfl rfl (sn rfl rfl (sn rfl rfl ?_))
 iterate 2 refine st ?_
 refine sn rfl rfl (sn rfl rfl (sn rfl rfl (st (wnil (xl ?_)))))
 exact ⟨_,_,rfl,(aK20 (aO10 (aO7 (aI aZ)))),_,true,rfl,h,Le.r,hS⟩
 intro h20 h
 refine sy rfl (wy rfl (k20 d3) (s_load ti3 (et (k20 d4)) ((hS.blk d0).cell d0) (dt (q20 p5)) (sy rfl ?_)))
 iterate 2 refine st ?_
 refine zWd 28 h ?_ ?_
 intro h21 h
 refine sn rfl rfl (sn rfl rfl (sn rfl rfl ?_))
 iterate 2 refine st ?_
 refine sn rfl rfl (sn rfl rfl (sn rfl rfl (st (wnil (xl ?_)))))
 exact ⟨_,_,rfl,(aK20 (aO10 (aO7 (aI aZ)))),_,true,rfl,h,Le.r,hS⟩
 intro h21 h
 refine sy rfl (wy rfl (k20 d8) (s_load ti3 (et (k20 d9)) ((hS.blk d0).cell d0) (dt (q30 p0)) (sy rfl ?_)))
 iterate 2 refine st ?_
 refine zWd 33 h ?_ ?_
 intro h22 h
 refine sn rfl rfl (sn rfl rfl (sn rfl rfl (st (wnil (xl ?_)))))
 exact ⟨_,_,rfl,(aK20 (aO10 (aO7 (aI aZ)))),_,true,rfl,h,Le.r,hS⟩
 intro h22 h
 refine sy rfl (wy rfl (k30 d3) (s_load ti3 (et (k30 d4)) ((hS.blk d0).cell d0) (dt (q30 p5)) (sy rfl (st (wnil (xl ?_))))))
 exact ⟨_,_,rfl,(aK20 (aO10 (aO7 (aI aZ)))),_,(decide (p_1.Kind=22)),rfl,h,Le.r,hS⟩
 rintro _ t w8 ⟨μ3,b19,rfl,h,le23,hS⟩
 unfold r2_bexpr_j3 at h
 refine nrm (mK20 (mO10 (mO7 (mi mz)))) (xn ?_)
 refine ccutE (rg 38 3) (by decide) (fun m w=>∃ μx s24,m=(yK20 (yK10 (yK8 (yO3 38 []))))∧r2_bexpr_j4 self p_1 i16 s24=some r∧Le μ3 μx∧Sq μx w0 w (.blk b7 119 [.int .i64 p_1.Kind,.int .i64 p_1.N,S p_1.Name,.slice a1 p_1.Kids.length c2]::.blk b9 119 [.int .i64 0,.int .i64 0,S [],.slice none 0 0]::.blk b11 119 [.int .i64 p_1.Kind,.int .i64 i16,S s24,.slice none 0 0]::rsF)) (by rintro _ _ ⟨_,_,rfl,_⟩; rfl) ?_ ?_
 refine zCb h ?_ ?_
 intro h25 h
 refine creg (st (ld ((hS.blk d0).cell d2) (st (wl (s_store1 ti9 (et (k40 d0)) (et (k30 d9)) rfl hS d2 p2 rfl p2 dn ?_)))))
 clear hS; intro w9 hS
 refine wnil (xl ?_)
 exact ⟨_,_,rfl,(aK20 (aK10 (aK8 (aO3 aZ)))),_,p_1.Name,rfl,h,Le.r,hS⟩
 intro h25 h
 refine cskip (xl ?_)
 exact ⟨_,_,rfl,(aK20 (aK10 (aK8 (aO3 aZ)))),_,[],rfl,h,Le.r,hS⟩
 rintro _ t w10 ⟨μ4,s24,rfl,h,le26,hS⟩
 unfold r2_bexpr_j4 at h
 refine nrm (mK20 (mK10 (mK8 (mO3 mz)))) (xn (cseq (nz (st (ld ((hS.blk d0).cell d3) (wl (su (u_lensl underlying117 (et (k40 d2))) (dt (q40 p3)) (st (nw (cblock ?_))))))))))
 replace hS:=hS.nilRow 119 (Mo.sz TExpr)
 replace hS:=((hS.drop (Rm.s Rm.z)).bg Y2).bg Y2
 refine cloopE ([5]++rg 45 11) (by decide) (fun n m w=>∃ μx i56 l59 v57 cs58,m=(yK5 (yO1 5 (yK20 (yK10 (yK8 (.i (.int .i64 i56)::(yO10 45 (yO1 55 []))))))))∧r2_bexpr_l1 self p_1 i16 s24 n i56 l59=some r∧Le μ4 μx∧Sq μx w0 w (.blk b9 119 [.int .i64 0,.int .i64 0,S [],.slice none 0 0]::.blk b11 119 [.int .i64 p_1.Kind,.int .i64 i16,S s24,v57]::.row v57 119 4 l59.length cs58::rsF)∧Rw μx cs58 l59) (by rintro _ _ _ ⟨_,_,_,_,_,rfl,_⟩; rfl) _ _ (aK5 (aO1 (aK20 (aK10 (aK8 (aI (aO10 (aO1 aZ)))))))) ⟨_,0,[],(.slice none 0 0),[],rfl,h,Le.r,hS,Rw.nil⟩ ?_
 rintro n_1 _ t w11 ⟨μ5,i56,l59,v57,cs58,rfl,h,le89,hS,m90⟩
 rcases n_1 with _|n_1
 cases h
 unfold r2_bexpr_l1 at h
 refine cnrm (mK5 (mO1 (mK20 (mK10 (mK8 (mi (mO10 (mO1 mz)))))))) (nz (st (ny ?_)))
 refine zCd h ?_ ?_
 intro h91 h
 refine cskip (xn (cseq (cblock (nz ?_))))
 obtain ⟨x92,g93,h⟩:=bI h
 obtain ⟨b94,o95,cs96,e97,f98,m99⟩:=SlR.elem (m3.up (le15.t (le18.t (le23.t (le26.t le89))))) g93
 obtain ⟨a100,c101,rfl,m102⟩:=TExpr.o m99
 refine wl (su (u_iax underlying117 ti119 (et (k40 d2)) (et (k40 d4)) e97) (dt (q40 p6)) (lds (f98 _ hS.a) rfl ?_))
 refine wl (s_alloc ti119 hS ?_); clear hS; intro b103 w12 hb104 hS; refine po ?_
 refine wl (s_storeA ti119 (et d5) (et (k40 d7)) rfl rfl hS d0 rfl p0 dn ?_)
 clear hS; intro w13 hS
 refine nw ?_
 refine ccutE (rg 48 7) (by decide) (fun m w=>∃ μx l107 v105 cs106,m=(yK20 (yK20 (yK8 (yO7 48 []))))∧r2_bexpr_j5 i56 (r2_bexpr_l1 self p_1 i16 s24 n_1) l107=some r∧Le μ5 μx∧Sq μx w0 w (.blk b9 119 [.int .i64 0,.int .i64 0,S [],.slice none 0 0]::.blk b11 119 [.int .i64 p_1.Kind,.int .i64 i16,S s24,v105]::.row v105 119 4 l107.length cs106::rsF)∧Rw μx cs106 l107) (by rintro _ _ ⟨_,_,_,_,rfl,_⟩; rfl) ?_ ?_
 refine cdw hS ?_; clear hS; intro w14 hS
 refine sf_start (fpi 0 [0,1,5,6,7] rfl (fr_ 1 [1,5,6,7] rfl (u_load ti117 (et (k40 d8)) ((hS.blk d2).cell d3)) (q40 p9) (fr_ 2 [2,3,4,5,6,7] rfl (u_loads ti119 (et d5) (hS.blk d0).cells rfl) (q50 p0) ?_)))
 obtain ⟨r109,g110,h⟩:=bI h
 refine sf1 rfl rfl rfl rfl (wn0 rfl) (s_callv isfn68 ef (e1 (et (k50 d0)) e0) (IH.r2_bexpr (hg.t (le15.t (le18.t (le23.t (le26.t le89))))) m102 g110 hS) ?_)
 rintro _ w15 ⟨μ6,a112,c113,rfl,le111,hS,m114⟩
 refine po ?_
 refine ⟨(Mons.s (u_load ti117 (et (k40 d8)) ((hS.blk d2).cell d3)) Mons.z),?_⟩
 refine sf1 rfl rfl rfl rfl (wn0 rfl) (s_bsl1 underlying117 ti119 rfl (et (k50 d1)) rfl hS ?_); clear hS; intro b115 w16 hb116 hS; refine po ?_
 refine ⟨(Mons.s (u_load ti117 (et (k40 d8)) ((hS.blk d3).cell d3)) Mons.z),?_⟩
 obtain ⟨l119,g120,h⟩:=bI h
 have m121:Rw μ6 [.int .i64 r109.Kind,.int .i64 r109.N,S r109.Name,.slice a112 r109.Kids.length c113] [r109]:=(Rw.one (α:=TExpr) (TExpr.i ⟨a112,c113,rfl,m114⟩))
 have m118:=Rw.appN (m90.up le111) m121 g120
 refine sf1 rfl rfl rfl rfl (wn0 rfl) (s_app1N underlying117 ti119 rfl (et (k40 d9)) (et (k50 d2)) hS d4 (hS.blk d0).cells m121 rfl g120 (by decide) ?_); clear hS; intro v117 w17 rs_ hp_ hS; cases (show _=rs_ from hp_)
 replace hS:=Sep.reput hS p4; refine po ?_
 replace hS:=hS.drop Rm.z
 refine ⟨Mons.z,?_⟩
 refine fpi 6 [6,7] rfl (sf1 rfl rfl rfl rfl (wn0 rfl) (s_store1 ti117 (et (k50 d4)) (et (k50 d3)) (hS.get d3).cellV hS d2 p3 rfl p2 dn ?_))
 clear hS; intro w18 hS
 refine ⟨Mons.z,?_⟩
 refine sf_nil (xl ?_)
 replace hS:=hS.drop Rm.z
 exact ⟨_,_,rfl,(aK20 (aK20 (aK8 (aO7 aZ)))),_,_,_,(cs58++[.int .i64 r109.Kind,.int .i64 r109.N,S r109.Name,.slice a112 r109.Kids.length c113]),rfl,h,le111,hS,m118⟩
 rintro _ t w19 ⟨μ7,l107,v105,cs106,rfl,h,le122,hS,m123⟩
 unfold r2_bexpr_j5 at h
 refine nrm (mK20 (mK20 (mK8 (mO7 mz)))) ?_
 refine (fun h=>bn (xn h)) ?_
 refine creg ?_
 obtain ⟨i124,g125,h⟩:=bI h
 refine wl (su (u_addc (et (k40 d4)) ec g125) (dt (q50 p5)) (st (wnil (xl ?_))))
 exact ⟨n_1,_,_,rfl,(aK5 (aO1 (aK20 (aK10 (aK8 (aI (aO10 (aO1 aZ)))))))),⟨_,i124,l107,v105,cs106,rfl,h,(le89.t le122),hS,m123⟩,Nat.lt_succ_self _⟩
 intro h91 h
 refine cexit ?_
 refine (fun h=>xe (xe (bh h))) ?_
 refine xn (nz (lds (hS.blk d1).cells rfl (wl (s_storeA ti119 (et d2) (et (k50 d6)) rfl (cv_s rfl (cv_s rfl (cv_s rfl (cv_s ((hS.get d2).cellV) cv_z)))) hS d0 rfl p0 dn ?_))))
 clear hS; intro w20 hS
 refine nw (cret ?_)
 replace hS:=hS.bg Y2
 obtain ⟨μ8,a126,c127,e130,le129,m128,hq_⟩:=Sep.frzRow hS m90 rfl; clear hS
 subst e130; have hS:=hq_; clear hq_
 obtain rfl:=oI h
 refine retN rfl (RVs.s (.a d2 ti119 (hS.blk d0).cells rfl) RVs.z) ?_
 replace hS:=(hS.drop Rm.z).drop Rm.z
 exact ⟨_,_,_,rfl,(le15.t (le18.t (le23.t (le26.t (le89.t le129))))),hS,m128⟩
theorem BareE_sound:∀ n,BareESound (BareE_run n)
  | 0=>⟨(by intro; intros; rename_i h _; cases h)⟩
  | n+1=>⟨r2_bexpr_w (BareE_sound n)⟩
def r2_bstats_S (q:(List TStat)→Option (List TStat)):Prop:=∀ {μ0:M} {w0 w:World} {rsF:List Res} (hg:Le Gm μ0) {p_1:List TStat} {a1:Option Addr} {c2:Nat} {r:List TStat} (m3:Sl μ0 a1 c2 p_1) (h:q p_1=some r) (hS:Sq μ0 w0 w (rsF)),CallsV prog 45 [.slice a1 p_1.length c2] w (fun v w'=>∃ (μ':M) (a4:Option Addr) (c5:Nat),v=.slice a4 r.length c5∧Le μ0 μ'∧Sq μ' w0 w' (rsF)∧Sl μ' a4 c5 r)
structure BareSSound (sf:BareS):Prop where
  r2_bstats:r2_bstats_S sf.r2_bstats
theorem r2_bstats_w {fu:Nat} {self:BareS} (IH:BareSSound self):r2_bstats_S (r2_bstats fu self):=by
 intro μ0 w0 w rsF hg p_1 a1 c2 r m3 h hS
 unfold r2_bstats at h
 refine enter func45 rfl (frm:=_::u1 (u2 (u10 (u50 [])))) rfl (nz (st (nx (st (ny (nz (st (wl (su (u_lensl underlying57 (et d7)) (dt p8) (st (nw (cblock ?_))))))))))))
 replace hS:=hS.nilRow 121 (Mo.sz TStat)
 refine cloopE (rg 5 2++rg 10 53) (by decide +kernel) (fun n m w=>∃ μx i77 l80 v78 cs79,m=(yK3 (.i (v78)::(yK1 (yO2 5 (yK2 (.i (.int .i64 i77)::(yO50 10 (yO3 60 []))))))))∧r2_bstats_l1 fu self p_1 n i77 l80=some r∧Le μ0 μx∧Sq μx w0 w (.row v78 121 8 l80.length cs79::rsF)∧Rw μx cs79 l80) (by rintro _ _ _ ⟨_,_,_,_,_,rfl,_⟩; rfl) _ _ (aK3 (aI (aK1 (aO2 (aK2 (aI (aO50 (aO3 aZ)))))))) ⟨_,0,[],(.slice none 0 0),[],rfl,h,Le.r,hS,Rw.nil⟩ ?_
 rintro n_1 _ t w1 ⟨μ1,i77,l80,v78,cs79,rfl,h,le151,hS,m152⟩
 rcases n_1 with _|n_1
 cases h
 unfold r2_bstats_l1 at h
 refine cnrm (mK3 (mi (mK1 (mO2 (mK2 (mi (mO50 (mO3 mz)))))))) (nz (st (ny ?_)))
 refine zCd h ?_ ?_
 intro h153 h
 refine cskip (xn (cseq (cblock (nz ?_))))
 obtain ⟨x154,g155,h⟩:=bI h
 obtain ⟨b156,o157,cs158,e159,f160,m161⟩:=SlR.elem (m3.up le151) g155
 obtain ⟨a162,c163,a165,c166,a168,c169,rfl,m164,m167,m170⟩:=TStat.o m161
 refine wl (su (u_iax underlying57 ti121 (et d7) (et d9) e159) (dt (q10 p1)) (lds (f160 _ hS.a) rfl ?_))
 refine wl (s_alloc ti121 hS ?_); clear hS; intro b171 w2 hb172 hS; refine po ?_
 refine wl (s_storeA ti121 (et d5) (et (k10 d2)) rfl rfl hS d0 rfl p0 dn ?_)
 clear hS; intro w3 hS
 refine nx (st (ld ((hS.blk d0).cell d0) (wl (s_build ti121 pl121 (Fl.o rfl (et (k10 d4)) rfl rfl p0 Fl.z) (dt (q10 p5)) ?_))))
 refine wl (s_alloc ti121 hS ?_); clear hS; intro b173 w4 hb174 hS; refine po ?_
 refine wl (s_storeA ti121 (et d6) (et (k10 d5)) rfl rfl hS d0 rfl p0 dn ?_)
 clear hS; intro w5 hS
 refine ny (cseq ?_)
 refine ccutE (rg 16 12) (by decide) (fun m w=>∃ μx b175,m=(yK10 (yK6 (yO10 16 (yO2 26 (.i (.bool b175)::[])))))∧r2_bstats_j1 fu self i77 l80 x154 (r2_bstats_l1 fu self p_1 n_1) b175=some r∧Le μ1 μx∧Sq μx w0 w (.row v78 121 8 l80.length cs79::.blk b171 121 [.int .i64 x154.Kind,S x154.Name,.int .i64 x154.X.Kind,.int .i64 x154.X.N,S x154.X.Name,.slice a162 x154.X.Kids.length c163,.slice a165 x154.Body.length c166,.slice a168 x154.Else.length c169]::.blk b173 121 [.int .i64 x154.Kind,S [],.int .i64 0,.int .i64 0,S [],.slice none 0 0,.slice none 0 0,.slice none 0 0]::rsF)) (by rintro _ _ ⟨_,_,rfl,_⟩; rfl) ?_ ?_
 refine creg (st (ld ((hS.blk d1).cell d0) ?_))
 iterate 2 refine st ?_
 refine zWd 19 h ?_ ?_
 intro h176 h
 refine sn rfl rfl (sn rfl rfl (sn rfl rfl ?_))
 iterate 2 refine st ?_
 refine sn rfl rfl (sn rfl rfl (sn rfl rfl (st (wnil (xl ?_)))))
 replace hS:=(hS.bg Y1).bg Y2
 exact ⟨_,_,rfl,(aK10 (aK6 (aO10 (aO2 (aI aZ))))),_,true,rfl,h,Le.r,hS⟩
 intro h176 h
 refine sy rfl (wy rfl (k10 d9) (s_load ti3 (et (k20 d0)) ((hS.blk d1).cell d0) (dt (q20 p1)) (sy rfl ?_)))
 iterate 2 refine st ?_
 refine zWd 24 h ?_ ?_
 intro h177 h
 refine sn rfl rfl (sn rfl rfl (sn rfl rfl (st (wnil (xl ?_)))))
 replace hS:=(hS.bg Y1).bg Y2
 exact ⟨_,_,rfl,(aK10 (aK6 (aO10 (aO2 (aI aZ))))),_,true,rfl,h,Le.r,hS⟩
 intro h177 h
 refine sy rfl (wy rfl (k20 d4) (s_load ti3 (et (k20 d5)) ((hS.blk d1).cell d0) (dt (q20 p6)) (sy rfl (st (wnil (xl ?_))))))
 replace hS:=(hS.bg Y1).bg Y2
 exact ⟨_,_,rfl,(aK10 (aK6 (aO10 (aO2 (aI aZ))))),_,(decide (x154.Kind=7)),rfl,h,Le.r,hS⟩
 rintro _ t w6 ⟨μ2,b175,rfl,h,le178,hS⟩
 unfold r2_bstats_j1 at h
 refine nrm (mK10 (mK6 (mO10 (mO2 (mi mz))))) (xn ?_)
 refine ccutE (rg 29 3) (by decide) (fun m w=>∃ μx s179,m=(yK20 (yK9 (yO3 29 [])))∧r2_bstats_j2 fu self i77 l80 x154 (r2_bstats_l1 fu self p_1 n_1) s179=some r∧Le μ2 μx∧Sq μx w0 w (.row v78 121 8 l80.length cs79::.blk b171 121 [.int .i64 x154.Kind,S x154.Name,.int .i64 x154.X.Kind,.int .i64 x154.X.N,S x154.X.Name,.slice a162 x154.X.Kids.length c163,.slice a165 x154.Body.length c166,.slice a168 x154.Else.length c169]::.blk b173 121 [.int .i64 x154.Kind,S s179,.int .i64 0,.int .i64 0,S [],.slice none 0 0,.slice none 0 0,.slice none 0 0]::rsF)) (by rintro _ _ ⟨_,_,rfl,_⟩; rfl) ?_ ?_
 refine zCb h ?_ ?_
 intro h180 h
 refine creg (st (ld ((hS.blk d1).cell d1) (st (wl (s_store1 ti9 (et (k30 d1)) (et (k30 d0)) rfl hS d2 p1 rfl p2 dn ?_)))))
 clear hS; intro w7 hS
 refine wnil (xl ?_)
 exact ⟨_,_,rfl,(aK20 (aK9 (aO3 aZ))),_,x154.Name,rfl,h,Le.r,hS⟩
 intro h180 h
 refine cskip (xl ?_)
 exact ⟨_,_,rfl,(aK20 (aK9 (aO3 aZ))),_,[],rfl,h,Le.r,hS⟩
 rintro _ t w8 ⟨μ3,s179,rfl,h,le181,hS⟩
 unfold r2_bstats_j2 at h
 refine nrm (mK20 (mK9 (mO3 mz))) (xn (cseq (nz (st (ld ((hS.blk d1).cell d0) (st (nw ?_)))))))
 refine ccutE (rg 35 4) (by decide) (fun m w=>∃ μx i182 i183 s184 l187 a185 c186,m=(yK20 (yK10 (yK5 (yO4 35 []))))∧r2_bstats_j3 self i77 l80 x154 s179 (r2_bstats_l1 fu self p_1 n_1) i182 i183 s184 l187=some r∧Le μ3 μx∧Sq μx w0 w (.row v78 121 8 l80.length cs79::.blk b171 121 [.int .i64 x154.Kind,S x154.Name,.int .i64 x154.X.Kind,.int .i64 x154.X.N,S x154.X.Name,.slice a162 x154.X.Kids.length c163,.slice a165 x154.Body.length c166,.slice a168 x154.Else.length c169]::.blk b173 121 [.int .i64 x154.Kind,S s179,.int .i64 i182,.int .i64 i183,S s184,.slice a185 l187.length c186,.slice none 0 0,.slice none 0 0]::rsF)∧Sl μx a185 c186 l187) (by rintro _ _ ⟨_,_,_,_,_,_,_,rfl,_⟩; rfl) ?_ ?_
 refine zCd h ?_ ?_
 intro h189 h
 refine creg (st (lds ((hS.blk d1).cellsAt (Sb.s d2 (Sb.s d3 (Sb.s d4 (Sb.s d5 Sb.z))))) rfl ?_))
 obtain ⟨r190,g191,h⟩:=bI h
 refine ca ((BareE_sound fu).r2_bexpr (hg.t (le151.t (le178.t le181))) (m164.up (le178.t le181)) g191 hS) ?_
 rintro _ w9 ⟨μ4,a193,c194,rfl,le192,hS,m195⟩
 refine po (st (wl (s_store ti119 (et (k30 d8)) (et (k30 d7)) rfl rfl rfl hS d2 (Spl.s p2 (of_decide_eq_true rfl) (Spl.s p3 (of_decide_eq_true rfl) (Spl.s p4 (of_decide_eq_true rfl) (Spl.s p5 (of_decide_eq_true rfl) Spl.z)))) rfl p2 dn ?_)))
 clear hS; intro w10 hS
 refine wnil (xl ?_)
 exact ⟨_,_,rfl,(aK20 (aK10 (aK5 (aO4 aZ)))),_,r190.Kind,r190.N,r190.Name,r190.Kids,_,_,rfl,h,le192,hS,m195⟩
 intro h189 h
 refine cskip (xl ?_)
 exact ⟨_,_,rfl,(aK20 (aK10 (aK5 (aO4 aZ)))),_,0,0,[],[],none,0,rfl,h,Le.r,hS,Sl.nil⟩
 rintro _ t w11 ⟨μ5,i182,i183,s184,l187,a185,c186,rfl,h,le196,hS,m197⟩
 unfold r2_bstats_j3 at h
 refine nrm (mK20 (mK10 (mK5 (mO4 mz)))) (xn (cseq (cseq ?_)))
 refine ccutE (rg 39 7) (by decide) (fun m w=>∃ μx b198,m=(yK20 (yK10 (yK9 (yO7 39 (.i (.bool b198)::[])))))∧r2_bstats_j4 self i77 l80 x154 s179 i182 i183 s184 l187 (r2_bstats_l1 fu self p_1 n_1) b198=some r∧Le μ5 μx∧Sq μx w0 w (.row v78 121 8 l80.length cs79::.blk b171 121 [.int .i64 x154.Kind,S x154.Name,.int .i64 x154.X.Kind,.int .i64 x154.X.N,S x154.X.Name,.slice a162 x154.X.Kids.length c163,.slice a165 x154.Body.length c166,.slice a168 x154.Else.length c169]::.blk b173 121 [.int .i64 x154.Kind,S s179,.int .i64 i182,.int .i64 i183,S s184,.slice a185 l187.length c186,.slice none 0 0,.slice none 0 0]::rsF)) (by rintro _ _ ⟨_,_,rfl,_⟩; rfl) ?_ ?_
 refine creg (st (ld ((hS.blk d1).cell d0) ?_))
 iterate 2 refine st ?_
 refine zWd 42 h ?_ ?_
 intro h199 h
 refine sn rfl rfl (sn rfl rfl (sn rfl rfl (st (wnil (xl ?_)))))
 exact ⟨_,_,rfl,(aK20 (aK10 (aK9 (aO7 (aI aZ))))),_,true,rfl,h,Le.r,hS⟩
 intro h199 h
 refine sy rfl (wy rfl (k40 d2) (s_load ti3 (et (k40 d3)) ((hS.blk d1).cell d0) (dt (q40 p4)) (sy rfl (st (wnil (xl ?_))))))
 exact ⟨_,_,rfl,(aK20 (aK10 (aK9 (aO7 (aI aZ))))),_,(decide (x154.Kind=4)),rfl,h,Le.r,hS⟩
 rintro _ t w12 ⟨μ6,b198,rfl,h,le200,hS⟩
 unfold r2_bstats_j4 at h
 refine nrm (mK20 (mK10 (mK9 (mO7 (mi mz))))) (xn ?_)
 refine ccutE (rg 47 4) (by decide) (fun m w=>∃ μx l203 a201 c202,m=(yK20 (yK20 (yK7 (yO4 47 []))))∧r2_bstats_j5 self i77 l80 x154 s179 i182 i183 s184 l187 (r2_bstats_l1 fu self p_1 n_1) l203=some r∧Le μ6 μx∧Sq μx w0 w (.row v78 121 8 l80.length cs79::.blk b171 121 [.int .i64 x154.Kind,S x154.Name,.int .i64 x154.X.Kind,.int .i64 x154.X.N,S x154.X.Name,.slice a162 x154.X.Kids.length c163,.slice a165 x154.Body.length c166,.slice a168 x154.Else.length c169]::.blk b173 121 [.int .i64 x154.Kind,S s179,.int .i64 i182,.int .i64 i183,S s184,.slice a185 l187.length c186,.slice a201 l203.length c202,.slice none 0 0]::rsF)∧Sl μx a201 c202 l203) (by rintro _ _ ⟨_,_,_,_,rfl,_⟩; rfl) ?_ ?_
 refine zCb h ?_ ?_
 intro h205 h
 refine creg (st (ld ((hS.blk d1).cell d6) ?_))
 obtain ⟨r206,g207,h⟩:=bI h
 refine ca (IH.r2_bstats (hg.t (le151.t (le178.t (le181.t (le196.t le200))))) (m167.up (le178.t (le181.t (le196.t le200)))) g207 hS) ?_
 rintro _ w13 ⟨μ7,a209,c210,rfl,le208,hS,m211⟩
 refine po (st (wl (s_store1 ti57 (et (k50 d0)) (et (k40 d9)) rfl hS d2 p6 rfl p2 dn ?_)))
 clear hS; intro w14 hS
 refine wnil (xl ?_)
 exact ⟨_,_,rfl,(aK20 (aK20 (aK7 (aO4 aZ)))),_,_,_,_,rfl,h,le208,hS,m211⟩
 intro h205 h
 refine cskip (xl ?_)
 exact ⟨_,_,rfl,(aK20 (aK20 (aK7 (aO4 aZ)))),_,[],none,0,rfl,h,Le.r,hS,Sl.nil⟩
 rintro _ t w15 ⟨μ8,l203,a201,c202,rfl,h,le212,hS,m213⟩
 unfold r2_bstats_j5 at h
 refine nrm (mK20 (mK20 (mK7 (mO4 mz)))) (xn (cseq (nz (st (ld ((hS.blk d1).cell d0) (st (nw ?_)))))))
 refine ccutE (rg 54 4) (by decide) (fun m w=>∃ μx l216 a214 c215,m=(yK50 (yK4 (yO4 54 [])))∧r2_bstats_j6 i77 l80 x154 s179 i182 i183 s184 l187 l203 (r2_bstats_l1 fu self p_1 n_1) l216=some r∧Le μ8 μx∧Sq μx w0 w (.row v78 121 8 l80.length cs79::.blk b173 121 [.int .i64 x154.Kind,S s179,.int .i64 i182,.int .i64 i183,S s184,.slice a185 l187.length c186,.slice a201 l203.length c202,.slice a214 l216.length c215]::rsF)∧Sl μx a214 c215 l216) (by rintro _ _ ⟨_,_,_,_,rfl,_⟩; rfl) ?_ ?_
 refine zCd h ?_ ?_
 intro h218 h
 refine creg (st (ld ((hS.blk d1).cell d7) ?_))
 obtain ⟨r219,g220,h⟩:=bI h
 refine ca (IH.r2_bstats (hg.t (le151.t (le178.t (le181.t (le196.t (le200.t le212)))))) (m170.up (le178.t (le181.t (le196.t (le200.t le212))))) g220 hS) ?_
 rintro _ w16 ⟨μ9,a222,c223,rfl,le221,hS,m224⟩
 refine po (st (wl (s_store1 ti57 (et (k50 d7)) (et (k50 d6)) rfl hS d2 p7 rfl p2 dn ?_)))
 clear hS; intro w17 hS
 refine wnil (xl ?_)
 replace hS:=hS.drop (Rm.s Rm.z)
 exact ⟨_,_,rfl,(aK50 (aK4 (aO4 aZ))),_,_,_,_,rfl,h,le221,hS,m224⟩
 intro h218 h
 refine cskip (xl ?_)
 replace hS:=hS.drop (Rm.s Rm.z)
 exact ⟨_,_,rfl,(aK50 (aK4 (aO4 aZ))),_,[],none,0,rfl,h,Le.r,hS,Sl.nil⟩
 rintro _ t w18 ⟨μ10,l216,a214,c215,rfl,h,le225,hS,m226⟩
 unfold r2_bstats_j6 at h
 refine nrm (mK50 (mK4 (mO4 mz))) (xn (creg (st (lds (hS.blk d1).cells rfl ?_))))
 refine wl (s_bsl1 underlying57 ti121 rfl (et (k50 d9)) rfl hS ?_); clear hS; intro b227 w19 hb228 hS; refine po ?_
 obtain ⟨l231,g232,h⟩:=bI h
 have m233:Rw μ10 [.int .i64 x154.Kind,S s179,.int .i64 i182,.int .i64 i183,S s184,.slice a185 l187.length c186,.slice a201 l203.length c202,.slice a214 l216.length c215] [(TStat.mk x154.Kind s179 (TExpr.mk i182 i183 s184 l187) l203 l216)]:=(Rw.one (α:=TStat) (TStat.i ⟨a185,c186,a201,c202,a214,c215,rfl,(m197.up (le200.t (le212.t le225))),(m213.up le225),m226⟩))
 have m230:=Rw.appN (m152.up (le178.t (le181.t (le196.t (le200.t (le212.t le225)))))) m233 g232
 refine wl (s_app1N underlying57 ti121 rfl (et (k50 d8)) (et (k60 d0)) hS d1 (hS.blk d0).cells m233 rfl g232 (by decide) ?_); clear hS; intro v229 w20 rs_ hp_ hS; cases (show _=rs_ from hp_)
 replace hS:=Sep.reput hS p1; refine po ?_
 replace hS:=hS.drop Rm.z
 refine st (wnil ?_)
 refine (fun h=>bn (xn h)) ?_
 refine creg ?_
 obtain ⟨i234,g235,h⟩:=bI h
 refine wl (su (u_addc (et d9) ec g235) (dt (q60 p2)) (st (wnil (xl ?_))))
 replace hS:=hS.drop (Rm.s Rm.z)
 exact ⟨n_1,_,_,rfl,(aK3 (aI (aK1 (aO2 (aK2 (aI (aO50 (aO3 aZ)))))))),⟨_,i234,l231,v229,(cs79++[.int .i64 x154.Kind,S s179,.int .i64 i182,.int .i64 i183,S s184,.slice a185 l187.length c186,.slice a201 l203.length c202,.slice a214 l216.length c215]),rfl,h,(le151.t (le178.t (le181.t (le196.t (le200.t (le212.t le225)))))),hS,m230⟩,Nat.lt_succ_self _⟩
 intro h153 h
 refine cexit ?_
 refine (fun h=>xe (xe (bh h))) ?_
 refine xn (nz ?_)
 iterate 2 refine st ?_
 refine nw (cret ?_)
 obtain ⟨μ11,a236,c237,e240,le239,m238,hq_⟩:=Sep.frzRow hS m152 rfl; clear hS
 subst e240; have hS:=hq_; clear hq_
 obtain rfl:=oI h
 refine ret1 rfl d2 ?_
 exact ⟨_,_,_,rfl,(le151.t le239),hS,m238⟩
theorem BareS_sound:∀ n,BareSSound (BareS_run n)
  | 0=>⟨(by intro; intros; rename_i h _; cases h)⟩
  | n+1=>⟨r2_bstats_w (BareS_sound n)⟩
end Go.Proofs.Yteiemedhecjgiaa
set_option maxRecDepth 100000
set_option maxHeartbeats 20000000
namespace Go.Proofs.Yteiemedhecjgiaa
open Go.Wk Go.Xt Go.Y Try
variable {b1 c2 c4 c7 fu:Nat} {a1 a3 a6:Option Addr} {μ0:M} {w0 w:World} {rsF:List Res}
theorem r1_class_w (hg:Le Gm μ0) {p_1:UInt8} {r:Int}  (h:r1_class p_1=some r) (hS:Sq μ0 w0 w (rsF)):CallsV prog 80 [.int .u8 (p_1.toNat:Int)] w (fun v w'=>∃ (μ':M) ,v=.int .i64 r∧Le μ0 μ'∧Sq μ' w0 w' (rsF)):=by
 unfold r1_class at h
 refine enter func80 rfl (frm:=_::u2 (u10 (u20 []))) rfl (nz (st (ny (cblock (cseq (cseq ?_))))))
 refine ccutE (rg 4 6) (by decide) (fun m w=>∃ μx b1,m=(yK3 (.i (.bool b1)::(yO6 4 [])))∧r1_class_j1 p_1 b1=some r∧Le μ0 μx∧Sq μx w0 w (rsF)) (by rintro _ _ ⟨_,_,rfl,_⟩; rfl) ?_ ?_
 refine creg ?_
 iterate 3 refine st ?_
 refine zWd 6 h ?_ ?_
 intro h2 h
 refine sy rfl (sy rfl ?_)
 iterate 2 refine st ?_
 refine wnil (xl ?_)
 exact ⟨_,_,rfl,(aK3 (aI (aO6 aZ))),_,(decide ((p_1.toNat:Int)≤122)),rfl,h,Le.r,hS⟩
 intro h2 h
 refine sn rfl rfl (sn rfl rfl ?_)
 iterate 2 refine st ?_
 refine wnil (xl ?_)
 exact ⟨_,_,rfl,(aK3 (aI (aO6 aZ))),_,false,rfl,h,Le.r,hS⟩
 rintro _ t w1 ⟨μ1,b1,rfl,h,le3,hS⟩
 unfold r1_class_j1 at h
 refine nrm (mK3 (mi (mO6 mz))) (xn ?_)
 refine ccutE (rg 10 2) (by decide) (fun m w=>∃ μx b4,m=(yK3 (.i (.bool b4)::(yK6 (yO2 10 []))))∧r1_class_j2 p_1 b4=some r∧Le μ1 μx∧Sq μx w0 w (rsF)) (by rintro _ _ ⟨_,_,rfl,_⟩; rfl) ?_ ?_
 refine zCb h ?_ ?_
 intro h5 h
 refine cskip (xl ?_)
 exact ⟨_,_,rfl,(aK3 (aI (aK6 (aO2 aZ)))),_,_,rfl,h,Le.r,hS⟩
 intro h5 h
 refine creg ?_
 iterate 3 refine st ?_
 refine wnil (xl ?_)
 exact ⟨_,_,rfl,(aK3 (aI (aK6 (aO2 aZ)))),_,(decide ((p_1.toNat:Int)=95)),rfl,h,Le.r,hS⟩
 rintro _ t w2 ⟨μ2,b4,rfl,h,le6,hS⟩
 unfold r1_class_j2 at h
 refine nrm (mK3 (mi (mK6 (mO2 mz)))) (xn ?_)
 refine zCb h ?_ ?_
 intro h7 h
 refine nz (st (nw (cret ?_)))
 refine (fun h=>br (xr h)) ?_
 obtain rfl:=oI h
 refine ret1 rfl d2 ?_
 exact ⟨_,rfl,(le3.t le6),hS⟩
 intro h7 h
 refine cseq ?_
 refine ccutE (rg 13 6) (by decide) (fun m w=>∃ μx b8,m=(yK10 (yK2 (.i (.bool b8)::(yO6 13 []))))∧r1_class_j3 p_1 b8=some r∧Le μ2 μx∧Sq μx w0 w (rsF)) (by rintro _ _ ⟨_,_,rfl,_⟩; rfl) ?_ ?_
 refine creg ?_
 iterate 3 refine st ?_
 refine zWd 15 h ?_ ?_
 intro h9 h
 refine sy rfl (sy rfl ?_)
 iterate 2 refine st ?_
 refine wnil (xl ?_)
 exact ⟨_,_,rfl,(aK10 (aK2 (aI (aO6 aZ)))),_,(decide ((p_1.toNat:Int)≤57)),rfl,h,Le.r,hS⟩
 intro h9 h
 refine sn rfl rfl (sn rfl rfl ?_)
 iterate 2 refine st ?_
 refine wnil (xl ?_)
 exact ⟨_,_,rfl,(aK10 (aK2 (aI (aO6 aZ)))),_,false,rfl,h,Le.r,hS⟩
 rintro _ t w3 ⟨μ3,b8,rfl,h,le10,hS⟩
 unfold r1_class_j3 at h
 refine nrm (mK10 (mK2 (mi (mO6 mz)))) (xn ?_)
 refine zCb h ?_ ?_
 intro h11 h
 refine nz (st (nw (cret ?_)))
 refine (fun h=>br (xr h)) ?_
 obtain rfl:=oI h
 refine ret1 rfl d2 ?_
 exact ⟨_,rfl,(le3.t (le6.t le10)),hS⟩
 intro h11 h
 refine cseq ?_
 refine ccutE (rg 20 10) (by decide) (fun m w=>∃ μx b12,m=(yK10 (yK9 (.i (.bool b12)::(yO10 20 []))))∧r1_class_j4 p_1 b12=some r∧Le μ3 μx∧Sq μx w0 w (rsF)) (by rintro _ _ ⟨_,_,rfl,_⟩; rfl) ?_ ?_
 refine creg ?_
 iterate 3 refine st ?_
 refine zWd 22 h ?_ ?_
 intro h13 h
 refine sn rfl rfl (sn rfl rfl ?_)
 iterate 2 refine st ?_
 refine sn rfl rfl (sn rfl rfl ?_)
 iterate 2 refine st ?_
 refine wnil (xl ?_)
 exact ⟨_,_,rfl,(aK10 (aK9 (aI (aO10 aZ)))),_,true,rfl,h,Le.r,hS⟩
 intro h13 h
 refine sy rfl (sy rfl ?_)
 iterate 2 refine st ?_
 refine zWd 26 h ?_ ?_
 intro h14 h
 refine sn rfl rfl (sn rfl rfl ?_)
 iterate 2 refine st ?_
 refine wnil (xl ?_)
 exact ⟨_,_,rfl,(aK10 (aK9 (aI (aO10 aZ)))),_,true,rfl,h,Le.r,hS⟩
 intro h14 h
 refine sy rfl (sy rfl ?_)
 iterate 2 refine st ?_
 refine wnil (xl ?_)
 exact ⟨_,_,rfl,(aK10 (aK9 (aI (aO10 aZ)))),_,(decide ((p_1.toNat:Int)=10)),rfl,h,Le.r,hS⟩
 rintro _ t w4 ⟨μ4,b12,rfl,h,le15,hS⟩
 unfold r1_class_j4 at h
 refine nrm (mK10 (mK9 (mi (mO10 mz)))) (xn ?_)
 refine zCb h ?_ ?_
 intro h16 h
 refine nz (st (nw (cret ?_)))
 refine (fun h=>br (xr h)) ?_
 obtain rfl:=oI h
 refine ret1 rfl d2 ?_
 exact ⟨_,rfl,(le3.t (le6.t (le10.t le15))),hS⟩
 intro h16 h
 refine nz ?_
 iterate 3 refine st ?_
 refine nw ?_
 refine zCd h ?_ ?_
 intro h17 h
 refine nz (st (nw (cret ?_)))
 refine (fun h=>br (xr h)) ?_
 obtain rfl:=oI h
 refine ret1 rfl d2 ?_
 exact ⟨_,rfl,(le3.t (le6.t (le10.t le15))),hS⟩
 intro h17 h
 refine cskip ?_
 refine (fun h=>bn (xn h)) ?_
 refine nz (st (nw (cret ?_)))
 obtain rfl:=oI h
 refine ret1 rfl d2 ?_
 exact ⟨_,rfl,(le3.t (le6.t (le10.t le15))),hS⟩
theorem r1_res_w (hg:Le Gm μ0) {p_1:List UInt8} {r:Bool}  (h:r1_res p_1=some r) (hS:Sq μ0 w0 w (rsF)):CallsV prog 81 [S p_1] w (fun v w'=>∃ (μ':M) ,v=.bool r∧Le μ0 μ'∧Sq μ' w0 w' (rsF)):=by
 unfold r1_res at h
 refine enter func81 rfl (frm:=_::u2 (u2 (u10 []))) rfl (nz (st (ny (nz ?_))))
 refine wl (s_bsl underlying38 ti9 (Parts.s ec rfl (Parts.s ec rfl (Parts.s ec rfl (Parts.s ec rfl (Parts.s ec rfl (Parts.s ec rfl (Parts.s ec rfl (Parts.s ec rfl (Parts.s ec rfl (Parts.s ec rfl (Parts.s ec rfl (Parts.s ec rfl (Parts.s ec rfl (Parts.s ec rfl (Parts.s ec rfl (Parts.s ec rfl (Parts.s ec rfl (Parts.s ec rfl (Parts.s ec rfl (Parts.s ec rfl (Parts.s ec rfl (Parts.s ec rfl (Parts.s ec rfl (Parts.s ec rfl (Parts.s ec rfl (Parts.s ec rfl (Parts.s ec rfl Parts.z))))))))))))))))))))))))))) rfl rfl hS ?_); clear hS; intro b1 w1 hb2 hS; refine po ?_
 refine wl (su (u_lensl underlying38 (et d5)) (dt p6) (st (nw (cblock ?_))))
 obtain ⟨μ1,le4,m3,hS⟩:=Sep.frzBlk (l:=([[98,111,120],[102,110],[103,101,110],[116,97,115,107],[116,97,107,101,115],[121,105,101,108,100,115],[108,101,116],[105,102],[101,108,115,101],[119,104,105,108,101],[114,101,116,117,114,110],[115,116,111,112],[115,101,110,100],[111,117,116],[100,111],[114,101,99,118],[121,105,101,108,100],[115,116,97,114,116],[114,101,115,117,109,101],[97,108,105,118,101],[110,117,109],[98,111,111,108],[116,114,117,101],[102,97,108,115,101],[97,110,100],[111,114],[110,111,116]]:List (List UInt8))) hS (Rw.cons (α:=List UInt8) (cs:=[S [98,111,120]]) rfl (Rw.cons (α:=List UInt8) (cs:=[S [102,110]]) rfl (Rw.cons (α:=List UInt8) (cs:=[S [103,101,110]]) rfl (Rw.cons (α:=List UInt8) (cs:=[S [116,97,115,107]]) rfl (Rw.cons (α:=List UInt8) (cs:=[S [116,97,107,101,115]]) rfl (Rw.cons (α:=List UInt8) (cs:=[S [121,105,101,108,100,115]]) rfl (Rw.cons (α:=List UInt8) (cs:=[S [108,101,116]]) rfl (Rw.cons (α:=List UInt8) (cs:=[S [105,102]]) rfl (Rw.cons (α:=List UInt8) (cs:=[S [101,108,115,101]]) rfl (Rw.cons (α:=List UInt8) (cs:=[S [119,104,105,108,101]]) rfl (Rw.cons (α:=List UInt8) (cs:=[S [114,101,116,117,114,110]]) rfl (Rw.cons (α:=List UInt8) (cs:=[S [115,116,111,112]]) rfl (Rw.cons (α:=List UInt8) (cs:=[S [115,101,110,100]]) rfl (Rw.cons (α:=List UInt8) (cs:=[S [111,117,116]]) rfl (Rw.cons (α:=List UInt8) (cs:=[S [100,111]]) rfl (Rw.cons (α:=List UInt8) (cs:=[S [114,101,99,118]]) rfl (Rw.cons (α:=List UInt8) (cs:=[S [121,105,101,108,100]]) rfl (Rw.cons (α:=List UInt8) (cs:=[S [115,116,97,114,116]]) rfl (Rw.cons (α:=List UInt8) (cs:=[S [114,101,115,117,109,101]]) rfl (Rw.cons (α:=List UInt8) (cs:=[S [97,108,105,118,101]]) rfl (Rw.cons (α:=List UInt8) (cs:=[S [110,117,109]]) rfl (Rw.cons (α:=List UInt8) (cs:=[S [98,111,111,108]]) rfl (Rw.cons (α:=List UInt8) (cs:=[S [116,114,117,101]]) rfl (Rw.cons (α:=List UInt8) (cs:=[S [102,97,108,115,101]]) rfl (Rw.cons (α:=List UInt8) (cs:=[S [97,110,100]]) rfl (Rw.cons (α:=List UInt8) (cs:=[S [111,114]]) rfl (Rw.cons (α:=List UInt8) (cs:=[S [110,111,116]]) rfl Rw.nil))))))))))))))))))))))))))) (Nat.le_of_ble_eq_true rfl)
 refine cloopE ([2]++[4]++rg 8 7) (by decide) (fun n m w=>∃ μx i15,m=(yK2 (yO1 2 (yK1 (yO1 4 (yK2 (.i (.int .i64 i15)::(yO7 8 [])))))))∧r1_res_l1 p_1 n i15=some r∧Le μ1 μx∧Sq μx w0 w (rsF)) (by rintro _ _ _ ⟨_,_,rfl,_⟩; rfl) _ _ (aK2 (aO1 (aK1 (aO1 (aK2 (aI (aO7 aZ))))))) ⟨_,0,rfl,h,Le.r,hS⟩ ?_
 rintro n_1 _ t w2 ⟨μ2,i15,rfl,h,le26,hS⟩
 rcases n_1 with _|n_1
 cases h
 unfold r1_res_l1 at h
 refine cnrm (mK2 (mO1 (mK1 (mO1 (mK2 (mi (mO7 mz))))))) (nz (st (ny ?_)))
 refine zCd h ?_ ?_
 intro h27 h
 refine cskip (xn (cseq (cblock (nz ?_))))
 obtain ⟨x28,g29,h⟩:=bI h
 obtain ⟨b30,o31,cs32,e33,f34,m35⟩:=SlR.elem (m3.up le26) g29
 obtain rfl:=m35
 refine wl (su (u_iax underlying38 ti9 (et d5) (et d7) e33) (dt p9) (ld ((f34 _ hS.a).one d0) (st (nx ?_))))
 iterate 2 refine st ?_
 refine wl (su (u_eqs (et (k10 d1)) (et (k10 d2))) (dt (q10 p3)) (nw ?_))
 refine zCd h ?_ ?_
 intro h36 h
 refine nz (st (nw (cret ?_)))
 refine (fun h=>br (xr (xr (br (xr h))))) ?_
 obtain rfl:=oI h
 refine ret1 rfl d2 ?_
 exact ⟨_,rfl,(le4.t le26),hS⟩
 intro h36 h
 refine cskip ?_
 refine (fun h=>bn (xn h)) ?_
 refine creg ?_
 obtain ⟨i37,g38,h⟩:=bI h
 refine wl (su (u_addc (et d7) ec g38) (dt (q10 p4)) (st (wnil (xl ?_))))
 exact ⟨n_1,_,_,rfl,(aK2 (aO1 (aK1 (aO1 (aK2 (aI (aO7 aZ))))))),⟨_,i37,rfl,h,le26,hS⟩,Nat.lt_succ_self _⟩
 intro h27 h
 refine cexit ?_
 refine (fun h=>xe (xe (bh h))) ?_
 refine xn (nz (st (nw (cret ?_))))
 obtain rfl:=oI h
 refine ret1 rfl d2 ?_
 exact ⟨_,rfl,(le4.t le26),hS⟩
theorem r1_named_w (hg:Le Gm μ0) {p_1:List UInt8} {r:Bool}  (h:r1_named p_1=some r) (hS:Sq μ0 w0 w (rsF)):CallsV prog 62 [S p_1] w (fun v w'=>∃ (μ':M) ,v=.bool r∧Le μ0 μ'∧Sq μ' w0 w' (rsF)):=by
 unfold r1_named at h
 refine enter func62 rfl (frm:=_::u1 (u5 (u10 (u20 [])))) rfl (nz (st (ny (nz (st ?_)))))
 refine wl (s_range underlying9 (et d5) hS ?_); clear hS; intro b1 w1 hb2 hS; refine po ?_
 refine nw (cblock ?_)
 refine cloopE (rg 2 3++rg 7 17) (by decide) (fun n m w=>∃ μx q12,m=(yK2 (yO3 2 (yK2 (yO10 7 (yO7 17 [])))))∧r1_named_l1 p_1 n q12=some r∧Le μ0 μx∧Sq μx w0 w (.itr b1 ⟨⟨p_1⟩⟩ q12::rsF)) (by rintro _ _ _ ⟨_,_,rfl,_⟩; rfl) _ _ (aK2 (aO3 (aK2 (aO10 (aO7 aZ))))) ⟨_,0,rfl,h,Le.r,hS⟩ ?_
 rintro n_1 _ t w2 ⟨μ1,q12,rfl,h,le22,hS⟩
 rcases n_1 with _|n_1
 cases h
 unfold r1_named_l1 at h
 refine cnrm (mK2 (mO3 (mK2 (mO10 (mO7 mz))))) (nz ?_)
 refine wl (s_next (et d6) hS d0 (fun h23=>?_) (fun h23=>?_))
 clear hS; intro w3 rs_ hp_ hS; cases (show _=rs_ from hp_)
 replace hS:=Sep.reput hS p0; refine po ?_
 replace h:=iT h23 h
 refine st (ny (cift (et d8) (cskip (xn (cblock (nz ?_))))))
 iterate 2 refine st ?_
 refine nx ?_
 iterate 2 refine st ?_
 obtain ⟨u24,g25,h⟩:=bI h
 refine wl (s_idxc underlying9 (et (k10 d0)) (et (k10 d1)) g25 (dt (q10 p2)) ?_)
 obtain ⟨r26,g27,h⟩:=bI h
 refine ca (r1_class_w (hg.t le22) g27 hS) ?_
 rintro _ w4 ⟨μ2,rfl,le28,hS⟩
 refine po (st (ny ?_))
 refine ccutE (rg 14 9) (by decide) (fun m w=>∃ μx b29,m=(yK10 (yK4 (yO9 14 (.i (.bool b29)::[]))))∧r1_named_j1 p_1 q12 (r1_named_l1 p_1 n_1) b29=some r∧Le μ2 μx∧Sq μx w0 w (.itr b1 ⟨⟨p_1⟩⟩ (q12+wd p_1 q12)::rsF)) (by rintro _ _ ⟨_,_,rfl,_⟩; rfl) ?_ ?_
 refine creg ?_
 iterate 3 refine st ?_
 refine zWd 16 h ?_ ?_
 intro h30 h
 refine sy rfl (sy rfl (sy rfl ?_))
 refine zWd 19 h ?_ ?_
 intro h31 h
 refine sn rfl rfl (sn rfl rfl (sy rfl (st (wnil (xl ?_)))))
 exact ⟨_,_,rfl,(aK10 (aK4 (aO9 (aI aZ)))),_,true,rfl,h,Le.r,hS⟩
 intro h31 h
 refine sy rfl (sy rfl (sy rfl (st (wnil (xl ?_)))))
 exact ⟨_,_,rfl,(aK10 (aK4 (aO9 (aI aZ)))),_,(decide (((q12:Nat):Int)=0)),rfl,h,Le.r,hS⟩
 intro h30 h
 refine sn rfl rfl (sn rfl rfl (sn rfl rfl (wu rfl (k10 d9) (dt (q20 p0)) (wu rfl (k10 d9) (dt (q20 p1)) (sn rfl rfl (st (wnil (xl ?_))))))))
 exact ⟨_,_,rfl,(aK10 (aK4 (aO9 (aI aZ)))),_,false,rfl,h,Le.r,hS⟩
 rintro _ t w5 ⟨μ3,b29,rfl,h,le32,hS⟩
 unfold r1_named_j1 at h
 refine nrm (mK10 (mK4 (mO9 (mi mz)))) (xn ?_)
 refine zCb h ?_ ?_
 intro h33 h
 refine nz (st (nw (cret ?_)))
 refine (fun h=>br (xr (br (xr h)))) ?_
 obtain rfl:=oI h
 refine ret1 rfl d2 ?_
 replace hS:=hS.drop Rm.z
 exact ⟨_,rfl,(le22.t (le28.t le32)),hS⟩
 intro h33 h
 refine cskip ?_
 refine (fun h=>bn (xl h)) ?_
 exact ⟨n_1,_,_,rfl,(aK2 (aO3 (aK2 (aO10 (aO7 aZ))))),⟨_,(q12+wd p_1 q12),rfl,h,(le22.t (le28.t le32)),hS⟩,Nat.lt_succ_self _⟩
 refine po ?_
 replace h:=iF h23 h
 refine st (ny (ciff (et d8) (cexit ?_)))
 refine (fun h=>xe (xe (bh h))) ?_
 refine xn (nz (st (wl (su (u_lens underlying9 (et (k20 d4))) (dt (q20 p5)) ?_))))
 iterate 2 refine st ?_
 refine zWd 27 h ?_ ?_
 intro h34 h
 refine sy rfl (wy rfl (k20 d7) (su (u_lens underlying9 (et (k20 d8))) (dt (q20 p9)) (sy rfl ?_)))
 iterate 2 refine st ?_
 refine zWd 32 h ?_ ?_
 intro h35 h
 refine sy rfl ?_
 obtain ⟨r36,g37,h⟩:=bI h
 refine wy rfl (k30 d2) (s_callv isfn81 ef (e1 (et (k30 d3)) e0) (r1_res_w (hg.t le22) g37 hS) ?_)
 rintro _ w6 ⟨μ4,rfl,le38,hS⟩
 refine po (sy rfl ?_)
 iterate 2 refine st ?_
 refine nw (cret ?_)
 obtain rfl:=oI h
 refine ret1 rfl d2 ?_
 replace hS:=hS.drop Rm.z
 exact ⟨_,rfl,(le22.t le38),hS⟩
 intro h35 h
 refine sn rfl rfl (sn rfl rfl (sn rfl rfl ?_))
 iterate 2 refine st ?_
 refine nw (cret ?_)
 obtain rfl:=oI h
 refine ret1 rfl d2 ?_
 replace hS:=hS.drop Rm.z
 exact ⟨_,rfl,le22,hS⟩
 intro h34 h
 refine sn rfl rfl (sn rfl rfl (sn rfl rfl ?_))
 iterate 2 refine st ?_
 refine sn rfl rfl (sn rfl rfl (sn rfl rfl ?_))
 iterate 2 refine st ?_
 refine nw (cret ?_)
 obtain rfl:=oI h
 refine ret1 rfl d2 ?_
 replace hS:=hS.drop Rm.z
 exact ⟨_,rfl,le22,hS⟩
theorem r2_more_w (hg:Le Gm μ0) {n_2 p_2:Int} {r:Bool×Int}  (h:r2_more n_2 p_2=some r) (hS:Sq μ0 w0 w (.blk b1 104 [.int .i64 n_2]::rsF)):CallsV prog 61 [.pointer (some ⟨b1,0,none⟩),.int .i64 p_2] w (fun v w'=>∃ (μ':M) ,v=.bool r.1∧Le μ0 μ'∧Sq μ' w0 w' (.blk b1 104 [.int .i64 r.2]::rsF)):=by
 unfold r2_more at h
 refine enter func61 rfl (frm:=_::_::u2 (u2 (u5 (u10 [])))) rfl (nz (st (nx ?_)))
 iterate 3 refine st ?_
 refine ld ((hS.blk d0).cell d0) ?_
 obtain ⟨i3,g4,h⟩:=bI h
 refine wl (su (u_addc (et d8) ec g4) (dt p9) ?_)
 iterate 2 refine st ?_
 refine wl (s_store1 ti3 (et (k10 d1)) (et d9) rfl hS d0 p0 rfl p0 dn ?_)
 clear hS; intro w1 hS
 refine nx ?_
 iterate 3 refine st ?_
 refine ld ((hS.blk d0).cell d0) ?_
 iterate 2 refine st ?_
 refine zWd 17 h ?_ ?_
 intro h5 h
 refine sy rfl (sy rfl ?_)
 iterate 2 refine st ?_
 refine nw (cret ?_)
 obtain rfl:=oI h
 refine ret1 rfl d4 ?_
 exact ⟨_,rfl,Le.r,hS⟩
 intro h5 h
 refine sn rfl rfl (sn rfl rfl ?_)
 iterate 2 refine st ?_
 refine nw (cret ?_)
 obtain rfl:=oI h
 refine ret1 rfl d4 ?_
 exact ⟨_,rfl,Le.r,hS⟩
theorem r2_type_w (hg:Le Gm μ0) {p_1:TType} {r:Int}  (h:r2_type p_1=some r) (hS:Sq μ0 w0 w (rsF)):CallsV prog 63 [.agg ⟨[.int .i64 p_1.Kind,S p_1.Gen]⟩] w (fun v w'=>∃ (μ':M) ,v=.int .i64 r∧Le μ0 μ'∧Sq μ' w0 w' (rsF)):=by
 unfold r2_type at h
 refine enter func63 rfl (frm:=_::u2 (u2 (u5 (u10 [])))) rfl (nz ?_)
 refine wl (s_box (et d0) rfl hS ?_); clear hS; intro b1 w1 hb2 hS; refine po ?_
 refine st (ny (cseq ?_))
 refine ccutE (rg 3 7) (by decide) (fun m w=>∃ μx b3,m=(yK3 (yO7 3 (.i (.bool b3)::[])))∧r2_type_j1 p_1 b3=some r∧Le μ0 μx∧Sq μx w0 w (.blk b1 55 [.int .i64 p_1.Kind,S p_1.Gen]::rsF)) (by rintro _ _ ⟨_,_,rfl,_⟩; rfl) ?_ ?_
 refine creg (st (ld ((hS.blk d0).cell d0) ?_))
 iterate 2 refine st ?_
 refine zWd 6 h ?_ ?_
 intro h4 h
 refine sn rfl rfl (sn rfl rfl (sn rfl rfl (st (wnil (xl ?_)))))
 exact ⟨_,_,rfl,(aK3 (aO7 (aI aZ))),_,true,rfl,h,Le.r,hS⟩
 intro h4 h
 refine sy rfl (wy rfl d6 (s_load ti3 (et d7) ((hS.blk d0).cell d0) (dt p8) (sy rfl (st (wnil (xl ?_))))))
 exact ⟨_,_,rfl,(aK3 (aO7 (aI aZ))),_,(decide ((3:Int)<p_1.Kind)),rfl,h,Le.r,hS⟩
 rintro _ t w2 ⟨μ1,b3,rfl,h,le5,hS⟩
 unfold r2_type_j1 at h
 refine nrm (mK3 (mO7 (mi mz))) (xn ?_)
 refine zCb h ?_ ?_
 intro h6 h
 refine nz (st (nw (cret (xr ?_))))
 obtain rfl:=oI h
 refine ret1 rfl d2 ?_
 replace hS:=hS.drop Rm.z
 exact ⟨_,rfl,le5,hS⟩
 intro h6 h
 refine cskip (xn (cseq (cseq ?_)))
 refine ccutE (rg 11 8) (by decide) (fun m w=>∃ μx b7,m=(yK10 (yK1 (yO8 11 (.i (.bool b7)::[]))))∧r2_type_j2 b7=some r∧Le μ1 μx∧Sq μx w0 w (rsF)) (by rintro _ _ ⟨_,_,rfl,_⟩; rfl) ?_ ?_
 refine creg (st (ld ((hS.blk d0).cell d0) ?_))
 iterate 2 refine st ?_
 refine zWd 14 h ?_ ?_
 intro h8 h
 refine sy rfl (wy rfl (k10 d4) (s_load ti9 (et (k10 d5)) ((hS.blk d0).cell d1) (dt (q10 p6)) ?_))
 obtain ⟨r9,g10,h⟩:=bI h
 refine wy rfl (k10 d4) (s_callv isfn62 ef (e1 (et (k10 d6)) e0) (r1_named_w (hg.t le5) g10 hS) ?_)
 rintro _ w3 ⟨μ2,rfl,le11,hS⟩
 refine po (sy rfl (st (wnil (xl ?_))))
 replace hS:=hS.drop Rm.z
 exact ⟨_,_,rfl,(aK10 (aK1 (aO8 (aI aZ)))),_,(!r9),rfl,h,le11,hS⟩
 intro h8 h
 refine sn rfl rfl (sn rfl rfl (sn rfl rfl (sn rfl rfl (st (wnil (xl ?_))))))
 replace hS:=hS.drop Rm.z
 exact ⟨_,_,rfl,(aK10 (aK1 (aO8 (aI aZ)))),_,false,rfl,h,Le.r,hS⟩
 rintro _ t w4 ⟨μ3,b7,rfl,h,le12,hS⟩
 unfold r2_type_j2 at h
 refine nrm (mK10 (mK1 (mO8 (mi mz)))) (xn ?_)
 refine zCb h ?_ ?_
 intro h13 h
 refine nz (st (nw (cret (xr ?_))))
 obtain rfl:=oI h
 refine ret1 rfl d2 ?_
 exact ⟨_,rfl,(le5.t le12),hS⟩
 intro h13 h
 refine cskip (xn (nz (st (nw (cret ?_)))))
 obtain rfl:=oI h
 refine ret1 rfl d2 ?_
 exact ⟨_,rfl,(le5.t le12),hS⟩
theorem r2_kids_w (hg:Le Gm μ0) {p_1 r:Int}  (h:r2_kids p_1=some r) (hS:Sq μ0 w0 w (rsF)):CallsV prog 102 [.int .i64 p_1] w (fun v w'=>∃ (μ':M) ,v=.int .i64 r∧Le μ0 μ'∧Sq μ' w0 w' (rsF)):=by
 unfold r2_kids at h
 refine enter func102 rfl (frm:=_::u1 (u5 [])) rfl (nz (st (nx ?_)))
 refine wl (s_bsl underlying85 ti3 (Parts.s ec rfl (Parts.s ec rfl (Parts.s ec rfl (Parts.s ec rfl (Parts.s ec rfl (Parts.s ec rfl (Parts.s ec rfl (Parts.s ec rfl (Parts.s ec rfl (Parts.s ec rfl (Parts.s ec rfl (Parts.s ec rfl (Parts.s ec rfl (Parts.s ec rfl (Parts.s ec rfl (Parts.s ec rfl (Parts.s ec rfl (Parts.s ec rfl (Parts.s ec rfl (Parts.s ec rfl (Parts.s ec rfl (Parts.s ec rfl (Parts.s ec rfl (Parts.s ec rfl (Parts.s ec rfl Parts.z))))))))))))))))))))))))) rfl rfl hS ?_); clear hS; intro b1 w1 hb2 hS; refine po ?_
 refine st ?_
 obtain ⟨μ1,le4,m3,hS⟩:=Sep.frzBlk (l:=([0,0,0,0,1,1,2,2,2,2,2,2,2,2,2,2,2,2,2,(-1),0,1,(-1),2,1]:List Int)) hS (Rw.cons (α:=Int) (cs:=[.int .i64 0]) rfl (Rw.cons (α:=Int) (cs:=[.int .i64 0]) rfl (Rw.cons (α:=Int) (cs:=[.int .i64 0]) rfl (Rw.cons (α:=Int) (cs:=[.int .i64 0]) rfl (Rw.cons (α:=Int) (cs:=[.int .i64 1]) rfl (Rw.cons (α:=Int) (cs:=[.int .i64 1]) rfl (Rw.cons (α:=Int) (cs:=[.int .i64 2]) rfl (Rw.cons (α:=Int) (cs:=[.int .i64 2]) rfl (Rw.cons (α:=Int) (cs:=[.int .i64 2]) rfl (Rw.cons (α:=Int) (cs:=[.int .i64 2]) rfl (Rw.cons (α:=Int) (cs:=[.int .i64 2]) rfl (Rw.cons (α:=Int) (cs:=[.int .i64 2]) rfl (Rw.cons (α:=Int) (cs:=[.int .i64 2]) rfl (Rw.cons (α:=Int) (cs:=[.int .i64 2]) rfl (Rw.cons (α:=Int) (cs:=[.int .i64 2]) rfl (Rw.cons (α:=Int) (cs:=[.int .i64 2]) rfl (Rw.cons (α:=Int) (cs:=[.int .i64 2]) rfl (Rw.cons (α:=Int) (cs:=[.int .i64 2]) rfl (Rw.cons (α:=Int) (cs:=[.int .i64 2]) rfl (Rw.cons (α:=Int) (cs:=[.int .i64 (-1)]) rfl (Rw.cons (α:=Int) (cs:=[.int .i64 0]) rfl (Rw.cons (α:=Int) (cs:=[.int .i64 1]) rfl (Rw.cons (α:=Int) (cs:=[.int .i64 (-1)]) rfl (Rw.cons (α:=Int) (cs:=[.int .i64 2]) rfl (Rw.cons (α:=Int) (cs:=[.int .i64 1]) rfl Rw.nil))))))))))))))))))))))))) (Nat.le_of_ble_eq_true rfl)
 obtain ⟨x5,g6,h⟩:=bI h
 obtain ⟨b7,o8,cs9,e10,f11,m12⟩:=SlR.elem m3 g6
 obtain rfl:=m12
 refine wl (su (u_iax underlying85 ti3 (et d3) (et d4) e10) (dt p5) (ld ((f11 _ hS.a).one d0) (st (nw (cret ?_)))))
 obtain rfl:=oI h
 refine ret1 rfl d2 ?_
 exact ⟨_,rfl,le4,hS⟩
def r2_expr_S (q:Int→TExpr→Int→Option (Int×Int)):Prop:=∀ {μ0:M} {w0 w:World} {rsF:List Res} (hg:Le Gm μ0) {b1:Nat} {n_2:Int} {p_2:TExpr} {a3:Option Addr} {c4:Nat} {p_3:Int} {r:Int×Int} (m5:Sl μ0 a3 c4 p_2.Kids) (h:q n_2 p_2 p_3=some r) (hS:Sq μ0 w0 w (.blk b1 104 [.int .i64 n_2]::rsF)),CallsV prog 82 [.pointer (some ⟨b1,0,none⟩),.agg ⟨[.int .i64 p_2.Kind,.int .i64 p_2.N,S p_2.Name,.slice a3 p_2.Kids.length c4]⟩,.int .i64 p_3] w (fun v w'=>∃ (μ':M) ,v=.int .i64 r.1∧Le μ0 μ'∧Sq μ' w0 w' (.blk b1 104 [.int .i64 r.2]::rsF))
structure R2ESound (sf:R2E):Prop where
  r2_expr:r2_expr_S sf.r2_expr
theorem r2_expr_w {self:R2E} (IH:R2ESound self):r2_expr_S (r2_expr self):=by
 intro μ0 w0 w rsF hg b1 n_2 p_2 a3 c4 p_3 r m5 h hS
 unfold r2_expr at h
 refine enter func82 rfl (frm:=_::_::_::u1 (u5 (u50 (u50 [])))) rfl (nz ?_)
 refine wl (s_box (et d1) rfl hS ?_); clear hS; intro b6 w1 hb7 hS; refine po ?_
 refine st (ny (nz ?_))
 iterate 2 refine st ?_
 obtain ⟨r8,g9,h⟩:=bI h
 replace hS:=hS.bg Y1
 refine ca (r2_more_w hg g9 hS) ?_
 rintro _ w2 ⟨μ1,rfl,le10,hS⟩
 refine po (st (nw ?_))
 refine zCe h ?_ ?_
 intro h11 h
 refine nz (st (nw (cret (xr ?_))))
 obtain rfl:=oI h
 refine ret1 rfl d6 ?_
 replace hS:=hS.drop (Rm.s Rm.z)
 exact ⟨_,rfl,le10,hS⟩
 intro h11 h
 refine cskip (xn (cseq (cseq ?_)))
 refine ccutE (rg 15 7) (by decide) (fun m w=>∃ μx b12,m=(yK10 (yK5 (yO7 15 (.i (.bool b12)::[]))))∧r2_expr_j1 self p_2 p_3 r8 b12=some r∧Le μ1 μx∧Sq μx w0 w (.blk b1 104 [.int .i64 r8.2]::.blk b6 119 [.int .i64 p_2.Kind,.int .i64 p_2.N,S p_2.Name,.slice a3 p_2.Kids.length c4]::rsF)) (by rintro _ _ ⟨_,_,rfl,_⟩; rfl) ?_ ?_
 refine creg (st (ld ((hS.blk d1).cell d0) ?_))
 iterate 2 refine st ?_
 refine zWd 18 h ?_ ?_
 intro h13 h
 refine sn rfl rfl (sn rfl rfl (sn rfl rfl (st (wnil (xl ?_)))))
 exact ⟨_,_,rfl,(aK10 (aK5 (aO7 (aI aZ)))),_,true,rfl,h,Le.r,hS⟩
 intro h13 h
 refine sy rfl (wy rfl (k10 d8) (s_load ti3 (et (k10 d9)) ((hS.blk d1).cell d0) (dt (q20 p0)) (sy rfl (st (wnil (xl ?_))))))
 exact ⟨_,_,rfl,(aK10 (aK5 (aO7 (aI aZ)))),_,(decide ((24:Int)<p_2.Kind)),rfl,h,Le.r,hS⟩
 rintro _ t w3 ⟨μ2,b12,rfl,h,le14,hS⟩
 unfold r2_expr_j1 at h
 refine nrm (mK10 (mK5 (mO7 (mi mz)))) (xn ?_)
 refine zCb h ?_ ?_
 intro h15 h
 refine nz (st (nw (cret (xr ?_))))
 obtain rfl:=oI h
 refine ret1 rfl d6 ?_
 replace hS:=hS.drop (Rm.s Rm.z)
 exact ⟨_,rfl,(le10.t le14),hS⟩
 intro h15 h
 refine cskip (xn (cseq (cseq ?_)))
 refine ccutE (rg 23 27) (by decide +kernel) (fun m w=>∃ μx b16,m=(yK20 (yK3 (yO20 23 (yO7 43 (.i (.bool b16)::[])))))∧r2_expr_j2 self p_2 p_3 r8 b16=some r∧Le μ2 μx∧Sq μx w0 w (.blk b1 104 [.int .i64 r8.2]::.blk b6 119 [.int .i64 p_2.Kind,.int .i64 p_2.N,S p_2.Name,.slice a3 p_2.Kids.length c4]::rsF)) (by rintro _ _ ⟨_,_,rfl,_⟩; rfl) ?_ ?_
 refine creg (st (ld ((hS.blk d1).cell d0) ?_))
 iterate 2 refine st ?_
 refine zWd 26 h ?_ ?_
 intro h17 h
 refine sy rfl (wy rfl (k20 d6) (s_load ti2 (et (k20 d7)) ((hS.blk d1).cell d1) (dt (q20 p8)) (sy rfl (sy rfl ?_))))
 refine zWd 30 h ?_ ?_
 intro h18 h
 refine sn rfl rfl (sn rfl rfl (sn rfl rfl (sy rfl ?_)))
 iterate 2 refine st ?_
 refine sn rfl rfl (sn rfl rfl (sn rfl rfl (sn rfl rfl (wu rfl (k40 d0) (dt (q40 p1)) (wu rfl (k40 d0) (dt (q40 p2)) (wu rfl (k40 d0) (dt (q40 p3)) (wu rfl (k40 d0) (dt (q40 p4)) (wu rfl (k40 d4) (dt (q40 p5)) (wu rfl (k40 d4) (dt (q40 p6)) (wu rfl (k40 d4) (dt (q40 p7)) (wu rfl (k40 d0) (dt (q40 p8)) (sn rfl rfl (st (wnil (xl ?_)))))))))))))))
 exact ⟨_,_,rfl,(aK20 (aK3 (aO20 (aO7 (aI aZ))))),_,true,rfl,h,Le.r,hS⟩
 intro h18 h
 refine sy rfl (wy rfl (k30 d0) (s_load ti2 (et (k30 d1)) ((hS.blk d1).cell d1) (dt (q30 p2)) (sy rfl (sy rfl ?_))))
 iterate 2 refine st ?_
 refine zWd 36 h ?_ ?_
 intro h19 h
 refine sn rfl rfl (sn rfl rfl (sn rfl rfl (sn rfl rfl (wu rfl (k40 d0) (dt (q40 p1)) (wu rfl (k40 d0) (dt (q40 p2)) (wu rfl (k40 d0) (dt (q40 p3)) (wu rfl (k40 d0) (dt (q40 p4)) (wu rfl (k40 d4) (dt (q40 p5)) (wu rfl (k40 d4) (dt (q40 p6)) (wu rfl (k40 d4) (dt (q40 p7)) (wu rfl (k40 d0) (dt (q40 p8)) (sn rfl rfl (st (wnil (xl ?_)))))))))))))))
 exact ⟨_,_,rfl,(aK20 (aK3 (aO20 (aO7 (aI aZ))))),_,true,rfl,h,Le.r,hS⟩
 intro h19 h
 refine sy rfl (wy rfl (k30 d6) (s_load ti3 (et (k30 d7)) ((hS.blk d1).cell d0) (dt (q30 p8)) (sy rfl (sy rfl ?_))))
 refine zWd 40 h ?_ ?_
 intro h20 h
 refine sy rfl (wy rfl (k40 d0) (s_load ti2 (et (k40 d1)) ((hS.blk d1).cell d1) (dt (q40 p2)) (sy rfl (sy rfl ?_))))
 refine zWd 44 h ?_ ?_
 intro h21 h
 refine sn rfl rfl (sn rfl rfl (sn rfl rfl (sy rfl (sy rfl (st (wnil (xl ?_)))))))
 exact ⟨_,_,rfl,(aK20 (aK3 (aO20 (aO7 (aI aZ))))),_,true,rfl,h,Le.r,hS⟩
 intro h21 h
 refine sy rfl (wy rfl (k40 d4) (s_load ti2 (et (k40 d5)) ((hS.blk d1).cell d1) (dt (q40 p6)) (sy rfl (sy rfl (sy rfl (st (wnil (xl ?_))))))))
 exact ⟨_,_,rfl,(aK20 (aK3 (aO20 (aO7 (aI aZ))))),_,(decide ((1:Int)<p_2.N)),rfl,h,Le.r,hS⟩
 intro h20 h
 refine sn rfl rfl (sn rfl rfl (sn rfl rfl (sn rfl rfl (wu rfl (k40 d4) (dt (q40 p5)) (wu rfl (k40 d4) (dt (q40 p6)) (wu rfl (k40 d4) (dt (q40 p7)) (sn rfl rfl (sy rfl (st (wnil (xl ?_)))))))))))
 exact ⟨_,_,rfl,(aK20 (aK3 (aO20 (aO7 (aI aZ))))),_,false,rfl,h,Le.r,hS⟩
 intro h17 h
 refine sn rfl rfl (sn rfl rfl (sn rfl rfl (sn rfl rfl (wu rfl (k30 d0) (dt (q30 p1)) (wu rfl (k30 d0) (dt (q30 p2)) (wu rfl (k30 d0) (dt (q30 p3)) (sn rfl rfl ?_)))))))
 iterate 2 refine st ?_
 refine sy rfl (wy rfl (k30 d6) (s_load ti3 (et (k30 d7)) ((hS.blk d1).cell d0) (dt (q30 p8)) (sy rfl (sy rfl ?_))))
 refine zWd 40 h ?_ ?_
 intro h22 h
 refine sy rfl (wy rfl (k40 d0) (s_load ti2 (et (k40 d1)) ((hS.blk d1).cell d1) (dt (q40 p2)) (sy rfl (sy rfl ?_))))
 refine zWd 44 h ?_ ?_
 intro h23 h
 refine sn rfl rfl (sn rfl rfl (sn rfl rfl (sy rfl (sy rfl (st (wnil (xl ?_)))))))
 exact ⟨_,_,rfl,(aK20 (aK3 (aO20 (aO7 (aI aZ))))),_,true,rfl,h,Le.r,hS⟩
 intro h23 h
 refine sy rfl (wy rfl (k40 d4) (s_load ti2 (et (k40 d5)) ((hS.blk d1).cell d1) (dt (q40 p6)) (sy rfl (sy rfl (sy rfl (st (wnil (xl ?_))))))))
 exact ⟨_,_,rfl,(aK20 (aK3 (aO20 (aO7 (aI aZ))))),_,(decide ((1:Int)<p_2.N)),rfl,h,Le.r,hS⟩
 intro h22 h
 refine sn rfl rfl (sn rfl rfl (sn rfl rfl (sn rfl rfl (wu rfl (k40 d4) (dt (q40 p5)) (wu rfl (k40 d4) (dt (q40 p6)) (wu rfl (k40 d4) (dt (q40 p7)) (sn rfl rfl (sy rfl (st (wnil (xl ?_)))))))))))
 exact ⟨_,_,rfl,(aK20 (aK3 (aO20 (aO7 (aI aZ))))),_,false,rfl,h,Le.r,hS⟩
 rintro _ t w4 ⟨μ3,b16,rfl,h,le24,hS⟩
 unfold r2_expr_j2 at h
 refine nrm (mK20 (mK3 (mO20 (mO7 (mi mz))))) (xn ?_)
 refine zCb h ?_ ?_
 intro h25 h
 refine nz (st (nw (cret (xr ?_))))
 obtain rfl:=oI h
 refine ret1 rfl d6 ?_
 replace hS:=hS.drop (Rm.s Rm.z)
 exact ⟨_,rfl,(le10.t (le14.t le24)),hS⟩
 intro h25 h
 refine cskip (xn (cseq (cseq ?_)))
 refine ccutE (rg 51 23) (by decide +kernel) (fun m w=>∃ μx b26,m=(yK50 (yK1 (yO20 51 (yO3 71 (.i (.bool b26)::[])))))∧r2_expr_j3 self p_2 p_3 r8 b26=some r∧Le μ3 μx∧Sq μx w0 w (.blk b1 104 [.int .i64 r8.2]::.blk b6 119 [.int .i64 p_2.Kind,.int .i64 p_2.N,S p_2.Name,.slice a3 p_2.Kids.length c4]::rsF)) (by rintro _ _ ⟨_,_,rfl,_⟩; rfl) ?_ ?_
 refine creg (st (ld ((hS.blk d1).cell d0) ?_))
 iterate 2 refine st ?_
 refine zWd 54 h ?_ ?_
 intro h27 h
 refine sn rfl rfl (sn rfl rfl (sn rfl rfl ?_))
 iterate 2 refine st ?_
 refine sn rfl rfl (sn rfl rfl (sn rfl rfl ?_))
 iterate 2 refine st ?_
 refine sn rfl rfl (sn rfl rfl (sn rfl rfl ?_))
 iterate 2 refine st ?_
 refine sy rfl (wy rfl (k60 d9) (s_load ti9 (et (k70 d0)) ((hS.blk d1).cell d2) (dt (q70 p1)) ?_))
 obtain ⟨r28,g29,h⟩:=bI h
 refine wy rfl (k60 d9) (s_callv isfn62 ef (e1 (et (k70 d1)) e0) (r1_named_w (hg.t (le10.t (le14.t le24))) g29 hS) ?_)
 rintro _ w5 ⟨μ4,rfl,le30,hS⟩
 refine po (sy rfl (st (wnil (xl ?_))))
 exact ⟨_,_,rfl,(aK50 (aK1 (aO20 (aO3 (aI aZ))))),_,(!r28),rfl,h,le30,hS⟩
 intro h27 h
 refine sy rfl (wy rfl (k50 d4) (s_load ti3 (et (k50 d5)) ((hS.blk d1).cell d0) (dt (q50 p6)) (sy rfl ?_)))
 iterate 2 refine st ?_
 refine zWd 59 h ?_ ?_
 intro h31 h
 refine sn rfl rfl (sn rfl rfl (sn rfl rfl ?_))
 iterate 2 refine st ?_
 refine sn rfl rfl (sn rfl rfl (sn rfl rfl ?_))
 iterate 2 refine st ?_
 refine sy rfl (wy rfl (k60 d9) (s_load ti9 (et (k70 d0)) ((hS.blk d1).cell d2) (dt (q70 p1)) ?_))
 obtain ⟨r32,g33,h⟩:=bI h
 refine wy rfl (k60 d9) (s_callv isfn62 ef (e1 (et (k70 d1)) e0) (r1_named_w (hg.t (le10.t (le14.t le24))) g33 hS) ?_)
 rintro _ w6 ⟨μ5,rfl,le34,hS⟩
 refine po (sy rfl (st (wnil (xl ?_))))
 exact ⟨_,_,rfl,(aK50 (aK1 (aO20 (aO3 (aI aZ))))),_,(!r32),rfl,h,le34,hS⟩
 intro h31 h
 refine sy rfl (wy rfl (k50 d9) (s_load ti3 (et (k60 d0)) ((hS.blk d1).cell d0) (dt (q60 p1)) (sy rfl ?_)))
 iterate 2 refine st ?_
 refine zWd 64 h ?_ ?_
 intro h35 h
 refine sn rfl rfl (sn rfl rfl (sn rfl rfl ?_))
 iterate 2 refine st ?_
 refine sy rfl (wy rfl (k60 d9) (s_load ti9 (et (k70 d0)) ((hS.blk d1).cell d2) (dt (q70 p1)) ?_))
 obtain ⟨r36,g37,h⟩:=bI h
 refine wy rfl (k60 d9) (s_callv isfn62 ef (e1 (et (k70 d1)) e0) (r1_named_w (hg.t (le10.t (le14.t le24))) g37 hS) ?_)
 rintro _ w7 ⟨μ6,rfl,le38,hS⟩
 refine po (sy rfl (st (wnil (xl ?_))))
 exact ⟨_,_,rfl,(aK50 (aK1 (aO20 (aO3 (aI aZ))))),_,(!r36),rfl,h,le38,hS⟩
 intro h35 h
 refine sy rfl (wy rfl (k60 d4) (s_load ti3 (et (k60 d5)) ((hS.blk d1).cell d0) (dt (q60 p6)) (sy rfl ?_)))
 iterate 2 refine st ?_
 refine zWd 69 h ?_ ?_
 intro h39 h
 refine sy rfl (wy rfl (k60 d9) (s_load ti9 (et (k70 d0)) ((hS.blk d1).cell d2) (dt (q70 p1)) ?_))
 obtain ⟨r40,g41,h⟩:=bI h
 refine wy rfl (k60 d9) (s_callv isfn62 ef (e1 (et (k70 d1)) e0) (r1_named_w (hg.t (le10.t (le14.t le24))) g41 hS) ?_)
 rintro _ w8 ⟨μ7,rfl,le42,hS⟩
 refine po (sy rfl (st (wnil (xl ?_))))
 exact ⟨_,_,rfl,(aK50 (aK1 (aO20 (aO3 (aI aZ))))),_,(!r40),rfl,h,le42,hS⟩
 intro h39 h
 refine sn rfl rfl (sn rfl rfl (sn rfl rfl (sn rfl rfl (st (wnil (xl ?_))))))
 exact ⟨_,_,rfl,(aK50 (aK1 (aO20 (aO3 (aI aZ))))),_,false,rfl,h,Le.r,hS⟩
 rintro _ t w9 ⟨μ8,b26,rfl,h,le43,hS⟩
 unfold r2_expr_j3 at h
 refine nrm (mK50 (mK1 (mO20 (mO3 (mi mz))))) (xn ?_)
 refine zCb h ?_ ?_
 intro h44 h
 refine nz (st (nw (cret (xr ?_))))
 obtain rfl:=oI h
 refine ret1 rfl d6 ?_
 replace hS:=hS.drop (Rm.s Rm.z)
 exact ⟨_,rfl,(le10.t (le14.t (le24.t le43))),hS⟩
 intro h44 h
 refine cskip (xn (cseq (nz (st (ld ((hS.blk d1).cell d0) ?_)))))
 obtain ⟨r45,g46,h⟩:=bI h
 refine ca (r2_kids_w (hg.t (le10.t (le14.t (le24.t le43)))) g46 hS) ?_
 rintro _ w10 ⟨μ9,rfl,le47,hS⟩
 refine po (st (ny ?_))
 refine ccutE (rg 78 14) (by decide) (fun m w=>∃ μx b48,m=(yK50 (yK20 (yK8 (yO10 78 (yO4 88 (.i (.bool b48)::[]))))))∧r2_expr_j4 self p_2 p_3 r8 b48=some r∧Le μ9 μx∧Sq μx w0 w (.blk b1 104 [.int .i64 r8.2]::.blk b6 119 [.int .i64 p_2.Kind,.int .i64 p_2.N,S p_2.Name,.slice a3 p_2.Kids.length c4]::rsF)) (by rintro _ _ ⟨_,_,rfl,_⟩; rfl) ?_ ?_
 refine creg ?_
 iterate 3 refine st ?_
 refine zWd 80 h ?_ ?_
 intro h49 h
 refine sy rfl (wy rfl (k80 d0) (s_load ti117 (et (k80 d1)) ((hS.blk d1).cell d3) (dt (q80 p2)) (wy rfl (k80 d0) (su (u_lensl underlying117 (et (k80 d2))) (dt (q80 p3)) (sy rfl (sy rfl ?_))))))
 iterate 2 refine st ?_
 refine zWd 87 h ?_ ?_
 intro h50 h
 refine sn rfl rfl (sn rfl rfl (sn rfl rfl (sn rfl rfl (st (wnil (xl ?_))))))
 exact ⟨_,_,rfl,(aK50 (aK20 (aK8 (aO10 (aO4 (aI aZ)))))),_,true,rfl,h,Le.r,hS⟩
 intro h50 h
 refine sy rfl (wy rfl (k80 d7) (s_load ti117 (et (k80 d8)) ((hS.blk d1).cell d3) (dt (q80 p9)) (wy rfl (k80 d7) (su (u_lensl underlying117 (et (k80 d9))) (dt (q90 p0)) (sy rfl (st (wnil (xl ?_))))))))
 exact ⟨_,_,rfl,(aK50 (aK20 (aK8 (aO10 (aO4 (aI aZ)))))),_,(decide ((6:Int)<(p_2.Kids.length:Int))),rfl,h,Le.r,hS⟩
 intro h49 h
 refine sn rfl rfl (sn rfl rfl (sn rfl rfl (sn rfl rfl (sn rfl rfl ?_))))
 iterate 2 refine st ?_
 refine sy rfl (wy rfl (k80 d7) (s_load ti117 (et (k80 d8)) ((hS.blk d1).cell d3) (dt (q80 p9)) (wy rfl (k80 d7) (su (u_lensl underlying117 (et (k80 d9))) (dt (q90 p0)) (sy rfl (st (wnil (xl ?_))))))))
 exact ⟨_,_,rfl,(aK50 (aK20 (aK8 (aO10 (aO4 (aI aZ)))))),_,(decide ((6:Int)<(p_2.Kids.length:Int))),rfl,h,Le.r,hS⟩
 rintro _ t w11 ⟨μ10,b48,rfl,h,le51,hS⟩
 unfold r2_expr_j4 at h
 refine nrm (mK50 (mK20 (mK8 (mO10 (mO4 (mi mz)))))) (xn ?_)
 refine zCb h ?_ ?_
 intro h52 h
 refine nz (st (nw (cret (xr ?_))))
 obtain rfl:=oI h
 refine ret1 rfl d6 ?_
 replace hS:=hS.drop (Rm.s Rm.z)
 exact ⟨_,rfl,(le10.t (le14.t (le24.t (le43.t (le47.t le51))))),hS⟩
 intro h52 h
 refine cskip (xn (cseq (nz (st (ld ((hS.blk d1).cell d3) (wl (su (u_lensl underlying117 (et (k90 d4))) (dt (q90 p5)) (st (nw (cblock ?_))))))))))
 replace hS:=hS.drop (Rm.s Rm.z)
 refine cloopE ([6]++rg 9 2++rg 97 12) (by decide) (fun n m w=>∃ μx i73 i74,m=(yK6 (yO1 6 (yK2 (yO2 9 (yK50 (yK20 (yK10 (yK5 (.i (.int .i64 i73)::(yO10 97 (yO2 107 [])))))))))))∧r2_expr_l1 self p_2 p_3 n i73 i74=some r∧Le μ10 μx∧Sq μx w0 w (.blk b1 104 [.int .i64 i74]::rsF)) (by rintro _ _ _ ⟨_,_,_,rfl,_⟩; rfl) _ _ (aK6 (aO1 (aK2 (aO2 (aK50 (aK20 (aK10 (aK5 (aI (aO10 (aO2 aZ))))))))))) ⟨_,0,r8.2,rfl,h,Le.r,hS⟩ ?_
 rintro n_1 _ t w12 ⟨μ11,i73,i74,rfl,h,le95,hS⟩
 rcases n_1 with _|n_1
 cases h
 unfold r2_expr_l1 at h
 refine cnrm (mK6 (mO1 (mK2 (mO2 (mK50 (mK20 (mK10 (mK5 (mi (mO10 (mO2 mz))))))))))) (nz (st (ny ?_)))
 refine zCd h ?_ ?_
 intro h96 h
 refine cskip (xn (cseq (cblock (nz ?_))))
 obtain ⟨x97,g98,h⟩:=bI h
 obtain ⟨b99,o100,cs101,e102,f103,m104⟩:=SlR.elem (m5.up (le10.t (le14.t (le24.t (le43.t (le47.t (le51.t le95))))))) g98
 obtain ⟨a105,c106,rfl,m107⟩:=TExpr.o m104
 refine wl (su (u_iax underlying117 ti119 (et (k90 d4)) (et (k90 d6)) e102) (dt (q90 p8)) (lds (f103 _ hS.a) rfl ?_))
 refine wl (s_alloc ti119 hS ?_); clear hS; intro b108 w13 hb109 hS; refine po ?_
 refine wl (s_storeA ti119 (et d9) (et (k90 d9)) rfl rfl hS d0 rfl p0 dn ?_)
 clear hS; intro w14 hS
 refine nx (st (lds (hS.blk d0).cells rfl (st ?_)))
 obtain ⟨i110,g111,h⟩:=bI h
 refine wl (su (u_addc (et (k100 d2)) ec g111) (dt (q100 p3)) ?_)
 obtain ⟨r112,g113,h⟩:=bI h
 replace hS:=hS.bg Y1
 refine ca (IH.r2_expr (hg.t (le10.t (le14.t (le24.t (le43.t (le47.t (le51.t le95))))))) m107 g113 hS) ?_
 rintro _ w15 ⟨μ12,rfl,le114,hS⟩
 refine po (st (nx ?_))
 iterate 2 refine st ?_
 refine nw ?_
 refine zCd h ?_ ?_
 intro h115 h
 refine nz ?_
 iterate 2 refine st ?_
 refine nw (cret ?_)
 refine (fun h=>br (xr (xr (br (xr h))))) ?_
 obtain rfl:=oI h
 refine ret1 rfl d6 ?_
 replace hS:=hS.drop (Rm.s Rm.z)
 exact ⟨_,rfl,(le10.t (le14.t (le24.t (le43.t (le47.t (le51.t (le95.t le114))))))),hS⟩
 intro h115 h
 refine cskip ?_
 refine (fun h=>bn (xn h)) ?_
 refine creg ?_
 obtain ⟨i116,g117,h⟩:=bI h
 refine wl (su (u_addc (et (k90 d6)) ec g117) (dt (q100 p8)) (st (wnil (xl ?_))))
 replace hS:=hS.drop (Rm.s Rm.z)
 exact ⟨n_1,_,_,rfl,(aK6 (aO1 (aK2 (aO2 (aK50 (aK20 (aK10 (aK5 (aI (aO10 (aO2 aZ))))))))))),⟨_,i116,r112.2,rfl,h,(le95.t le114),hS⟩,Nat.lt_succ_self _⟩
 intro h96 h
 refine cexit ?_
 refine (fun h=>xe (xe (bh h))) ?_
 refine xn (nz (st (nw (cret ?_))))
 obtain rfl:=oI h
 refine ret1 rfl d6 ?_
 exact ⟨_,rfl,(le10.t (le14.t (le24.t (le43.t (le47.t (le51.t le95)))))),hS⟩
theorem R2E_sound:∀ n,R2ESound (R2E_run n)
  | 0=>⟨(by intro; intros; rename_i h _; cases h)⟩
  | n+1=>⟨r2_expr_w (R2E_sound n)⟩
def r2_stats_S (q:Int→(List TStat)→Int→Option (Int×Int)):Prop:=∀ {μ0:M} {w0 w:World} {rsF:List Res} (hg:Le Gm μ0) {b1:Nat} {n_2:Int} {p_2:List TStat} {a3:Option Addr} {c4:Nat} {p_3:Int} {r:Int×Int} (m5:Sl μ0 a3 c4 p_2) (h:q n_2 p_2 p_3=some r) (hS:Sq μ0 w0 w (.blk b1 104 [.int .i64 n_2]::rsF)),CallsV prog 64 [.pointer (some ⟨b1,0,none⟩),.slice a3 p_2.length c4,.int .i64 p_3] w (fun v w'=>∃ (μ':M) ,v=.int .i64 r.1∧Le μ0 μ'∧Sq μ' w0 w' (.blk b1 104 [.int .i64 r.2]::rsF))
structure R2SSound (sf:R2S):Prop where
  r2_stats:r2_stats_S sf.r2_stats
theorem r2_stats_w {fu:Nat} {self:R2S} (IH:R2SSound self):r2_stats_S (r2_stats fu self):=by
 intro μ0 w0 w rsF hg b1 n_2 p_2 a3 c4 p_3 r m5 h hS
 unfold r2_stats at h
 refine enter func64 rfl (frm:=_::_::_::u1 (u20 (u20 (u50 [])))) rfl (nz (st (ny (nz (st (wl (su (u_lensl underlying57 (et (k10 d2))) (dt (q10 p3)) (st (nw ?_)))))))))
 refine zCd h ?_ ?_
 intro h6 h
 refine nz (st (nw (cret (xr ?_))))
 obtain rfl:=oI h
 refine ret1 rfl d6 ?_
 exact ⟨_,rfl,Le.r,hS⟩
 intro h6 h
 refine cskip (xn (cseq (nz (st (wl (su (u_lensl underlying57 (et (k10 d5))) (dt (q10 p6)) (st (nw (cblock ?_)))))))))
 refine cloopE ([6]++rg 8 4++rg 18 76) (by decide +kernel) (fun n m w=>∃ μx i65 i66,m=(yK6 (yO1 6 (yK1 (yO4 8 (yK5 (.i (.int .i64 i65)::(yO50 18 (yO20 68 (yO6 88 [])))))))))∧r2_stats_l1 fu self p_2 p_3 n i65 i66=some r∧Le μ0 μx∧Sq μx w0 w (.blk b1 104 [.int .i64 i66]::rsF)) (by rintro _ _ _ ⟨_,_,_,rfl,_⟩; rfl) _ _ (aK6 (aO1 (aK1 (aO4 (aK5 (aI (aO50 (aO20 (aO6 aZ))))))))) ⟨_,0,n_2,rfl,h,Le.r,hS⟩ ?_
 rintro n_1 _ t w1 ⟨μ1,i65,i66,rfl,h,le125,hS⟩
 rcases n_1 with _|n_1
 cases h
 unfold r2_stats_l1 at h
 refine cnrm (mK6 (mO1 (mK1 (mO4 (mK5 (mi (mO50 (mO20 (mO6 mz))))))))) (nz (st (ny ?_)))
 refine zCd h ?_ ?_
 intro h126 h
 refine cskip (xn (cseq (cblock (nz ?_))))
 obtain ⟨x127,g128,h⟩:=bI h
 obtain ⟨b129,o130,cs131,e132,f133,m134⟩:=SlR.elem (m5.up le125) g128
 obtain ⟨a135,c136,a138,c139,a141,c142,rfl,m137,m140,m143⟩:=TStat.o m134
 refine wl (su (u_iax underlying57 ti121 (et (k10 d5)) (et (k10 d7)) e132) (dt (q10 p9)) (lds (f133 _ hS.a) rfl ?_))
 refine wl (s_alloc ti121 hS ?_); clear hS; intro b144 w2 hb145 hS; refine po ?_
 refine wl (s_storeA ti121 (et d8) (et (k20 d0)) rfl rfl hS d0 rfl p0 dn ?_)
 clear hS; intro w3 hS
 refine ny (nz ?_)
 iterate 2 refine st ?_
 obtain ⟨r146,g147,h⟩:=bI h
 replace hS:=hS.bg Y1
 refine ca (r2_more_w (hg.t le125) g147 hS) ?_
 rintro _ w4 ⟨μ2,rfl,le148,hS⟩
 refine po (st (nw ?_))
 refine zCe h ?_ ?_
 intro h149 h
 refine nz (st (nw (cret ?_)))
 refine (fun h=>xr (br (xr (xr (br (xr h)))))) ?_
 obtain rfl:=oI h
 refine ret1 rfl d6 ?_
 replace hS:=hS.drop (Rm.s Rm.z)
 exact ⟨_,rfl,(le125.t le148),hS⟩
 intro h149 h
 refine cskip (xn (cseq (cseq ?_)))
 refine ccutE (rg 25 7) (by decide) (fun m w=>∃ μx b150,m=(yK20 (yK5 (yO7 25 (.i (.bool b150)::[]))))∧r2_stats_j1 fu self p_3 i65 x127 r146 (r2_stats_l1 fu self p_2 p_3 n_1) b150=some r∧Le μ2 μx∧Sq μx w0 w (.blk b1 104 [.int .i64 r146.2]::.blk b144 121 [.int .i64 x127.Kind,S x127.Name,.int .i64 x127.X.Kind,.int .i64 x127.X.N,S x127.X.Name,.slice a135 x127.X.Kids.length c136,.slice a138 x127.Body.length c139,.slice a141 x127.Else.length c142]::rsF)) (by rintro _ _ ⟨_,_,rfl,_⟩; rfl) ?_ ?_
 refine creg (st (ld ((hS.blk d1).cell d0) ?_))
 iterate 2 refine st ?_
 refine zWd 28 h ?_ ?_
 intro h151 h
 refine sn rfl rfl (sn rfl rfl (sn rfl rfl (st (wnil (xl ?_)))))
 exact ⟨_,_,rfl,(aK20 (aK5 (aO7 (aI aZ)))),_,true,rfl,h,Le.r,hS⟩
 intro h151 h
 refine sy rfl (wy rfl (k20 d8) (s_load ti3 (et (k20 d9)) ((hS.blk d1).cell d0) (dt (q30 p0)) (sy rfl (st (wnil (xl ?_))))))
 exact ⟨_,_,rfl,(aK20 (aK5 (aO7 (aI aZ)))),_,(decide ((9:Int)<x127.Kind)),rfl,h,Le.r,hS⟩
 rintro _ t w5 ⟨μ3,b150,rfl,h,le152,hS⟩
 unfold r2_stats_j1 at h
 refine nrm (mK20 (mK5 (mO7 (mi mz)))) (xn ?_)
 refine zCb h ?_ ?_
 intro h153 h
 refine nz (st (nw (cret ?_)))
 refine (fun h=>xr (br (xr (xr (br (xr h)))))) ?_
 obtain rfl:=oI h
 refine ret1 rfl d6 ?_
 replace hS:=hS.drop (Rm.s Rm.z)
 exact ⟨_,rfl,(le125.t (le148.t le152)),hS⟩
 intro h153 h
 refine cskip (xn (cseq (cseq ?_)))
 refine ccutE (rg 33 18) (by decide) (fun m w=>∃ μx b154,m=(yK20 (yK10 (yK3 (yO10 33 (yO8 43 (.i (.bool b154)::[]))))))∧r2_stats_j2 fu self p_3 i65 x127 r146 (r2_stats_l1 fu self p_2 p_3 n_1) b154=some r∧Le μ3 μx∧Sq μx w0 w (.blk b1 104 [.int .i64 r146.2]::.blk b144 121 [.int .i64 x127.Kind,S x127.Name,.int .i64 x127.X.Kind,.int .i64 x127.X.N,S x127.X.Name,.slice a135 x127.X.Kids.length c136,.slice a138 x127.Body.length c139,.slice a141 x127.Else.length c142]::rsF)) (by rintro _ _ ⟨_,_,rfl,_⟩; rfl) ?_ ?_
 refine creg (st (ld ((hS.blk d1).cell d0) ?_))
 iterate 2 refine st ?_
 refine zWd 36 h ?_ ?_
 intro h155 h
 refine sn rfl rfl (sn rfl rfl (sn rfl rfl ?_))
 iterate 2 refine st ?_
 refine sn rfl rfl (sn rfl rfl (sn rfl rfl ?_))
 iterate 2 refine st ?_
 refine sy rfl (wy rfl (k40 d6) (s_load ti9 (et (k40 d7)) ((hS.blk d1).cell d1) (dt (q40 p8)) ?_))
 obtain ⟨r156,g157,h⟩:=bI h
 refine wy rfl (k40 d6) (s_callv isfn62 ef (e1 (et (k40 d8)) e0) (r1_named_w (hg.t (le125.t (le148.t le152))) g157 hS) ?_)
 rintro _ w6 ⟨μ4,rfl,le158,hS⟩
 refine po (sy rfl (st (wnil (xl ?_))))
 exact ⟨_,_,rfl,(aK20 (aK10 (aK3 (aO10 (aO8 (aI aZ)))))),_,(!r156),rfl,h,le158,hS⟩
 intro h155 h
 refine sy rfl (wy rfl (k30 d6) (s_load ti3 (et (k30 d7)) ((hS.blk d1).cell d0) (dt (q30 p8)) (sy rfl ?_)))
 iterate 2 refine st ?_
 refine zWd 41 h ?_ ?_
 intro h159 h
 refine sn rfl rfl (sn rfl rfl (sn rfl rfl ?_))
 iterate 2 refine st ?_
 refine sy rfl (wy rfl (k40 d6) (s_load ti9 (et (k40 d7)) ((hS.blk d1).cell d1) (dt (q40 p8)) ?_))
 obtain ⟨r160,g161,h⟩:=bI h
 refine wy rfl (k40 d6) (s_callv isfn62 ef (e1 (et (k40 d8)) e0) (r1_named_w (hg.t (le125.t (le148.t le152))) g161 hS) ?_)
 rintro _ w7 ⟨μ5,rfl,le162,hS⟩
 refine po (sy rfl (st (wnil (xl ?_))))
 exact ⟨_,_,rfl,(aK20 (aK10 (aK3 (aO10 (aO8 (aI aZ)))))),_,(!r160),rfl,h,le162,hS⟩
 intro h159 h
 refine sy rfl (wy rfl (k40 d1) (s_load ti3 (et (k40 d2)) ((hS.blk d1).cell d0) (dt (q40 p3)) (sy rfl ?_)))
 iterate 2 refine st ?_
 refine zWd 46 h ?_ ?_
 intro h163 h
 refine sy rfl (wy rfl (k40 d6) (s_load ti9 (et (k40 d7)) ((hS.blk d1).cell d1) (dt (q40 p8)) ?_))
 obtain ⟨r164,g165,h⟩:=bI h
 refine wy rfl (k40 d6) (s_callv isfn62 ef (e1 (et (k40 d8)) e0) (r1_named_w (hg.t (le125.t (le148.t le152))) g165 hS) ?_)
 rintro _ w8 ⟨μ6,rfl,le166,hS⟩
 refine po (sy rfl (st (wnil (xl ?_))))
 exact ⟨_,_,rfl,(aK20 (aK10 (aK3 (aO10 (aO8 (aI aZ)))))),_,(!r164),rfl,h,le166,hS⟩
 intro h163 h
 refine sn rfl rfl (sn rfl rfl (sn rfl rfl (sn rfl rfl (st (wnil (xl ?_))))))
 exact ⟨_,_,rfl,(aK20 (aK10 (aK3 (aO10 (aO8 (aI aZ)))))),_,false,rfl,h,Le.r,hS⟩
 rintro _ t w9 ⟨μ7,b154,rfl,h,le167,hS⟩
 unfold r2_stats_j2 at h
 refine nrm (mK20 (mK10 (mK3 (mO10 (mO8 (mi mz)))))) (xn ?_)
 refine zCb h ?_ ?_
 intro h168 h
 refine nz (st (nw (cret ?_)))
 refine (fun h=>xr (br (xr (xr (br (xr h)))))) ?_
 obtain rfl:=oI h
 refine ret1 rfl d6 ?_
 replace hS:=hS.drop (Rm.s Rm.z)
 exact ⟨_,rfl,(le125.t (le148.t (le152.t le167))),hS⟩
 intro h168 h
 refine cskip (xn (cseq (nz (st (ld ((hS.blk d1).cell d0) (st (nw ?_)))))))
 refine zCd h ?_ ?_
 intro h169 h
 refine cexit ?_
 refine (fun h=>xe (bh h)) ?_
 refine xn (creg ?_)
 obtain ⟨i170,g171,h⟩:=bI h
 refine wl (su (u_addc (et (k10 d7)) ec g171) (dt (q90 p3)) (st (wnil (xl ?_))))
 replace hS:=hS.drop (Rm.s Rm.z)
 exact ⟨n_1,_,_,rfl,(aK6 (aO1 (aK1 (aO4 (aK5 (aI (aO50 (aO20 (aO6 aZ))))))))),⟨_,i170,r146.2,rfl,h,(le125.t (le148.t (le152.t le167))),hS⟩,Nat.lt_succ_self _⟩
 intro h169 h
 refine cskip (xn (cseq (nz ?_)))
 iterate 2 refine st ?_
 refine lds ((hS.blk d1).cellsAt (Sb.s d2 (Sb.s d3 (Sb.s d4 (Sb.s d5 Sb.z))))) rfl (st ?_)
 obtain ⟨i172,g173,h⟩:=bI h
 refine wl (su (u_addc (et (k50 d8)) ec g173) (dt (q50 p9)) ?_)
 obtain ⟨r174,g175,h⟩:=bI h
 refine ca ((R2E_sound fu).r2_expr (hg.t (le125.t (le148.t (le152.t le167)))) (m137.up (le148.t (le152.t le167))) g175 hS) ?_
 rintro _ w10 ⟨μ8,rfl,le176,hS⟩
 refine po (st (nx ?_))
 iterate 2 refine st ?_
 refine nw ?_
 refine zCd h ?_ ?_
 intro h177 h
 refine nz ?_
 iterate 2 refine st ?_
 refine nw (cret ?_)
 refine (fun h=>xr (br (xr (xr (br (xr h)))))) ?_
 obtain rfl:=oI h
 refine ret1 rfl d6 ?_
 replace hS:=hS.drop (Rm.s Rm.z)
 exact ⟨_,rfl,(le125.t (le148.t (le152.t (le167.t le176)))),hS⟩
 intro h177 h
 refine cskip (xn (cseq (cseq ?_)))
 refine ccutE (rg 64 7) (by decide) (fun m w=>∃ μx b178,m=(yK50 (yK10 (yK4 (yO7 64 (.i (.bool b178)::[])))))∧r2_stats_j3 self p_3 i65 x127 r174 (r2_stats_l1 fu self p_2 p_3 n_1) b178=some r∧Le μ8 μx∧Sq μx w0 w (.blk b1 104 [.int .i64 r174.2]::.blk b144 121 [.int .i64 x127.Kind,S x127.Name,.int .i64 x127.X.Kind,.int .i64 x127.X.N,S x127.X.Name,.slice a135 x127.X.Kids.length c136,.slice a138 x127.Body.length c139,.slice a141 x127.Else.length c142]::rsF)) (by rintro _ _ ⟨_,_,rfl,_⟩; rfl) ?_ ?_
 refine creg (st (ld ((hS.blk d1).cell d0) ?_))
 iterate 2 refine st ?_
 refine zWd 67 h ?_ ?_
 intro h179 h
 refine sn rfl rfl (sn rfl rfl (sn rfl rfl (st (wnil (xl ?_)))))
 exact ⟨_,_,rfl,(aK50 (aK10 (aK4 (aO7 (aI aZ))))),_,true,rfl,h,Le.r,hS⟩
 intro h179 h
 refine sy rfl (wy rfl (k60 d7) (s_load ti3 (et (k60 d8)) ((hS.blk d1).cell d0) (dt (q60 p9)) (sy rfl (st (wnil (xl ?_))))))
 exact ⟨_,_,rfl,(aK50 (aK10 (aK4 (aO7 (aI aZ))))),_,(decide (x127.Kind=4)),rfl,h,Le.r,hS⟩
 rintro _ t w11 ⟨μ9,b178,rfl,h,le180,hS⟩
 unfold r2_stats_j3 at h
 refine nrm (mK50 (mK10 (mK4 (mO7 (mi mz))))) (xn ?_)
 refine ccutE ([6]++[10]++rg 72 9) (by decide) (fun m w=>∃ μx i181,m=(yK6 (yO1 6 (yK3 (yO1 10 (yK50 (yK10 (yK1 (yO9 72 []))))))))∧r2_stats_j4 self p_3 i65 x127 (r2_stats_l1 fu self p_2 p_3 n_1) i181=some r∧Le μ9 μx∧Sq μx w0 w (.blk b1 104 [.int .i64 i181]::.blk b144 121 [.int .i64 x127.Kind,S x127.Name,.int .i64 x127.X.Kind,.int .i64 x127.X.N,S x127.X.Name,.slice a135 x127.X.Kids.length c136,.slice a138 x127.Body.length c139,.slice a141 x127.Else.length c142]::rsF)) (by rintro _ _ ⟨_,_,rfl,_⟩; rfl) ?_ ?_
 refine zCb h ?_ ?_
 intro h182 h
 refine nz ?_
 iterate 2 refine st ?_
 refine ld ((hS.blk d1).cell d6) (st ?_)
 obtain ⟨i183,g184,h⟩:=bI h
 refine wl (su (u_addc (et (k70 d5)) ec g184) (dt (q70 p6)) ?_)
 obtain ⟨r185,g186,h⟩:=bI h
 refine ca (IH.r2_stats (hg.t (le125.t (le148.t (le152.t (le167.t (le176.t le180)))))) (m140.up (le148.t (le152.t (le167.t (le176.t le180))))) g186 hS) ?_
 rintro _ w12 ⟨μ10,rfl,le187,hS⟩
 refine po (st (nx ?_))
 iterate 2 refine st ?_
 refine nw ?_
 refine zCd h ?_ ?_
 intro h188 h
 refine nz ?_
 iterate 2 refine st ?_
 refine nw (cret ((fun h=>xr (xr (br (xr (xr (br (xr h))))))) ?_))
 obtain rfl:=oI h
 refine ret1 rfl d6 ?_
 replace hS:=hS.drop (Rm.s Rm.z)
 exact ⟨_,rfl,(le125.t (le148.t (le152.t (le167.t (le176.t (le180.t le187)))))),hS⟩
 intro h188 h
 refine cskip (xl ?_)
 exact ⟨_,_,rfl,(aK6 (aO1 (aK3 (aO1 (aK50 (aK10 (aK1 (aO9 aZ)))))))),_,r185.2,rfl,h,le187,hS⟩
 intro h182 h
 refine cskip (xl ?_)
 exact ⟨_,_,rfl,(aK6 (aO1 (aK3 (aO1 (aK50 (aK10 (aK1 (aO9 aZ)))))))),_,r174.2,rfl,h,Le.r,hS⟩
 rintro _ t w13 ⟨μ11,i181,rfl,h,le189,hS⟩
 unfold r2_stats_j4 at h
 refine nrm (mK6 (mO1 (mK3 (mO1 (mK50 (mK10 (mK1 (mO9 mz)))))))) (xn (nz (st (ld ((hS.blk d1).cell d0) (st (nw ?_))))))
 refine zCd h ?_ ?_
 intro h190 h
 refine nz ?_
 iterate 2 refine st ?_
 refine ld ((hS.blk d1).cell d7) (st ?_)
 obtain ⟨i191,g192,h⟩:=bI h
 refine wl (su (u_addc (et (k80 d7)) ec g192) (dt (q80 p8)) ?_)
 obtain ⟨r193,g194,h⟩:=bI h
 refine ca (IH.r2_stats (hg.t (le125.t (le148.t (le152.t (le167.t (le176.t (le180.t le189))))))) (m143.up (le148.t (le152.t (le167.t (le176.t (le180.t le189)))))) g194 hS) ?_
 rintro _ w14 ⟨μ12,rfl,le195,hS⟩
 refine po (st (nx ?_))
 iterate 2 refine st ?_
 refine nw ?_
 refine zCd h ?_ ?_
 intro h196 h
 refine nz ?_
 iterate 2 refine st ?_
 refine nw (cret ?_)
 refine (fun h=>br (xr (xr (br (xr h))))) ?_
 obtain rfl:=oI h
 refine ret1 rfl d6 ?_
 replace hS:=hS.drop (Rm.s Rm.z)
 exact ⟨_,rfl,(le125.t (le148.t (le152.t (le167.t (le176.t (le180.t (le189.t le195))))))),hS⟩
 intro h196 h
 refine cskip ?_
 refine (fun h=>bn (xn h)) ?_
 refine creg ?_
 obtain ⟨i197,g198,h⟩:=bI h
 refine wl (su (u_addc (et (k10 d7)) ec g198) (dt (q90 p3)) (st (wnil (xl ?_))))
 replace hS:=hS.drop (Rm.s Rm.z)
 exact ⟨n_1,_,_,rfl,(aK6 (aO1 (aK1 (aO4 (aK5 (aI (aO50 (aO20 (aO6 aZ))))))))),⟨_,i197,r193.2,rfl,h,(le125.t (le148.t (le152.t (le167.t (le176.t (le180.t (le189.t le195))))))),hS⟩,Nat.lt_succ_self _⟩
 intro h190 h
 refine cskip ?_
 refine (fun h=>bn (xn h)) ?_
 refine creg ?_
 obtain ⟨i199,g200,h⟩:=bI h
 refine wl (su (u_addc (et (k10 d7)) ec g200) (dt (q90 p3)) (st (wnil (xl ?_))))
 replace hS:=hS.drop (Rm.s Rm.z)
 exact ⟨n_1,_,_,rfl,(aK6 (aO1 (aK1 (aO4 (aK5 (aI (aO50 (aO20 (aO6 aZ))))))))),⟨_,i199,i181,rfl,h,(le125.t (le148.t (le152.t (le167.t (le176.t (le180.t le189)))))),hS⟩,Nat.lt_succ_self _⟩
 intro h126 h
 refine cexit ?_
 refine (fun h=>xe (xe (bh h))) ?_
 refine xn (nz (st (nw (cret ?_))))
 obtain rfl:=oI h
 refine ret1 rfl d6 ?_
 exact ⟨_,rfl,le125,hS⟩
theorem R2S_sound:∀ n,R2SSound (R2S_run n)
  | 0=>⟨(by intro; intros; rename_i h _; cases h)⟩
  | n+1=>⟨r2_stats_w (R2S_sound n)⟩
theorem r2_def_w (hg:Le Gm μ0) {n_2:Int} {p_2:TDef} {r:Int×Int} (m5:Sl μ0 a3 c4 p_2.Params) (m8:Sl μ0 a6 c7 p_2.Body) (h:r2_def fu n_2 p_2=some r) (hS:Sq μ0 w0 w (.blk b1 104 [.int .i64 n_2]::rsF)):CallsV prog 41 [.pointer (some ⟨b1,0,none⟩),.agg ⟨[.int .i64 p_2.Kind,S p_2.Name,.int .i64 p_2.Typ.Kind,S p_2.Typ.Gen,.int .i64 p_2.Takes.Kind,S p_2.Takes.Gen,.int .i64 p_2.Cap,.slice a3 p_2.Params.length c4,.slice a6 p_2.Body.length c7]⟩] w (fun v w'=>∃ (μ':M) ,v=.int .i64 r.1∧Le μ0 μ'∧Sq μ' w0 w' (.blk b1 104 [.int .i64 r.2]::rsF)):=by
 unfold r2_def at h
 refine enter func41 rfl (frm:=_::_::u1 (u20 (u20 (u50 [])))) rfl (nz ?_)
 refine wl (s_box (et d1) rfl hS ?_); clear hS; intro b9 w1 hb10 hS; refine po ?_
 refine st (ny (nz (st ?_)))
 obtain ⟨r11,g12,h⟩:=bI h
 replace hS:=hS.bg Y1
 refine ca (r2_more_w hg g12 hS) ?_
 rintro _ w2 ⟨μ1,rfl,le13,hS⟩
 refine po (st (nw ?_))
 refine zCe h ?_ ?_
 intro h14 h
 refine nz (st (nw (cret (xr ?_))))
 obtain rfl:=oI h
 refine ret1 rfl d4 ?_
 replace hS:=hS.drop (Rm.s Rm.z)
 exact ⟨_,rfl,le13,hS⟩
 intro h14 h
 refine cskip (xn (cseq (cseq ?_)))
 refine ccutE (rg 13 7) (by decide) (fun m w=>∃ μx b15,m=(yK10 (yK3 (yO7 13 (.i (.bool b15)::[]))))∧r2_def_j1 fu p_2 r11 b15=some r∧Le μ1 μx∧Sq μx w0 w (.blk b1 104 [.int .i64 r11.2]::.blk b9 59 [.int .i64 p_2.Kind,S p_2.Name,.int .i64 p_2.Typ.Kind,S p_2.Typ.Gen,.int .i64 p_2.Takes.Kind,S p_2.Takes.Gen,.int .i64 p_2.Cap,.slice a3 p_2.Params.length c4,.slice a6 p_2.Body.length c7]::rsF)) (by rintro _ _ ⟨_,_,rfl,_⟩; rfl) ?_ ?_
 refine creg (st (ld ((hS.blk d1).cell d0) ?_))
 iterate 2 refine st ?_
 refine zWd 16 h ?_ ?_
 intro h16 h
 refine sn rfl rfl (sn rfl rfl (sn rfl rfl (st (wnil (xl ?_)))))
 exact ⟨_,_,rfl,(aK10 (aK3 (aO7 (aI aZ)))),_,true,rfl,h,Le.r,hS⟩
 intro h16 h
 refine sy rfl (wy rfl (k10 d6) (s_load ti3 (et (k10 d7)) ((hS.blk d1).cell d0) (dt (q10 p8)) (sy rfl (st (wnil (xl ?_))))))
 exact ⟨_,_,rfl,(aK10 (aK3 (aO7 (aI aZ)))),_,(decide ((4:Int)<p_2.Kind)),rfl,h,Le.r,hS⟩
 rintro _ t w3 ⟨μ2,b15,rfl,h,le17,hS⟩
 unfold r2_def_j1 at h
 refine nrm (mK10 (mK3 (mO7 (mi mz)))) (xn ?_)
 refine zCb h ?_ ?_
 intro h18 h
 refine nz (st (nw (cret (xr ?_))))
 obtain rfl:=oI h
 refine ret1 rfl d4 ?_
 replace hS:=hS.drop (Rm.s Rm.z)
 exact ⟨_,rfl,(le13.t le17),hS⟩
 intro h18 h
 refine cskip (xn (cseq (nz (st (ld ((hS.blk d1).cell d1) ?_)))))
 obtain ⟨r19,g20,h⟩:=bI h
 refine ca (r1_named_w (hg.t (le13.t le17)) g20 hS) ?_
 rintro _ w4 ⟨μ3,rfl,le21,hS⟩
 refine po (st (nw ?_))
 refine zCe h ?_ ?_
 intro h22 h
 refine nz (st (nw (cret (xr ?_))))
 obtain rfl:=oI h
 refine ret1 rfl d4 ?_
 replace hS:=hS.drop (Rm.s Rm.z)
 exact ⟨_,rfl,(le13.t (le17.t le21)),hS⟩
 intro h22 h
 refine cskip (xn (cseq (cseq ?_)))
 refine ccutE (rg 25 7) (by decide) (fun m w=>∃ μx b23,m=(yK20 (yK5 (yO7 25 (.i (.bool b23)::[]))))∧r2_def_j2 fu p_2 r11 b23=some r∧Le μ3 μx∧Sq μx w0 w (.blk b1 104 [.int .i64 r11.2]::.blk b9 59 [.int .i64 p_2.Kind,S p_2.Name,.int .i64 p_2.Typ.Kind,S p_2.Typ.Gen,.int .i64 p_2.Takes.Kind,S p_2.Takes.Gen,.int .i64 p_2.Cap,.slice a3 p_2.Params.length c4,.slice a6 p_2.Body.length c7]::rsF)) (by rintro _ _ ⟨_,_,rfl,_⟩; rfl) ?_ ?_
 refine creg (st (ld ((hS.blk d1).cell d0) ?_))
 iterate 2 refine st ?_
 refine zWd 28 h ?_ ?_
 intro h24 h
 refine sn rfl rfl (sn rfl rfl (sn rfl rfl (st (wnil (xl ?_)))))
 exact ⟨_,_,rfl,(aK20 (aK5 (aO7 (aI aZ)))),_,true,rfl,h,Le.r,hS⟩
 intro h24 h
 refine sy rfl (wy rfl (k20 d8) (s_load ti3 (et (k20 d9)) ((hS.blk d1).cell d0) (dt (q30 p0)) (sy rfl (st (wnil (xl ?_))))))
 exact ⟨_,_,rfl,(aK20 (aK5 (aO7 (aI aZ)))),_,(decide (p_2.Kind=3)),rfl,h,Le.r,hS⟩
 rintro _ t w5 ⟨μ4,b23,rfl,h,le25,hS⟩
 unfold r2_def_j2 at h
 refine nrm (mK20 (mK5 (mO7 (mi mz)))) (xn ?_)
 refine ccutE ([4]++rg 6 2++rg 33 22) (by decide +kernel) (fun m w=>∃ (μx:M) ,m=(yK4 (yO1 4 (yK1 (yO2 6 (yK20 (yK5 (yO20 33 (yO2 53 []))))))))∧r2_def_j3 fu p_2 r11 =some r∧Le μ4 μx∧Sq μx w0 w (.blk b1 104 [.int .i64 r11.2]::.blk b9 59 [.int .i64 p_2.Kind,S p_2.Name,.int .i64 p_2.Typ.Kind,S p_2.Typ.Gen,.int .i64 p_2.Takes.Kind,S p_2.Takes.Gen,.int .i64 p_2.Cap,.slice a3 p_2.Params.length c4,.slice a6 p_2.Body.length c7]::rsF)) (by rintro _ _ ⟨_,rfl,_⟩; rfl) ?_ ?_
 refine zCb h ?_ ?_
 intro h26 h
 refine cseq (nz (st (ld ((hS.blk d1).cell d7) (wl (su (u_lensl underlying56 (et (k30 d4))) (dt (q30 p5)) (st (nw ?_)))))))
 refine zCd h ?_ ?_
 intro h27 h
 refine nz (st (nw (cret ?_)))
 refine (fun h=>xr (xr (xr h))) ?_
 obtain rfl:=oI h
 refine ret1 rfl d4 ?_
 replace hS:=hS.drop (Rm.s Rm.z)
 exact ⟨_,rfl,(le13.t (le17.t (le21.t le25))),hS⟩
 intro h27 h
 refine cskip (xn (nz (st (ld ((hS.blk d1).cell d7) (wl (su (u_lensl underlying56 (et (k30 d8))) (dt (q30 p9)) (st (nw (cblock ?_)))))))))
 refine cloopE ([4]++rg 6 2++rg 41 14) (by decide) (fun n m w=>∃ μx i46,m=(yK4 (yO1 4 (yK1 (yO2 6 (yK20 (yK10 (yK2 (.i (.int .i64 i46)::(yO10 41 (yO4 51 []))))))))))∧r2_def_l1 fu p_2 r11 n i46=some r∧Le μ4 μx∧Sq μx w0 w (.blk b1 104 [.int .i64 r11.2]::.blk b9 59 [.int .i64 p_2.Kind,S p_2.Name,.int .i64 p_2.Typ.Kind,S p_2.Typ.Gen,.int .i64 p_2.Takes.Kind,S p_2.Takes.Gen,.int .i64 p_2.Cap,.slice a3 p_2.Params.length c4,.slice a6 p_2.Body.length c7]::rsF)) (by rintro _ _ _ ⟨_,_,rfl,_⟩; rfl) _ _ (aK4 (aO1 (aK1 (aO2 (aK20 (aK10 (aK2 (aI (aO10 (aO4 aZ)))))))))) ⟨_,0,rfl,h,Le.r,hS⟩ ?_
 rintro n_1 _ t w6 ⟨μ5,i46,rfl,h,le65,hS⟩
 rcases n_1 with _|n_1
 cases h
 unfold r2_def_l1 at h
 refine cnrm (mK4 (mO1 (mK1 (mO2 (mK20 (mK10 (mK2 (mi (mO10 (mO4 mz)))))))))) (nz (st (ny ?_)))
 refine zCd h ?_ ?_
 intro h66 h
 refine cskip (xn (cseq (cblock (nz ?_))))
 obtain ⟨x67,g68,h⟩:=bI h
 obtain ⟨b69,o70,cs71,e72,f73,m74⟩:=SlR.elem (m5.up (le13.t (le17.t (le21.t (le25.t le65))))) g68
 obtain rfl:=m74
 refine wl (su (u_iax underlying56 ti107 (et (k30 d8)) (et (k40 d0)) e72) (dt (q40 p2)) (lds (f73 _ hS.a) rfl ?_))
 refine wl (s_alloc ti107 hS ?_); clear hS; intro b75 w7 hb76 hS; refine po ?_
 refine wl (s_storeA ti107 (et d6) (et (k40 d3)) rfl rfl hS d0 rfl p0 dn ?_)
 clear hS; intro w8 hS
 refine ny (nz (st (ld ((hS.blk d0).cell d0) ?_)))
 obtain ⟨r77,g78,h⟩:=bI h
 refine ca (r1_named_w (hg.t (le13.t (le17.t (le21.t (le25.t le65))))) g78 hS) ?_
 rintro _ w9 ⟨μ6,rfl,le79,hS⟩
 refine po (st (nw ?_))
 refine zCe h ?_ ?_
 intro h80 h
 refine nz (st (nw (cret ((fun h=>xr (br (xr (xr (br (xr (xr h))))))) ?_))))
 obtain rfl:=oI h
 refine ret1 rfl d4 ?_
 replace hS:=(hS.drop Rm.z).drop (Rm.s Rm.z)
 exact ⟨_,rfl,(le13.t (le17.t (le21.t (le25.t (le65.t le79))))),hS⟩
 intro h80 h
 refine cskip (xn (nz (st (lds ((hS.blk d0).cellsAt (Sb.s d1 (Sb.s d2 Sb.z))) rfl ?_))))
 obtain ⟨r81,g82,h⟩:=bI h
 refine ca (r2_type_w (hg.t (le13.t (le17.t (le21.t (le25.t (le65.t le79)))))) g82 hS) ?_
 rintro _ w10 ⟨μ7,rfl,le83,hS⟩
 refine po (st (nx ?_))
 iterate 2 refine st ?_
 refine nw ?_
 refine zCd h ?_ ?_
 intro h84 h
 refine nz ?_
 iterate 2 refine st ?_
 refine nw (cret ?_)
 refine (fun h=>br (xr (xr (br (xr (xr h)))))) ?_
 obtain rfl:=oI h
 refine ret1 rfl d4 ?_
 replace hS:=(hS.drop Rm.z).drop (Rm.s Rm.z)
 exact ⟨_,rfl,(le13.t (le17.t (le21.t (le25.t (le65.t (le79.t le83)))))),hS⟩
 intro h84 h
 refine cskip ?_
 refine (fun h=>bn (xn h)) ?_
 refine creg ?_
 obtain ⟨i85,g86,h⟩:=bI h
 refine wl (su (u_addc (et (k40 d0)) ec g86) (dt (q50 p4)) (st (wnil (xl ?_))))
 replace hS:=hS.drop Rm.z
 exact ⟨n_1,_,_,rfl,(aK4 (aO1 (aK1 (aO2 (aK20 (aK10 (aK2 (aI (aO10 (aO4 aZ)))))))))),⟨_,i85,rfl,h,(le65.t (le79.t le83)),hS⟩,Nat.lt_succ_self _⟩
 intro h66 h
 refine cexit ?_
 refine (fun h=>xe (xe (bh h))) ?_
 refine xl ?_
 exact ⟨_,_,rfl,(aK4 (aO1 (aK1 (aO2 (aK20 (aK5 (aO20 (aO2 aZ)))))))),_,rfl,h,le65,hS⟩
 intro h26 h
 refine cskip (xl ?_)
 exact ⟨_,_,rfl,(aK4 (aO1 (aK1 (aO2 (aK20 (aK5 (aO20 (aO2 aZ)))))))),_,rfl,h,Le.r,hS⟩
 rintro _ t w11 ⟨μ8,rfl,h,le87,hS⟩
 unfold r2_def_j3 at h
 refine nrm (mK4 (mO1 (mK1 (mO2 (mK20 (mK5 (mO20 (mO2 mz)))))))) (xn (cseq (nz (st (ld ((hS.blk d1).cell d0) (st (nw ?_)))))))
 refine ccutE ([4]++[8]++rg 58 6) (by decide) (fun m w=>∃ (μx:M) ,m=(yK4 (yO1 4 (yK3 (yO1 8 (yK20 (yK20 (yK9 (yO6 58 []))))))))∧r2_def_j4 fu p_2 r11 =some r∧Le μ8 μx∧Sq μx w0 w (.blk b1 104 [.int .i64 r11.2]::.blk b9 59 [.int .i64 p_2.Kind,S p_2.Name,.int .i64 p_2.Typ.Kind,S p_2.Typ.Gen,.int .i64 p_2.Takes.Kind,S p_2.Takes.Gen,.int .i64 p_2.Cap,.slice a3 p_2.Params.length c4,.slice a6 p_2.Body.length c7]::rsF)) (by rintro _ _ ⟨_,rfl,_⟩; rfl) ?_ ?_
 refine zCd h ?_ ?_
 intro h88 h
 refine nz (st (lds ((hS.blk d1).cellsAt (Sb.s d4 (Sb.s d5 Sb.z))) rfl ?_))
 obtain ⟨r89,g90,h⟩:=bI h
 refine ca (r2_type_w (hg.t (le13.t (le17.t (le21.t (le25.t le87))))) g90 hS) ?_
 rintro _ w12 ⟨μ9,rfl,le91,hS⟩
 refine po (st (nx ?_))
 iterate 2 refine st ?_
 refine nw ?_
 refine zCd h ?_ ?_
 intro h92 h
 refine nz ?_
 iterate 2 refine st ?_
 refine nw (cret ?_)
 refine (fun h=>xr (xr h)) ?_
 obtain rfl:=oI h
 refine ret1 rfl d4 ?_
 replace hS:=hS.drop (Rm.s Rm.z)
 exact ⟨_,rfl,(le13.t (le17.t (le21.t (le25.t (le87.t le91))))),hS⟩
 intro h92 h
 refine cskip (xl ?_)
 exact ⟨_,_,rfl,(aK4 (aO1 (aK3 (aO1 (aK20 (aK20 (aK9 (aO6 aZ)))))))),_,rfl,h,le91,hS⟩
 intro h88 h
 refine cskip (xl ?_)
 exact ⟨_,_,rfl,(aK4 (aO1 (aK3 (aO1 (aK20 (aK20 (aK9 (aO6 aZ)))))))),_,rfl,h,Le.r,hS⟩
 rintro _ t w13 ⟨μ10,rfl,h,le93,hS⟩
 unfold r2_def_j4 at h
 refine nrm (mK4 (mO1 (mK3 (mO1 (mK20 (mK20 (mK9 (mO6 mz)))))))) (xn (cseq (nz (st (ld ((hS.blk d1).cell d0) (st (nw ?_)))))))
 refine ccutE ([4]++[9]++rg 67 6) (by decide) (fun m w=>∃ (μx:M) ,m=(yK4 (yO1 4 (yK4 (yO1 9 (yK50 (yK7 (yO6 67 [])))))))∧r2_def_j5 fu p_2 r11 =some r∧Le μ10 μx∧Sq μx w0 w (.blk b1 104 [.int .i64 r11.2]::.blk b9 59 [.int .i64 p_2.Kind,S p_2.Name,.int .i64 p_2.Typ.Kind,S p_2.Typ.Gen,.int .i64 p_2.Takes.Kind,S p_2.Takes.Gen,.int .i64 p_2.Cap,.slice a3 p_2.Params.length c4,.slice a6 p_2.Body.length c7]::rsF)) (by rintro _ _ ⟨_,rfl,_⟩; rfl) ?_ ?_
 refine zCd h ?_ ?_
 intro h94 h
 refine nz (st (lds ((hS.blk d1).cellsAt (Sb.s d2 (Sb.s d3 Sb.z))) rfl ?_))
 obtain ⟨r95,g96,h⟩:=bI h
 refine ca (r2_type_w (hg.t (le13.t (le17.t (le21.t (le25.t (le87.t le93)))))) g96 hS) ?_
 rintro _ w14 ⟨μ11,rfl,le97,hS⟩
 refine po (st (nx ?_))
 iterate 2 refine st ?_
 refine nw ?_
 refine zCd h ?_ ?_
 intro h98 h
 refine nz ?_
 iterate 2 refine st ?_
 refine nw (cret ?_)
 refine (fun h=>xr (xr h)) ?_
 obtain rfl:=oI h
 refine ret1 rfl d4 ?_
 replace hS:=hS.drop (Rm.s Rm.z)
 exact ⟨_,rfl,(le13.t (le17.t (le21.t (le25.t (le87.t (le93.t le97)))))),hS⟩
 intro h98 h
 refine cskip (xl ?_)
 exact ⟨_,_,rfl,(aK4 (aO1 (aK4 (aO1 (aK50 (aK7 (aO6 aZ))))))),_,rfl,h,le97,hS⟩
 intro h94 h
 refine cskip (xl ?_)
 exact ⟨_,_,rfl,(aK4 (aO1 (aK4 (aO1 (aK50 (aK7 (aO6 aZ))))))),_,rfl,h,Le.r,hS⟩
 rintro _ t w15 ⟨μ12,rfl,h,le99,hS⟩
 unfold r2_def_j5 at h
 refine nrm (mK4 (mO1 (mK4 (mO1 (mK50 (mK7 (mO6 mz))))))) (xn (cseq (cseq ?_)))
 refine ccutE (rg 73 12) (by decide) (fun m w=>∃ μx b100,m=(yK50 (yK20 (yK3 (yO10 73 (yO2 83 (.i (.bool b100)::[]))))))∧r2_def_j6 fu p_2 r11 b100=some r∧Le μ12 μx∧Sq μx w0 w (.blk b1 104 [.int .i64 r11.2]::.blk b9 59 [.int .i64 p_2.Kind,S p_2.Name,.int .i64 p_2.Typ.Kind,S p_2.Typ.Gen,.int .i64 p_2.Takes.Kind,S p_2.Takes.Gen,.int .i64 p_2.Cap,.slice a3 p_2.Params.length c4,.slice a6 p_2.Body.length c7]::rsF)) (by rintro _ _ ⟨_,_,rfl,_⟩; rfl) ?_ ?_
 refine creg (st (ld ((hS.blk d1).cell d0) ?_))
 iterate 2 refine st ?_
 refine zWd 76 h ?_ ?_
 intro h101 h
 refine sy rfl (wy rfl (k70 d6) (s_load ti3 (et (k70 d7)) ((hS.blk d1).cell d6) (dt (q70 p8)) (sy rfl (sy rfl ?_))))
 refine zWd 80 h ?_ ?_
 intro h102 h
 refine sn rfl rfl (sn rfl rfl (sn rfl rfl (sy rfl (st (wnil (xl ?_))))))
 exact ⟨_,_,rfl,(aK50 (aK20 (aK3 (aO10 (aO2 (aI aZ)))))),_,true,rfl,h,Le.r,hS⟩
 intro h102 h
 refine sy rfl (wy rfl (k80 d0) (s_load ti3 (et (k80 d1)) ((hS.blk d1).cell d6) (dt (q80 p2)) (sy rfl (sy rfl (st (wnil (xl ?_)))))))
 exact ⟨_,_,rfl,(aK50 (aK20 (aK3 (aO10 (aO2 (aI aZ)))))),_,(decide ((20:Int)<p_2.Cap)),rfl,h,Le.r,hS⟩
 intro h101 h
 refine sn rfl rfl (sn rfl rfl (sn rfl rfl (sn rfl rfl (wu rfl (k80 d0) (dt (q80 p1)) (wu rfl (k80 d0) (dt (q80 p2)) (wu rfl (k80 d0) (dt (q80 p3)) (sn rfl rfl (st (wnil (xl ?_))))))))))
 exact ⟨_,_,rfl,(aK50 (aK20 (aK3 (aO10 (aO2 (aI aZ)))))),_,false,rfl,h,Le.r,hS⟩
 rintro _ t w16 ⟨μ13,b100,rfl,h,le103,hS⟩
 unfold r2_def_j6 at h
 refine nrm (mK50 (mK20 (mK3 (mO10 (mO2 (mi mz)))))) (xn ?_)
 refine zCb h ?_ ?_
 intro h104 h
 refine nz (st (nw (cret (xr ?_))))
 obtain rfl:=oI h
 refine ret1 rfl d4 ?_
 replace hS:=hS.drop (Rm.s Rm.z)
 exact ⟨_,rfl,(le13.t (le17.t (le21.t (le25.t (le87.t (le93.t (le99.t le103))))))),hS⟩
 intro h104 h
 refine cskip (xn (cseq (nz (st (ld ((hS.blk d1).cell d0) (st (nw ?_)))))))
 refine zCd h ?_ ?_
 intro h105 h
 refine nz (st (nw (cret (xr ?_))))
 obtain rfl:=oI h
 refine ret1 rfl d4 ?_
 replace hS:=hS.drop (Rm.s Rm.z)
 exact ⟨_,rfl,(le13.t (le17.t (le21.t (le25.t (le87.t (le93.t (le99.t le103))))))),hS⟩
 intro h105 h
 refine cskip (xn (nz ?_))
 iterate 2 refine st ?_
 refine ld ((hS.blk d1).cell d8) ?_
 obtain ⟨r106,g107,h⟩:=bI h
 refine ca ((R2S_sound fu).r2_stats (hg.t (le13.t (le17.t (le21.t (le25.t (le87.t (le93.t (le99.t le103)))))))) (m8.up (le13.t (le17.t (le21.t (le25.t (le87.t (le93.t (le99.t le103)))))))) g107 hS) ?_
 rintro _ w17 ⟨μ14,rfl,le108,hS⟩
 refine po (st (nw (cret ?_)))
 obtain rfl:=oI h
 refine ret1 rfl d4 ?_
 replace hS:=hS.drop (Rm.s Rm.z)
 exact ⟨_,rfl,(le13.t (le17.t (le21.t (le25.t (le87.t (le93.t (le99.t (le103.t le108)))))))),hS⟩
theorem r2_wrong_w (hg:Le Gm μ0) {p_1:List TDef} {r:TFault} (m3:Sl μ0 a1 c2 p_1) (h:r2_wrong fu p_1=some r) (hS:Sq μ0 w0 w (rsF)):CallsV prog 20 [.slice a1 p_1.length c2] w (fun v w'=>∃ (μ':M) ,v=.agg ⟨[.int .i64 r.Err,.int .i64 r.At]⟩∧Le μ0 μ'∧Sq μ' w0 w' (rsF)):=by
 unfold r2_wrong at h
 refine enter func20 rfl (frm:=_::u2 (u2 (u5 (u20 [])))) rfl (nz ?_)
 refine wl (s_alloc ti26 hS ?_); clear hS; intro b4 w1 hb5 hS; refine po ?_
 refine ny (nz (st (wl (su (u_lensl underlying22 (et d6)) (dt p7) (st (nw ?_))))))
 refine zCd h ?_ ?_
 intro h6 h
 refine nz (wl (s_build ti26 pl26 (Fl.o rfl ec rfl rfl p0 Fl.z) (dt p9) (wl (s_storeA ti26 (et d2) (et d9) rfl rfl hS d0 rfl p0 dn ?_))))
 clear hS; intro w2 hS
 refine nw (cret (xr ?_))
 obtain rfl:=oI h
 refine retN rfl (RVs.s (.a d2 ti26 (hS.blk d0).cells rfl) RVs.z) ?_
 replace hS:=hS.drop Rm.z
 exact ⟨_,rfl,Le.r,hS⟩
 intro h6 h
 refine cskip (xn (nz (wl (s_build ti104 pl104 Fl.z (dt (q10 p0)) ?_))))
 refine wl (s_box (et (k10 d0)) rfl hS ?_); clear hS; intro b7 w3 hb8 hS; refine po ?_
 refine st (ny (nz (st (wl (su (u_lensl underlying22 (et (k10 d2))) (dt (q10 p3)) (st (nw (cblock ?_))))))))
 replace hS:=hS.bg Y1
 refine cloopE (rg 4 2++rg 15 14) (by decide) (fun n m w=>∃ μx i28 i29,m=(yK4 (yO2 4 (yK8 (.i (.int .i64 i28)::(yO10 15 (yO4 25 []))))))∧r2_wrong_l1 fu p_1 n i28 i29=some r∧Le μ0 μx∧Sq μx w0 w (.blk b4 26 [.int .i64 0,.int .i64 0]::.blk b7 104 [.int .i64 i29]::rsF)) (by rintro _ _ _ ⟨_,_,_,rfl,_⟩; rfl) _ _ (aK4 (aO2 (aK8 (aI (aO10 (aO4 aZ)))))) ⟨_,0,0,rfl,h,Le.r,hS⟩ ?_
 rintro n_1 _ t w4 ⟨μ1,i28,i29,rfl,h,le49,hS⟩
 rcases n_1 with _|n_1
 cases h
 unfold r2_wrong_l1 at h
 refine cnrm (mK4 (mO2 (mK8 (mi (mO10 (mO4 mz)))))) (nz (st (ny ?_)))
 refine zCd h ?_ ?_
 intro h50 h
 refine cskip (xn (cseq (cblock (nz ?_))))
 iterate 2 refine st ?_
 refine nx ?_
 iterate 3 refine st ?_
 obtain ⟨x51,g52,h⟩:=bI h
 obtain ⟨b53,o54,cs55,e56,f57,m58⟩:=SlR.elem (m3.up le49) g52
 obtain ⟨a59,c60,a62,c63,rfl,m61,m64⟩:=m58
 refine wl (su (u_iax underlying22 ti59 (et (k10 d8)) (et (k10 d9)) e56) (dt (q20 p0)) (lds (f57 _ hS.a) rfl ?_))
 obtain ⟨r65,g66,h⟩:=bI h
 replace hS:=hS.bg Y1
 refine ca (r2_def_w (hg.t le49) m61 m64 g66 hS) ?_
 rintro _ w5 ⟨μ2,rfl,le67,hS⟩
 refine po (st (nx ?_))
 iterate 2 refine st ?_
 refine nw ?_
 refine zCd h ?_ ?_
 intro h68 h
 refine nz ?_
 iterate 2 refine st ?_
 refine wl (s_build ti26 pl26 (Fl.o rfl (et (k20 d5)) rfl rfl p0 (Fl.o rfl (et (k20 d6)) rfl rfl p1 Fl.z)) (dt (q20 p7)) (wl (s_storeA ti26 (et d2) (et (k20 d7)) rfl rfl hS d1 rfl p1 dn ?_)))
 clear hS; intro w6 hS
 refine nw (cret ?_)
 refine (fun h=>br (xr (xr (br (xr h))))) ?_
 obtain rfl:=oI h
 refine retN rfl (RVs.s (.a d2 ti26 (hS.blk d1).cells rfl) RVs.z) ?_
 replace hS:=(hS.drop Rm.z).drop Rm.z
 exact ⟨_,rfl,(le49.t le67),hS⟩
 intro h68 h
 refine cskip ?_
 refine (fun h=>bn (xn h)) ?_
 refine creg ?_
 obtain ⟨i69,g70,h⟩:=bI h
 refine wl (su (u_addc (et (k10 d4)) ec g70) (dt (q20 p8)) (st (wnil (xl ?_))))
 replace hS:=hS.bg Y1
 exact ⟨n_1,_,_,rfl,(aK4 (aO2 (aK8 (aI (aO10 (aO4 aZ)))))),⟨_,i69,r65.2,rfl,h,(le49.t le67),hS⟩,Nat.lt_succ_self _⟩
 intro h50 h
 refine cexit ?_
 refine (fun h=>xe (xe (bh h))) ?_
 refine xn (nz (wl (s_build ti26 pl26 Fl.z (dt (q20 p9)) (wl (s_storeA ti26 (et d2) (et (k20 d9)) rfl rfl hS d0 rfl p0 dn ?_)))))
 clear hS; intro w7 hS
 refine nw (cret ?_)
 obtain rfl:=oI h
 refine retN rfl (RVs.s (.a d2 ti26 (hS.blk d0).cells rfl) RVs.z) ?_
 replace hS:=(hS.drop Rm.z).drop Rm.z
 exact ⟨_,rfl,le49,hS⟩
end Go.Proofs.Yteiemedhecjgiaa
set_option maxRecDepth 100000
set_option maxHeartbeats 20000000
namespace Go.Proofs.Yteiemedhecjgiaa
open Go.Wk Go.Xt Go.Y Try
variable {c2 fu:Nat} {a1:Option Addr} {μ0:M} {w0 w:World} {rsF:List Res}
theorem r3_word_w (hg:Le Gm μ0) {p_1:TType} {r:List UInt8}  (h:r3_word p_1=some r) (hS:Sq μ0 w0 w (rsF)):CallsV prog 43 [.agg ⟨[.int .i64 p_1.Kind,S p_1.Gen]⟩] w (fun v w'=>∃ (μ':M) ,v=S r∧Le μ0 μ'∧Sq μ' w0 w' (rsF)):=by
 unfold r3_word at h
 refine enter func43 rfl (frm:=_::u1 (u10 [])) rfl (nz ?_)
 refine wl (s_box (et d0) rfl hS ?_); clear hS; intro b1 w1 hb2 hS; refine po ?_
 refine st (ny (nz (st (ld ((hS.blk d0).cell d0) (nw (cblock (nz ?_)))))))
 iterate 2 refine st ?_
 refine nw ?_
 refine zCd h ?_ ?_
 intro h3 h
 refine nz (st (nw (cret ?_)))
 refine (fun h=>br (xr h)) ?_
 obtain rfl:=oI h
 refine ret1 rfl d2 ?_
 replace hS:=hS.drop Rm.z
 exact ⟨_,rfl,Le.r,hS⟩
 intro h3 h
 refine nz ?_
 iterate 2 refine st ?_
 refine nw ?_
 refine zCd h ?_ ?_
 intro h4 h
 refine nz (st (nw (cret ?_)))
 refine (fun h=>br (xr h)) ?_
 obtain rfl:=oI h
 refine ret1 rfl d2 ?_
 replace hS:=hS.drop Rm.z
 exact ⟨_,rfl,Le.r,hS⟩
 intro h4 h
 refine cskip ?_
 refine (fun h=>bn (xn h)) ?_
 refine nz (st (ld ((hS.blk d0).cell d1) ?_))
 obtain ⟨s5,g6,h⟩:=bI h
 refine wl (su (u_catc ec (et (k10 d0)) g6) (dt (q10 p1)) (st (nw (cret ?_))))
 obtain rfl:=oI h
 refine ret1 rfl d2 ?_
 replace hS:=hS.drop Rm.z
 exact ⟨_,rfl,Le.r,hS⟩
theorem r3_find_w (hg:Le Gm μ0) {p_1:List TDef} {p_2:Int} {p_3:List UInt8} {r:TDef×Bool} (m3:Sl μ0 a1 c2 p_1) (h:r3_find p_1 p_2 p_3=some r) (hS:Sq μ0 w0 w (rsF)):CallsV prog 42 [.slice a1 p_1.length c2,.int .i64 p_2,S p_3] w (fun v w'=>∃ (μ':M) (a4:Option Addr) (c5:Nat) (a7:Option Addr) (c8:Nat),v=.tuple ⟨[.agg ⟨[.int .i64 r.1.Kind,S r.1.Name,.int .i64 r.1.Typ.Kind,S r.1.Typ.Gen,.int .i64 r.1.Takes.Kind,S r.1.Takes.Gen,.int .i64 r.1.Cap,.slice a4 r.1.Params.length c5,.slice a7 r.1.Body.length c8]⟩,.bool r.2]⟩∧Le μ0 μ'∧Sq μ' w0 w' (rsF)∧Sl μ' a4 c5 r.1.Params∧Sl μ' a7 c8 r.1.Body):=by
 unfold r3_find at h
 refine enter func42 rfl (frm:=_::_::_::u1 (u5 (u20 []))) rfl (nz ?_)
 refine wl (s_alloc ti59 hS ?_); clear hS; intro b10 w1 hb11 hS; refine po ?_
 refine st (ny (nz (st (wl (su (u_lensl underlying22 (et (k10 d0))) (dt (q10 p1)) (st (nw (cblock ?_))))))))
 refine cloopE ([7]++[9]++rg 13 15) (by decide) (fun n m w=>∃ μx i33,m=(yK7 (yO1 7 (yK1 (yO1 9 (yK2 (.i (.int .i64 i33)::(yO10 13 (yO5 23 []))))))))∧r3_find_l1 p_1 p_2 p_3 n i33=some r∧Le μ0 μx∧Sq μx w0 w (.blk b10 59 [.int .i64 0,S [],.int .i64 0,S [],.int .i64 0,S [],.int .i64 0,.slice none 0 0,.slice none 0 0]::rsF)) (by rintro _ _ _ ⟨_,_,rfl,_⟩; rfl) _ _ (aK7 (aO1 (aK1 (aO1 (aK2 (aI (aO10 (aO5 aZ)))))))) ⟨_,0,rfl,h,Le.r,hS⟩ ?_
 rintro n_1 _ t w2 ⟨μ1,i33,rfl,h,le54,hS⟩
 rcases n_1 with _|n_1
 cases h
 unfold r3_find_l1 at h
 refine cnrm (mK7 (mO1 (mK1 (mO1 (mK2 (mi (mO10 (mO5 mz)))))))) (nz (st (ny ?_)))
 refine zCd h ?_ ?_
 intro h55 h
 refine cskip (xn (cseq (cblock (nz ?_))))
 obtain ⟨x56,g57,h⟩:=bI h
 obtain ⟨b58,o59,cs60,e61,f62,m63⟩:=SlR.elem (m3.up le54) g57
 obtain ⟨a64,c65,a67,c68,rfl,m66,m69⟩:=m63
 refine wl (su (u_iax underlying22 ti59 (et (k10 d0)) (et (k10 d2)) e61) (dt (q10 p4)) (lds (f62 _ hS.a) rfl ?_))
 refine wl (s_alloc ti59 hS ?_); clear hS; intro b70 w3 hb71 hS; refine po ?_
 refine wl (s_storeA ti59 (et d9) (et (k10 d5)) rfl rfl hS d0 rfl p0 dn ?_)
 clear hS; intro w4 hS
 refine ny ?_
 refine ccutE (rg 16 9) (by decide) (fun m w=>∃ μx b72,m=(yK10 (yK6 (yO9 16 (.i (.bool b72)::[]))))∧r3_find_j1 i33 x56 (r3_find_l1 p_1 p_2 p_3 n_1) b72=some r∧Le μ1 μx∧Sq μx w0 w (.blk b10 59 [.int .i64 0,S [],.int .i64 0,S [],.int .i64 0,S [],.int .i64 0,.slice none 0 0,.slice none 0 0]::.blk b70 59 [.int .i64 x56.Kind,S x56.Name,.int .i64 x56.Typ.Kind,S x56.Typ.Gen,.int .i64 x56.Takes.Kind,S x56.Takes.Gen,.int .i64 x56.Cap,.slice a64 x56.Params.length c65,.slice a67 x56.Body.length c68]::rsF)) (by rintro _ _ ⟨_,_,rfl,_⟩; rfl) ?_ ?_
 refine creg (st (ld ((hS.blk d0).cell d0) ?_))
 iterate 3 refine st ?_
 refine zWd 20 h ?_ ?_
 intro h73 h
 refine sy rfl (wy rfl (k20 d0) (s_load ti9 (et (k20 d1)) ((hS.blk d0).cell d1) (dt (q20 p2)) (sy rfl (wy rfl (k20 d0) (su (u_eqs (et (k20 d2)) (et (k20 d3))) (dt (q20 p4)) (st (wnil (xl ?_))))))))
 replace hS:=hS.bg Y1
 exact ⟨_,_,rfl,(aK10 (aK6 (aO9 (aI aZ)))),_,(decide (x56.Name=p_3)),rfl,h,Le.r,hS⟩
 intro h73 h
 refine sn rfl rfl (sn rfl rfl (sn rfl rfl (sn rfl rfl (st (wnil (xl ?_))))))
 replace hS:=hS.bg Y1
 exact ⟨_,_,rfl,(aK10 (aK6 (aO9 (aI aZ)))),_,false,rfl,h,Le.r,hS⟩
 rintro _ t w5 ⟨μ2,b72,rfl,h,le74,hS⟩
 unfold r3_find_j1 at h
 refine nrm (mK10 (mK6 (mO9 (mi mz)))) (xn ?_)
 refine zCb h ?_ ?_
 intro h75 h
 refine nz (lds (hS.blk d1).cells rfl (wl (s_storeA ti59 (et d6) (et (k20 d6)) rfl rfl hS d0 rfl p0 dn ?_)))
 clear hS; intro w6 hS
 refine st (nw (cret ?_))
 refine (fun h=>br (xr (xr (br (xr h))))) ?_
 obtain rfl:=oI h
 refine retN rfl (RVs.s (.a d6 ti59 (hS.blk d0).cells rfl) (RVs.s (.t d7) RVs.z)) ?_
 replace hS:=(hS.drop Rm.z).drop Rm.z
 exact ⟨_,_,_,_,_,rfl,(le54.t le74),hS,(m66.up le74),(m69.up le74)⟩
 intro h75 h
 refine cskip ?_
 refine (fun h=>bn (xn h)) ?_
 refine creg ?_
 obtain ⟨i76,g77,h⟩:=bI h
 refine wl (su (u_addc (et (k10 d2)) ec g77) (dt (q20 p7)) (st (wnil (xl ?_))))
 replace hS:=hS.drop (Rm.s Rm.z)
 exact ⟨n_1,_,_,rfl,(aK7 (aO1 (aK1 (aO1 (aK2 (aI (aO10 (aO5 aZ)))))))),⟨_,i76,rfl,h,(le54.t le74),hS⟩,Nat.lt_succ_self _⟩
 intro h55 h
 refine cexit ?_
 refine (fun h=>xe (xe (bh h))) ?_
 refine xn (nz (wl (s_build ti59 pl59 Fl.z (dt (q20 p8)) (wl (s_storeA ti59 (et d6) (et (k20 d8)) rfl rfl hS d0 rfl p0 dn ?_)))))
 clear hS; intro w7 hS
 refine st (nw (cret ?_))
 obtain rfl:=oI h
 refine retN rfl (RVs.s (.a d6 ti59 (hS.blk d0).cells rfl) (RVs.s (.t d7) RVs.z)) ?_
 replace hS:=hS.drop Rm.z
 exact ⟨_,none,0,none,0,rfl,le54,hS,Sl.nil,Sl.nil⟩
theorem r3_look_w (hg:Le Gm μ0) {p_1:List TYieldref3Name} {p_2:List UInt8} {r:List UInt8×Bool} (m3:Sl μ0 a1 c2 p_1) (h:r3_look fu p_1 p_2=some r) (hS:Sq μ0 w0 w (rsF)):CallsV prog 66 [.slice a1 p_1.length c2,S p_2] w (fun v w'=>∃ (μ':M) ,v=.tuple ⟨[S r.1,.bool r.2]⟩∧Le μ0 μ'∧Sq μ' w0 w' (rsF)):=by
 unfold r3_look at h
 refine enter func66 rfl (frm:=_::_::u2 (u2 (u20 []))) rfl (nz ?_)
 iterate 2 refine st ?_
 refine ny (nz (st (wl (su (u_lensl underlying110 (et d7)) (dt p8) ?_))))
 obtain ⟨i4,g5,h⟩:=bI h
 refine wl (su (u_subc (et d8) ec g5) (dt p9) (st (nw (cblock ?_))))
 refine cloopE (rg 4 2++rg 10 16) (by decide) (fun n m w=>∃ μx i24,m=(yK4 (yO2 4 (.i (.int .i64 i24)::(yK3 (yO10 10 (yO6 20 []))))))∧r3_look_l1 p_1 p_2 n i24=some r∧Le μ0 μx∧Sq μx w0 w (rsF)) (by rintro _ _ _ ⟨_,_,rfl,_⟩; rfl) _ _ (aK4 (aO2 (aI (aK3 (aO10 (aO6 aZ)))))) ⟨_,i4,rfl,h,Le.r,hS⟩ ?_
 rintro n_1 _ t w1 ⟨μ1,i24,rfl,h,le43,hS⟩
 rcases n_1 with _|n_1
 cases h
 unfold r3_look_l1 at h
 refine cnrm (mK4 (mO2 (mi (mK3 (mO10 (mO6 mz)))))) (cseq (nz ?_))
 iterate 2 refine st ?_
 refine nw ?_
 refine zCd h ?_ ?_
 intro h44 h
 refine cskip (xn (cseq (cblock (nz ?_))))
 iterate 2 refine st ?_
 obtain ⟨x45,g46,h⟩:=bI h
 obtain ⟨b47,o48,cs49,e50,f51,m52⟩:=SlR.elem (m3.up le43) g46
 obtain rfl:=m52
 refine wl (su (u_iax underlying110 ti113 (et (k10 d4)) (et (k10 d5)) e50) (dt (q10 p6)) (st (ld ((f51 _ hS.a).one d0) (st (wl (su (u_eqs (et (k10 d8)) (et (k10 d9))) (dt (q20 p0)) (nw ?_)))))))
 refine zCd h ?_ ?_
 intro h53 h
 refine nz ?_
 iterate 2 refine st ?_
 obtain ⟨x54,g55,h⟩:=bI h
 obtain ⟨b56,o57,cs58,e59,f60,m61⟩:=SlR.elem (m3.up le43) g55
 obtain rfl:=m61
 refine wl (su (u_iax underlying110 ti113 (et (k20 d1)) (et (k20 d2)) e59) (dt (q20 p3)) (st (ld ((f60 _ hS.a).one d1) ?_)))
 iterate 2 refine st ?_
 refine nw (cret ?_)
 refine (fun h=>br (xr (xr (br (xr h))))) ?_
 obtain rfl:=oI h
 refine ret2 rfl d4 d5 ?_
 exact ⟨_,rfl,le43,hS⟩
 intro h53 h
 refine cskip ?_
 refine (fun h=>bn (xn h)) ?_
 refine creg (st ?_)
 obtain ⟨i62,g63,h⟩:=bI h
 refine wl (su (u_subc (et (k10 d2)) ec g63) (dt (q10 p3)) (st (wnil (xl ?_))))
 exact ⟨n_1,_,_,rfl,(aK4 (aO2 (aI (aK3 (aO10 (aO6 aZ)))))),⟨_,i62,rfl,h,le43,hS⟩,Nat.lt_succ_self _⟩
 intro h44 h
 refine cexit ?_
 refine (fun h=>xe (xe (bh h))) ?_
 refine xn (nz ?_)
 iterate 2 refine st ?_
 refine nw (cret ?_)
 obtain rfl:=oI h
 refine ret2 rfl d4 d5 ?_
 exact ⟨_,rfl,le43,hS⟩
def r3_type_S (q:(List TDef)→TDef→(List TYieldref3Name)→TExpr→Option (List UInt8×Int)):Prop:=∀ {μ0:M} {w0 w:World} {rsF:List Res} (hg:Le Gm μ0) {p_1:List TDef} {a1:Option Addr} {c2:Nat} {p_2:TDef} {a4:Option Addr} {c5:Nat} {a7:Option Addr} {c8:Nat} {p_3:List TYieldref3Name} {a10:Option Addr} {c11:Nat} {p_4:TExpr} {a13:Option Addr} {c14:Nat} {r:List UInt8×Int} (m3:Sl μ0 a1 c2 p_1) (m6:Sl μ0 a4 c5 p_2.Params) (m9:Sl μ0 a7 c8 p_2.Body) (m12:Sl μ0 a10 c11 p_3) (m15:Sl μ0 a13 c14 p_4.Kids) (h:q p_1 p_2 p_3 p_4=some r) (hS:Sq μ0 w0 w (rsF)),CallsV prog 65 [.slice a1 p_1.length c2,.agg ⟨[.int .i64 p_2.Kind,S p_2.Name,.int .i64 p_2.Typ.Kind,S p_2.Typ.Gen,.int .i64 p_2.Takes.Kind,S p_2.Takes.Gen,.int .i64 p_2.Cap,.slice a4 p_2.Params.length c5,.slice a7 p_2.Body.length c8]⟩,.slice a10 p_3.length c11,.agg ⟨[.int .i64 p_4.Kind,.int .i64 p_4.N,S p_4.Name,.slice a13 p_4.Kids.length c14]⟩] w (fun v w'=>∃ (μ':M) ,v=.tuple ⟨[S r.1,.int .i64 r.2]⟩∧Le μ0 μ'∧Sq μ' w0 w' (rsF))
def r3_ask_S (q:Int→(List TDef)→TDef→(List TYieldref3Name)→TExpr→Option (List UInt8×Int)):Prop:=∀ {μ0:M} {w0 w:World} {rsF:List Res} (hg:Le Gm μ0) {p_1:Int} {p_2:List TDef} {b1 o2:Nat} {a4:Option Addr} {c5:Nat} {p_3:TDef} {b7 o8:Nat} {a10:Option Addr} {c11:Nat} {a13:Option Addr} {c14:Nat} {p_4:List TYieldref3Name} {b16 o17:Nat} {a19:Option Addr} {c20:Nat} {p_5:TExpr} {b22 o23:Nat} {a25:Option Addr} {c26:Nat} {r:List UInt8×Int} (m6:Sl μ0 a4 c5 p_2) (m3:At μ0 b1 o2 [.slice a4 p_2.length c5]) (m12:Sl μ0 a10 c11 p_3.Params) (m15:Sl μ0 a13 c14 p_3.Body) (m9:At μ0 b7 o8 [.int .i64 p_3.Kind,S p_3.Name,.int .i64 p_3.Typ.Kind,S p_3.Typ.Gen,.int .i64 p_3.Takes.Kind,S p_3.Takes.Gen,.int .i64 p_3.Cap,.slice a10 p_3.Params.length c11,.slice a13 p_3.Body.length c14]) (m21:Sl μ0 a19 c20 p_4) (m18:At μ0 b16 o17 [.slice a19 p_4.length c20]) (m27:Sl μ0 a25 c26 p_5.Kids) (m24:At μ0 b22 o23 [.int .i64 p_5.Kind,.int .i64 p_5.N,S p_5.Name,.slice a25 p_5.Kids.length c26]) (h:q p_1 p_2 p_3 p_4 p_5=some r) (hS:Sq μ0 w0 w (rsF)),CallsV prog 83 [.int .i64 p_1,.pointer (some ⟨b1,o2,none⟩),.pointer (some ⟨b7,o8,none⟩),.pointer (some ⟨b16,o17,none⟩),.pointer (some ⟨b22,o23,none⟩)] w (fun v w'=>∃ (μ':M) ,v=.tuple ⟨[S r.1,.int .i64 r.2]⟩∧Le μ0 μ'∧Sq μ' w0 w' (rsF))
def r3_must_S (q:Int→(List UInt8)→(List TDef)→TDef→(List TYieldref3Name)→TExpr→Option Int):Prop:=∀ {μ0:M} {w0 w:World} {rsF:List Res} (hg:Le Gm μ0) {p_1:Int} {p_2:List UInt8} {p_3x1:List TDef} {b1 o2:Nat} {a4:Option Addr} {c5:Nat} {p_3x2:TDef} {b7 o8:Nat} {a10:Option Addr} {c11:Nat} {a13:Option Addr} {c14:Nat} {p_3x3:List TYieldref3Name} {b16 o17:Nat} {a19:Option Addr} {c20:Nat} {p_3x4:TExpr} {b22 o23:Nat} {a25:Option Addr} {c26 b28 o29:Nat} {r:Int} (m6:Sl μ0 a4 c5 p_3x1) (m3:At μ0 b1 o2 [.slice a4 p_3x1.length c5]) (m12:Sl μ0 a10 c11 p_3x2.Params) (m15:Sl μ0 a13 c14 p_3x2.Body) (m9:At μ0 b7 o8 [.int .i64 p_3x2.Kind,S p_3x2.Name,.int .i64 p_3x2.Typ.Kind,S p_3x2.Typ.Gen,.int .i64 p_3x2.Takes.Kind,S p_3x2.Takes.Gen,.int .i64 p_3x2.Cap,.slice a10 p_3x2.Params.length c11,.slice a13 p_3x2.Body.length c14]) (m21:Sl μ0 a19 c20 p_3x3) (m18:At μ0 b16 o17 [.slice a19 p_3x3.length c20]) (m27:Sl μ0 a25 c26 p_3x4.Kids) (m24:At μ0 b22 o23 [.int .i64 p_3x4.Kind,.int .i64 p_3x4.N,S p_3x4.Name,.slice a25 p_3x4.Kids.length c26]) (m30:At μ0 b28 o29 [.func (.func 83) ⟨[]⟩ ⟨[.pointer (some ⟨b1,o2,none⟩),.pointer (some ⟨b7,o8,none⟩),.pointer (some ⟨b16,o17,none⟩),.pointer (some ⟨b22,o23,none⟩)]⟩]) (h:q p_1 p_2 p_3x1 p_3x2 p_3x3 p_3x4=some r) (hS:Sq μ0 w0 w (rsF)),CallsV prog 84 [.int .i64 p_1,S p_2,.pointer (some ⟨b28,o29,none⟩)] w (fun v w'=>∃ (μ':M) ,v=.int .i64 r∧Le μ0 μ'∧Sq μ' w0 w' (rsF))
def r3_given_S (q:Int→(List TDef)→TExpr→(List TDef)→TDef→(List TYieldref3Name)→TExpr→Option (TDef×Int)):Prop:=∀ {μ0:M} {w0 w:World} {rsF:List Res} (hg:Le Gm μ0) {p_1:Int} {p_2:List TDef} {b1 o2:Nat} {a4:Option Addr} {c5:Nat} {p_3:TExpr} {b7 o8:Nat} {a10:Option Addr} {c11:Nat} {p_4x1:List TDef} {b13 o14:Nat} {a16:Option Addr} {c17:Nat} {p_4x2:TDef} {b19 o20:Nat} {a22:Option Addr} {c23:Nat} {a25:Option Addr} {c26:Nat} {p_4x3:List TYieldref3Name} {b28 o29:Nat} {a31:Option Addr} {c32:Nat} {p_4x4:TExpr} {b34 o35:Nat} {a37:Option Addr} {c38 b40 o41 b43 o44:Nat} {r:TDef×Int} (m6:Sl μ0 a4 c5 p_2) (m3:At μ0 b1 o2 [.slice a4 p_2.length c5]) (m12:Sl μ0 a10 c11 p_3.Kids) (m9:At μ0 b7 o8 [.int .i64 p_3.Kind,.int .i64 p_3.N,S p_3.Name,.slice a10 p_3.Kids.length c11]) (m18:Sl μ0 a16 c17 p_4x1) (m15:At μ0 b13 o14 [.slice a16 p_4x1.length c17]) (m24:Sl μ0 a22 c23 p_4x2.Params) (m27:Sl μ0 a25 c26 p_4x2.Body) (m21:At μ0 b19 o20 [.int .i64 p_4x2.Kind,S p_4x2.Name,.int .i64 p_4x2.Typ.Kind,S p_4x2.Typ.Gen,.int .i64 p_4x2.Takes.Kind,S p_4x2.Takes.Gen,.int .i64 p_4x2.Cap,.slice a22 p_4x2.Params.length c23,.slice a25 p_4x2.Body.length c26]) (m33:Sl μ0 a31 c32 p_4x3) (m30:At μ0 b28 o29 [.slice a31 p_4x3.length c32]) (m39:Sl μ0 a37 c38 p_4x4.Kids) (m36:At μ0 b34 o35 [.int .i64 p_4x4.Kind,.int .i64 p_4x4.N,S p_4x4.Name,.slice a37 p_4x4.Kids.length c38]) (m42:At μ0 b40 o41 [.func (.func 83) ⟨[]⟩ ⟨[.pointer (some ⟨b13,o14,none⟩),.pointer (some ⟨b19,o20,none⟩),.pointer (some ⟨b28,o29,none⟩),.pointer (some ⟨b34,o35,none⟩)]⟩]) (m45:At μ0 b43 o44 [.func (.func 84) ⟨[]⟩ ⟨[.pointer (some ⟨b40,o41,none⟩)]⟩]) (h:q p_1 p_2 p_3 p_4x1 p_4x2 p_4x3 p_4x4=some r) (hS:Sq μ0 w0 w (rsF)),CallsV prog 85 [.int .i64 p_1,.pointer (some ⟨b1,o2,none⟩),.pointer (some ⟨b7,o8,none⟩),.pointer (some ⟨b43,o44,none⟩)] w (fun v w'=>∃ (μ':M) (a46:Option Addr) (c47:Nat) (a49:Option Addr) (c50:Nat),v=.tuple ⟨[.agg ⟨[.int .i64 r.1.Kind,S r.1.Name,.int .i64 r.1.Typ.Kind,S r.1.Typ.Gen,.int .i64 r.1.Takes.Kind,S r.1.Takes.Gen,.int .i64 r.1.Cap,.slice a46 r.1.Params.length c47,.slice a49 r.1.Body.length c50]⟩,.int .i64 r.2]⟩∧Le μ0 μ'∧Sq μ' w0 w' (rsF)∧Sl μ' a46 c47 r.1.Params∧Sl μ' a49 c50 r.1.Body)
structure R3TSound (sf:R3T):Prop where
  r3_type:r3_type_S sf.r3_type
  r3_ask:r3_ask_S sf.r3_ask
  r3_must:r3_must_S sf.r3_must
  r3_given:r3_given_S sf.r3_given
theorem r3_type_w {fu:Nat} {self:R3T} (IH:R3TSound self):r3_type_S (r3_type fu self):=by
 intro μ0 w0 w rsF hg p_1 a1 c2 p_2 a4 c5 a7 c8 p_3 a10 c11 p_4 a13 c14 r m3 m6 m9 m12 m15 h hS
 unfold r3_type at h
 refine enter func65 rfl (frm:=_::_::_::_::u2 (u20 (u20 (u50 (u50 (u50 [])))))) rfl (nz ?_)
 refine wl (s_box (et d0) rfl hS ?_); clear hS; intro b16 w1 hb17 hS; refine po ?_
 refine wl (s_box (et d1) rfl hS ?_); clear hS; intro b18 w2 hb19 hS; refine po ?_
 refine wl (s_box (et d2) rfl hS ?_); clear hS; intro b20 w3 hb21 hS; refine po ?_
 refine wl (s_box (et d3) rfl hS ?_); clear hS; intro b22 w4 hb23 hS; refine po ?_
 iterate 2 refine st ?_
 refine nx ?_
 replace hS:=hS.bg Y3
 obtain ⟨μ1,le25,m24,hS⟩:=Sep.frzAt hS
 replace hS:=hS.bg Y2
 obtain ⟨μ2,le27,m26,hS⟩:=Sep.frzAt hS
 replace hS:=hS.bg Y1
 obtain ⟨μ3,le29,m28,hS⟩:=Sep.frzAt hS
 obtain ⟨μ4,le31,m30,hS⟩:=Sep.frzAt hS
 refine wl (su (u_mkfn e0 (e1 (et d4) (e1 (et d5) (e1 (et d6) (e1 (et d7) e0))))) (dt (q30 p1)) ?_)
 refine wl (s_alloc ti168 hS ?_); clear hS; intro b32 w5 hb33 hS; refine po ?_
 refine wl (s_store1 ti168 (et (k10 d0)) (et (k30 d1)) rfl hS d0 p0 rfl p0 dn ?_)
 clear hS; intro w6 hS
 refine nx ?_
 obtain ⟨μ5,le35,m34,hS⟩:=Sep.frzAt hS
 refine wl (su (u_mkfn e0 (e1 (et (k10 d0)) e0)) (dt (q30 p2)) ?_)
 refine wl (s_alloc ti169 hS ?_); clear hS; intro b36 w7 hb37 hS; refine po ?_
 refine wl (s_store1 ti169 (et (k10 d1)) (et (k30 d2)) rfl hS d0 p0 rfl p0 dn ?_)
 clear hS; intro w8 hS
 refine nx ?_
 obtain ⟨μ6,le39,m38,hS⟩:=Sep.frzAt hS
 refine wl (su (u_mkfn e0 (e1 (et d4) (e1 (et d7) (e1 (et (k10 d1)) e0)))) (dt (q30 p3)) (st (ny (nz (st (ld ((m30 _ ((le35.t le39) _ hS.a)).one d0) (nw (cblock (nz ?_)))))))))
 iterate 2 refine st ?_
 refine nw ?_
 refine zCd h ?_ ?_
 intro h40 h
 refine nz ?_
 iterate 2 refine st ?_
 refine nw (cret ?_)
 refine (fun h=>br (xr h)) ?_
 obtain rfl:=oI h
 refine ret2 rfl d8 d9 ?_
 exact ⟨_,rfl,(le25.t (le27.t (le29.t (le31.t (le35.t le39))))),hS⟩
 intro h40 h
 refine nz ?_
 iterate 2 refine st ?_
 refine nw ?_
 refine zCd h ?_ ?_
 intro h41 h
 refine nz ?_
 iterate 2 refine st ?_
 refine nw (cret ?_)
 refine (fun h=>br (xr h)) ?_
 obtain rfl:=oI h
 refine ret2 rfl d8 d9 ?_
 exact ⟨_,rfl,(le25.t (le27.t (le29.t (le31.t (le35.t le39))))),hS⟩
 intro h41 h
 refine nz ?_
 iterate 2 refine st ?_
 refine nw ?_
 refine zCd h ?_ ?_
 intro h42 h
 refine nz (ld ((m28 _ ((le31.t (le35.t le39)) _ hS.a)).one d0) (st (ld ((m30 _ ((le35.t le39) _ hS.a)).one d2) ?_)))
 obtain ⟨r43,g44,h⟩:=bI h
 refine ca (r3_look_w (hg.t (le25.t (le27.t (le29.t (le31.t (le35.t le39)))))) (m12.up (le25.t (le27.t (le29.t (le31.t (le35.t le39)))))) g44 hS) ?_
 rintro _ w9 ⟨μ7,rfl,le45,hS⟩
 refine po ?_
 iterate 5 refine st ?_
 refine ny (nz ?_)
 iterate 2 refine st ?_
 refine nw ?_
 refine zCe h ?_ ?_
 intro h46 h
 refine nz ?_
 iterate 2 refine st ?_
 refine nw (cret ?_)
 refine (fun h=>xr (br (xr h))) ?_
 obtain rfl:=oI h
 refine ret2 rfl d8 d9 ?_
 exact ⟨_,rfl,(le25.t (le27.t (le29.t (le31.t (le35.t (le39.t le45)))))),hS⟩
 intro h46 h
 refine cskip (xn (nz ?_))
 iterate 3 refine st ?_
 refine nw (cret ?_)
 refine (fun h=>br (xr h)) ?_
 obtain rfl:=oI h
 refine ret2 rfl d8 d9 ?_
 exact ⟨_,rfl,(le25.t (le27.t (le29.t (le31.t (le35.t (le39.t le45)))))),hS⟩
 intro h42 h
 refine nz ?_
 iterate 2 refine st ?_
 refine nw ?_
 refine zCd h ?_ ?_
 intro h47 h
 refine nz (ld ((m38 _ hS.a).one d0) ?_)
 obtain ⟨r48,g49,h⟩:=bI h
 refine wl (s_callc isfn84 (et (k50 d4)) (e1 ec (e1 ec e0)) (IH.r3_must (hg.t (le25.t (le27.t (le29.t (le31.t (le35.t le39)))))) (m3.up (le25.t (le27.t (le29.t (le31.t (le35.t le39)))))) (m24.up (le27.t (le29.t (le31.t (le35.t le39))))) (m6.up (le25.t (le27.t (le29.t (le31.t (le35.t le39)))))) (m9.up (le25.t (le27.t (le29.t (le31.t (le35.t le39)))))) (m26.up (le29.t (le31.t (le35.t le39)))) (m12.up (le25.t (le27.t (le29.t (le31.t (le35.t le39)))))) (m28.up (le31.t (le35.t le39))) (m15.up (le25.t (le27.t (le29.t (le31.t (le35.t le39)))))) (m30.up (le35.t le39)) (m34.up le39) g49 hS) ?_)
 rintro _ w10 ⟨μ8,rfl,le50,hS⟩
 refine po ?_
 iterate 2 refine st ?_
 refine nw (cret ?_)
 refine (fun h=>br (xr h)) ?_
 obtain rfl:=oI h
 refine ret2 rfl d8 d9 ?_
 exact ⟨_,rfl,(le25.t (le27.t (le29.t (le31.t (le35.t (le39.t le50)))))),hS⟩
 intro h47 h
 refine nz ?_
 iterate 2 refine st ?_
 refine nw ?_
 refine zCd h ?_ ?_
 intro h51 h
 refine nz (ld ((m38 _ hS.a).one d0) ?_)
 obtain ⟨r52,g53,h⟩:=bI h
 refine wl (s_callc isfn84 (et (k50 d8)) (e1 ec (e1 ec e0)) (IH.r3_must (hg.t (le25.t (le27.t (le29.t (le31.t (le35.t le39)))))) (m3.up (le25.t (le27.t (le29.t (le31.t (le35.t le39)))))) (m24.up (le27.t (le29.t (le31.t (le35.t le39))))) (m6.up (le25.t (le27.t (le29.t (le31.t (le35.t le39)))))) (m9.up (le25.t (le27.t (le29.t (le31.t (le35.t le39)))))) (m26.up (le29.t (le31.t (le35.t le39)))) (m12.up (le25.t (le27.t (le29.t (le31.t (le35.t le39)))))) (m28.up (le31.t (le35.t le39))) (m15.up (le25.t (le27.t (le29.t (le31.t (le35.t le39)))))) (m30.up (le35.t le39)) (m34.up le39) g53 hS) ?_)
 rintro _ w11 ⟨μ9,rfl,le54,hS⟩
 refine po ?_
 iterate 2 refine st ?_
 refine nw (cret ?_)
 refine (fun h=>br (xr h)) ?_
 obtain rfl:=oI h
 refine ret2 rfl d8 d9 ?_
 exact ⟨_,rfl,(le25.t (le27.t (le29.t (le31.t (le35.t (le39.t le54)))))),hS⟩
 intro h51 h
 refine cseq (nz ?_)
 iterate 2 refine st ?_
 refine nw ?_
 refine ccutE ([62]) (by decide) (fun m w=>∃ μx b55,m=(yK50 (yK10 (.i (.bool b55)::(yK1 (yO1 62 [])))))∧r3_type_j1 self p_1 p_2 p_3 p_4 b55=some r∧Le μ6 μx∧Sq μx w0 w (rsF)) (by rintro _ _ ⟨_,_,rfl,_⟩; rfl) ?_ ?_
 refine zCd h ?_ ?_
 intro h56 h
 refine cskip (xl ?_)
 exact ⟨_,_,rfl,(aK50 (aK10 (aI (aK1 (aO1 aZ))))),_,(decide (p_4.Kind=11)),rfl,h,Le.r,hS⟩
 intro h56 h
 refine creg ?_
 iterate 2 refine st ?_
 refine wnil (xl ?_)
 exact ⟨_,_,rfl,(aK50 (aK10 (aI (aK1 (aO1 aZ))))),_,(decide (p_4.Kind=12)),rfl,h,Le.r,hS⟩
 rintro _ t w12 ⟨μ10,b55,rfl,h,le57,hS⟩
 unfold r3_type_j1 at h
 refine nrm (mK50 (mK10 (mi (mK1 (mO1 mz))))) (xn ?_)
 refine zCb h ?_ ?_
 intro h58 h
 refine nz (ld ((m34 _ ((le39.t le57) _ hS.a)).one d0) ?_)
 obtain ⟨r59,g60,h⟩:=bI h
 refine wl (s_callc isfn83 (et (k60 d4)) (e1 ec e0) (IH.r3_ask (hg.t (le25.t (le27.t (le29.t (le31.t (le35.t (le39.t le57))))))) (m3.up (le25.t (le27.t (le29.t (le31.t (le35.t (le39.t le57))))))) (m24.up (le27.t (le29.t (le31.t (le35.t (le39.t le57)))))) (m6.up (le25.t (le27.t (le29.t (le31.t (le35.t (le39.t le57))))))) (m9.up (le25.t (le27.t (le29.t (le31.t (le35.t (le39.t le57))))))) (m26.up (le29.t (le31.t (le35.t (le39.t le57))))) (m12.up (le25.t (le27.t (le29.t (le31.t (le35.t (le39.t le57))))))) (m28.up (le31.t (le35.t (le39.t le57)))) (m15.up (le25.t (le27.t (le29.t (le31.t (le35.t (le39.t le57))))))) (m30.up (le35.t (le39.t le57))) g60 hS) ?_)
 rintro _ w13 ⟨μ11,rfl,le61,hS⟩
 refine po ?_
 iterate 5 refine st ?_
 refine ny (nz ?_)
 iterate 2 refine st ?_
 refine nw ?_
 refine zCd h ?_ ?_
 intro h62 h
 refine nz ?_
 iterate 3 refine st ?_
 refine nw (cret ?_)
 refine (fun h=>xr (br (xr h))) ?_
 obtain rfl:=oI h
 refine ret2 rfl d8 d9 ?_
 exact ⟨_,rfl,(le25.t (le27.t (le29.t (le31.t (le35.t (le39.t (le57.t le61))))))),hS⟩
 intro h62 h
 refine cskip (xn (nz (ld ((m34 _ ((le39.t (le57.t le61)) _ hS.a)).one d0) ?_)))
 obtain ⟨r63,g64,h⟩:=bI h
 refine wl (s_callc isfn83 (et (k70 d2)) (e1 ec e0) (IH.r3_ask (hg.t (le25.t (le27.t (le29.t (le31.t (le35.t (le39.t (le57.t le61)))))))) (m3.up (le25.t (le27.t (le29.t (le31.t (le35.t (le39.t (le57.t le61)))))))) (m24.up (le27.t (le29.t (le31.t (le35.t (le39.t (le57.t le61))))))) (m6.up (le25.t (le27.t (le29.t (le31.t (le35.t (le39.t (le57.t le61)))))))) (m9.up (le25.t (le27.t (le29.t (le31.t (le35.t (le39.t (le57.t le61)))))))) (m26.up (le29.t (le31.t (le35.t (le39.t (le57.t le61)))))) (m12.up (le25.t (le27.t (le29.t (le31.t (le35.t (le39.t (le57.t le61)))))))) (m28.up (le31.t (le35.t (le39.t (le57.t le61))))) (m15.up (le25.t (le27.t (le29.t (le31.t (le35.t (le39.t (le57.t le61)))))))) (m30.up (le35.t (le39.t (le57.t le61)))) g64 hS) ?_)
 rintro _ w14 ⟨μ12,rfl,le65,hS⟩
 refine po ?_
 iterate 5 refine st ?_
 refine ny (nz ?_)
 iterate 2 refine st ?_
 refine nw ?_
 refine zCd h ?_ ?_
 intro h66 h
 refine nz ?_
 iterate 3 refine st ?_
 refine nw (cret ?_)
 refine (fun h=>xr (br (xr h))) ?_
 obtain rfl:=oI h
 refine ret2 rfl d8 d9 ?_
 exact ⟨_,rfl,(le25.t (le27.t (le29.t (le31.t (le35.t (le39.t (le57.t (le61.t le65)))))))),hS⟩
 intro h66 h
 refine cskip (xn (cseq (cseq ?_)))
 refine ccutE (rg 79 7) (by decide) (fun m w=>∃ μx b67,m=(yK50 (yK20 (yK9 (yO7 79 (.i (.bool b67)::[])))))∧r3_type_j2 b67=some r∧Le μ12 μx∧Sq μx w0 w (rsF)) (by rintro _ _ ⟨_,_,rfl,_⟩; rfl) ?_ ?_
 refine creg ?_
 iterate 2 refine st ?_
 refine wl (su (u_nes (et (k70 d9)) (et (k80 d0))) (dt (q80 p1)) (st ?_))
 refine zWd 82 h ?_ ?_
 intro h68 h
 refine sn rfl rfl (sn rfl rfl (sn rfl rfl (st (wnil (xl ?_)))))
 exact ⟨_,_,rfl,(aK50 (aK20 (aK9 (aO7 (aI aZ))))),_,true,rfl,h,Le.r,hS⟩
 intro h68 h
 refine sy rfl ?_
 obtain ⟨u69,g70,h⟩:=bI h
 refine wy rfl (k80 d2) (s_idxc underlying9 (et (k80 d3)) ec g70 (dt (q80 p4)) (sy rfl (st (wnil (xl ?_)))))
 exact ⟨_,_,rfl,(aK50 (aK20 (aK9 (aO7 (aI aZ))))),_,(decide ((u69.toNat:Int)=61)),rfl,h,Le.r,hS⟩
 rintro _ t w15 ⟨μ13,b67,rfl,h,le71,hS⟩
 unfold r3_type_j2 at h
 refine nrm (mK50 (mK20 (mK9 (mO7 (mi mz))))) (xn ?_)
 refine zCb h ?_ ?_
 intro h72 h
 refine nz ?_
 iterate 2 refine st ?_
 refine nw (cret ?_)
 refine (fun h=>xr (br (xr h))) ?_
 obtain rfl:=oI h
 refine ret2 rfl d8 d9 ?_
 exact ⟨_,rfl,(le25.t (le27.t (le29.t (le31.t (le35.t (le39.t (le57.t (le61.t (le65.t le71))))))))),hS⟩
 intro h72 h
 refine cskip (xn (nz ?_))
 iterate 2 refine st ?_
 refine nw (cret ?_)
 refine (fun h=>br (xr h)) ?_
 obtain rfl:=oI h
 refine ret2 rfl d8 d9 ?_
 exact ⟨_,rfl,(le25.t (le27.t (le29.t (le31.t (le35.t (le39.t (le57.t (le61.t (le65.t le71))))))))),hS⟩
 intro h58 h
 refine nz ?_
 iterate 2 refine st ?_
 refine nw ?_
 refine zCd h ?_ ?_
 intro h73 h
 refine nz (st ?_)
 obtain ⟨r74,g75,h⟩:=bI h
 refine wl (s_callc isfn85 (et (k90 d0)) (e1 ec e0) (IH.r3_given (hg.t (le25.t (le27.t (le29.t (le31.t (le35.t (le39.t le57))))))) (m3.up (le25.t (le27.t (le29.t (le31.t (le35.t (le39.t le57))))))) (m24.up (le27.t (le29.t (le31.t (le35.t (le39.t le57)))))) (m15.up (le25.t (le27.t (le29.t (le31.t (le35.t (le39.t le57))))))) (m30.up (le35.t (le39.t le57))) (m3.up (le25.t (le27.t (le29.t (le31.t (le35.t (le39.t le57))))))) (m24.up (le27.t (le29.t (le31.t (le35.t (le39.t le57)))))) (m6.up (le25.t (le27.t (le29.t (le31.t (le35.t (le39.t le57))))))) (m9.up (le25.t (le27.t (le29.t (le31.t (le35.t (le39.t le57))))))) (m26.up (le29.t (le31.t (le35.t (le39.t le57))))) (m12.up (le25.t (le27.t (le29.t (le31.t (le35.t (le39.t le57))))))) (m28.up (le31.t (le35.t (le39.t le57)))) (m15.up (le25.t (le27.t (le29.t (le31.t (le35.t (le39.t le57))))))) (m30.up (le35.t (le39.t le57))) (m34.up (le39.t le57)) (m38.up le57) g75 hS) ?_)
 rintro _ w16 ⟨μ14,a77,c78,a80,c81,rfl,le76,hS,m79,m82⟩
 refine po ?_
 iterate 3 refine st ?_
 refine wl (s_alloc ti59 hS ?_); clear hS; intro b83 w17 hb84 hS; refine po ?_
 refine wl (s_storeA ti59 (et (k10 d8)) (et (k90 d2)) rfl rfl hS d0 rfl p0 dn ?_)
 clear hS; intro w18 hS
 refine st (ny (nz ?_))
 iterate 2 refine st ?_
 refine nw ?_
 refine zCd h ?_ ?_
 intro h85 h
 refine nz ?_
 iterate 3 refine st ?_
 refine nw (cret ?_)
 refine (fun h=>xr (br (xr h))) ?_
 obtain rfl:=oI h
 refine ret2 rfl d8 d9 ?_
 replace hS:=hS.drop Rm.z
 exact ⟨_,rfl,(le25.t (le27.t (le29.t (le31.t (le35.t (le39.t (le57.t le76))))))),hS⟩
 intro h85 h
 refine cskip (xn (nz (st (lds ((hS.blk d0).cellsAt (Sb.s d2 (Sb.s d3 Sb.z))) rfl ?_))))
 obtain ⟨r86,g87,h⟩:=bI h
 refine ca (r3_word_w (hg.t (le25.t (le27.t (le29.t (le31.t (le35.t (le39.t (le57.t le76)))))))) g87 hS) ?_
 rintro _ w19 ⟨μ15,rfl,le88,hS⟩
 refine po ?_
 iterate 2 refine st ?_
 refine nw (cret ?_)
 refine (fun h=>br (xr h)) ?_
 obtain rfl:=oI h
 refine ret2 rfl d8 d9 ?_
 replace hS:=hS.drop Rm.z
 exact ⟨_,rfl,(le25.t (le27.t (le29.t (le31.t (le35.t (le39.t (le57.t (le76.t le88)))))))),hS⟩
 intro h73 h
 refine nz ?_
 iterate 2 refine st ?_
 refine nw ?_
 refine zCd h ?_ ?_
 intro h89 h
 refine nz (st ?_)
 obtain ⟨r90,g91,h⟩:=bI h
 refine wl (s_callc isfn85 (et (k100 d3)) (e1 ec e0) (IH.r3_given (hg.t (le25.t (le27.t (le29.t (le31.t (le35.t (le39.t le57))))))) (m3.up (le25.t (le27.t (le29.t (le31.t (le35.t (le39.t le57))))))) (m24.up (le27.t (le29.t (le31.t (le35.t (le39.t le57)))))) (m15.up (le25.t (le27.t (le29.t (le31.t (le35.t (le39.t le57))))))) (m30.up (le35.t (le39.t le57))) (m3.up (le25.t (le27.t (le29.t (le31.t (le35.t (le39.t le57))))))) (m24.up (le27.t (le29.t (le31.t (le35.t (le39.t le57)))))) (m6.up (le25.t (le27.t (le29.t (le31.t (le35.t (le39.t le57))))))) (m9.up (le25.t (le27.t (le29.t (le31.t (le35.t (le39.t le57))))))) (m26.up (le29.t (le31.t (le35.t (le39.t le57))))) (m12.up (le25.t (le27.t (le29.t (le31.t (le35.t (le39.t le57))))))) (m28.up (le31.t (le35.t (le39.t le57)))) (m15.up (le25.t (le27.t (le29.t (le31.t (le35.t (le39.t le57))))))) (m30.up (le35.t (le39.t le57))) (m34.up (le39.t le57)) (m38.up le57) g91 hS) ?_)
 rintro _ w20 ⟨μ16,a93,c94,a96,c97,rfl,le92,hS,m95,m98⟩
 refine po ?_
 iterate 3 refine st ?_
 refine wl (s_alloc ti59 hS ?_); clear hS; intro b99 w21 hb100 hS; refine po ?_
 refine wl (s_storeA ti59 (et (k20 d0)) (et (k100 d5)) rfl rfl hS d0 rfl p0 dn ?_)
 clear hS; intro w22 hS
 refine st (nx (st (ld ((m30 _ ((le35.t (le39.t (le57.t le92))) _ hS.a)).one d2) ?_)))
 obtain ⟨s101,g102,h⟩:=bI h
 refine wl (su (u_catc ec (et (k100 d8)) g102) (dt (q100 p9)) ?_)
 iterate 3 refine st ?_
 refine nw (cret ?_)
 refine (fun h=>br (xr h)) ?_
 obtain rfl:=oI h
 refine ret2 rfl d8 d9 ?_
 replace hS:=hS.drop Rm.z
 exact ⟨_,rfl,(le25.t (le27.t (le29.t (le31.t (le35.t (le39.t (le57.t le92))))))),hS⟩
 intro h89 h
 refine nz ?_
 iterate 2 refine st ?_
 refine nw ?_
 refine zCd h ?_ ?_
 intro h103 h
 refine nz (ld ((m24 _ ((le27.t (le29.t (le31.t (le35.t (le39.t le57))))) _ hS.a)).one d0) (st (ld ((m30 _ ((le35.t (le39.t le57)) _ hS.a)).one d2) ?_)))
 obtain ⟨r104,g105,h⟩:=bI h
 refine ca (r3_find_w (hg.t (le25.t (le27.t (le29.t (le31.t (le35.t (le39.t le57))))))) (m3.up (le25.t (le27.t (le29.t (le31.t (le35.t (le39.t le57))))))) g105 hS) ?_
 rintro _ w23 ⟨μ17,a107,c108,a110,c111,rfl,le106,hS,m109,m112⟩
 refine po ?_
 iterate 3 refine st ?_
 refine wl (s_alloc ti59 hS ?_); clear hS; intro b113 w24 hb114 hS; refine po ?_
 refine wl (s_storeA ti59 (et (k20 d2)) (et (k100 (k10 d8))) rfl rfl hS d0 rfl p0 dn ?_)
 clear hS; intro w25 hS
 refine st (ny (nz ?_))
 iterate 2 refine st ?_
 refine nw ?_
 refine zCe h ?_ ?_
 intro h115 h
 refine nz ?_
 iterate 2 refine st ?_
 refine nw (cret ?_)
 refine (fun h=>xr (br (xr h))) ?_
 obtain rfl:=oI h
 refine ret2 rfl d8 d9 ?_
 replace hS:=hS.drop Rm.z
 exact ⟨_,rfl,(le25.t (le27.t (le29.t (le31.t (le35.t (le39.t (le57.t le106))))))),hS⟩
 intro h115 h
 refine cskip (xn (nz (st (lds ((hS.blk d0).cellsAt (Sb.s d2 (Sb.s d3 Sb.z))) rfl ?_))))
 obtain ⟨r116,g117,h⟩:=bI h
 refine ca (r3_word_w (hg.t (le25.t (le27.t (le29.t (le31.t (le35.t (le39.t (le57.t le106)))))))) g117 hS) ?_
 rintro _ w26 ⟨μ18,rfl,le118,hS⟩
 refine po ?_
 iterate 2 refine st ?_
 refine nw (cret ?_)
 refine (fun h=>br (xr h)) ?_
 obtain rfl:=oI h
 refine ret2 rfl d8 d9 ?_
 replace hS:=hS.drop Rm.z
 exact ⟨_,rfl,(le25.t (le27.t (le29.t (le31.t (le35.t (le39.t (le57.t (le106.t le118)))))))),hS⟩
 intro h103 h
 refine nz ?_
 iterate 2 refine st ?_
 refine nw ?_
 refine zCd h ?_ ?_
 intro h119 h
 refine cseq (nz (st (ld ((m26 _ ((le29.t (le31.t (le35.t (le39.t le57)))) _ hS.a)).one d0) (st (nw ?_)))))
 refine zCd h ?_ ?_
 intro h120 h
 refine nz ?_
 iterate 2 refine st ?_
 refine nw (cret ?_)
 refine (fun h=>xr (br (xr h))) ?_
 obtain rfl:=oI h
 refine ret2 rfl d8 d9 ?_
 exact ⟨_,rfl,(le25.t (le27.t (le29.t (le31.t (le35.t (le39.t le57)))))),hS⟩
 intro h120 h
 refine cskip (xn (cseq ?_))
 refine ccutE (rg 130 8) (by decide) (fun m w=>∃ μx s121 i122,m=(yK8 (.i (S s121)::(.i (.int .i64 i122)::(yK50 (yK50 (yK20 (yO8 130 [])))))))∧r3_type_j3 s121 i122=some r∧Le μ10 μx∧Sq μx w0 w (rsF)) (by rintro _ _ ⟨_,_,_,rfl,_⟩; rfl) ?_ ?_
 refine cdw hS ?_; clear hS; intro w27 hS
 refine sf_start (fpi 0 [0,1,2,6,7,8,9] rfl (fr_ 1 [1,2,6,7,8,9] rfl (u_loads ti55 (et (k100 (k30 d0))) ((m26 _ ((le29.t (le31.t (le35.t (le39.t le57)))) _ hS.a)).sb 4 2) rfl) (q100 (q30 p1)) (fr_ 3 [3,7,8,9] rfl (u_load ti169 (et (k10 d1)) ((m38 _ (le57 _ hS.a)).one d0)) (q100 (q30 p3)) (fpi 4 [4,5,6,7,8,9] rfl (fr_ 5 [5,6,7,8,9] rfl (u_loads ti55 (et (k100 (k30 d4))) ((m26 _ ((le29.t (le31.t (le35.t (le39.t le57)))) _ hS.a)).sb 2 2) rfl) (q100 (q30 p5)) ?_)))))
 obtain ⟨r123,g124,h⟩:=bI h
 refine sf1 rfl rfl rfl rfl (wn0 rfl) (s_callv isfn43 ef (e1 (et (k100 (k30 d1))) e0) (r3_word_w (hg.t (le25.t (le27.t (le29.t (le31.t (le35.t (le39.t le57))))))) g124 hS) ?_)
 rintro _ w28 ⟨μ19,rfl,le125,hS⟩
 refine po ?_
 refine ⟨(Mons.s (u_loads ti55 (et (k100 (k30 d4))) ((m26 _ ((le29.t (le31.t (le35.t (le39.t (le57.t le125))))) _ hS.a)).sb 2 2) rfl) (Mons.s (u_load ti169 (et (k10 d1)) ((m38 _ ((le57.t le125) _ hS.a)).one d0)) Mons.z)),?_⟩
 obtain ⟨r126,g127,h⟩:=bI h
 refine sf1 rfl rfl rfl rfl (wn0 rfl) (s_callv isfn43 ef (e1 (et (k100 (k30 d5))) e0) (r3_word_w (hg.t (le25.t (le27.t (le29.t (le31.t (le35.t (le39.t (le57.t le125)))))))) g127 hS) ?_)
 rintro _ w29 ⟨μ20,rfl,le128,hS⟩
 refine po ?_
 refine ⟨(Mons.s (u_load ti169 (et (k10 d1)) ((m38 _ ((le57.t (le125.t le128)) _ hS.a)).one d0)) Mons.z),?_⟩
 obtain ⟨r129,g130,h⟩:=bI h
 refine sf1 rfl rfl rfl rfl (wn0 rfl) (s_callc isfn84 (et (k100 (k30 d3))) (e1 ec (e1 (et (k100 (k30 d6))) e0)) (IH.r3_must (hg.t (le25.t (le27.t (le29.t (le31.t (le35.t (le39.t (le57.t (le125.t le128))))))))) (m3.up (le25.t (le27.t (le29.t (le31.t (le35.t (le39.t (le57.t (le125.t le128))))))))) (m24.up (le27.t (le29.t (le31.t (le35.t (le39.t (le57.t (le125.t le128)))))))) (m6.up (le25.t (le27.t (le29.t (le31.t (le35.t (le39.t (le57.t (le125.t le128))))))))) (m9.up (le25.t (le27.t (le29.t (le31.t (le35.t (le39.t (le57.t (le125.t le128))))))))) (m26.up (le29.t (le31.t (le35.t (le39.t (le57.t (le125.t le128))))))) (m12.up (le25.t (le27.t (le29.t (le31.t (le35.t (le39.t (le57.t (le125.t le128))))))))) (m28.up (le31.t (le35.t (le39.t (le57.t (le125.t le128)))))) (m15.up (le25.t (le27.t (le29.t (le31.t (le35.t (le39.t (le57.t (le125.t le128))))))))) (m30.up (le35.t (le39.t (le57.t (le125.t le128))))) (m34.up (le39.t (le57.t (le125.t le128)))) g130 hS) ?_)
 rintro _ w30 ⟨μ21,rfl,le131,hS⟩
 refine po ?_
 refine ⟨Mons.z,?_⟩
 refine fpi 8 [8,9] rfl (fpi 9 [9] rfl (sf_nil (xl ?_)))
 exact ⟨_,_,rfl,(aK8 (aI (aI (aK50 (aK50 (aK20 (aO8 aZ))))))),_,_,_,rfl,h,(le125.t (le128.t le131)),hS⟩
 rintro _ t w31 ⟨μ22,s121,i122,rfl,h,le132,hS⟩
 unfold r3_type_j3 at h
 refine nrm (mK8 (mi (mi (mK50 (mK50 (mK20 (mO8 mz))))))) (xn (cret ?_))
 refine (fun h=>br (xr h)) ?_
 obtain rfl:=oI h
 refine ret2 rfl d8 d9 ?_
 exact ⟨_,rfl,(le25.t (le27.t (le29.t (le31.t (le35.t (le39.t (le57.t le132))))))),hS⟩
 intro h119 h
 refine cseq (nz ?_)
 iterate 2 refine st ?_
 refine nw ?_
 refine ccutE ([140]) (by decide) (fun m w=>∃ μx b133,m=(yK50 (yK50 (yK20 (yK10 (yK8 (.i (.bool b133)::(yK1 (yO1 140 []))))))))∧r3_type_j4 self p_1 p_2 p_3 p_4 b133=some r∧Le μ10 μx∧Sq μx w0 w (rsF)) (by rintro _ _ ⟨_,_,rfl,_⟩; rfl) ?_ ?_
 refine zCd h ?_ ?_
 intro h134 h
 refine cskip (xl ?_)
 exact ⟨_,_,rfl,(aK50 (aK50 (aK20 (aK10 (aK8 (aI (aK1 (aO1 aZ)))))))),_,(decide (p_4.Kind=23)),rfl,h,Le.r,hS⟩
 intro h134 h
 refine creg ?_
 iterate 2 refine st ?_
 refine wnil (xl ?_)
 exact ⟨_,_,rfl,(aK50 (aK50 (aK20 (aK10 (aK8 (aI (aK1 (aO1 aZ)))))))),_,(decide (p_4.Kind=24)),rfl,h,Le.r,hS⟩
 rintro _ t w32 ⟨μ23,b133,rfl,h,le135,hS⟩
 unfold r3_type_j4 at h
 refine nrm (mK50 (mK50 (mK20 (mK10 (mK8 (mi (mK1 (mO1 mz)))))))) (xn ?_)
 refine zCb h ?_ ?_
 intro h136 h
 refine nz (ld ((m34 _ ((le39.t (le57.t le135)) _ hS.a)).one d0) ?_)
 obtain ⟨r137,g138,h⟩:=bI h
 refine wl (s_callc isfn83 (et (k100 (k40 d2))) (e1 ec e0) (IH.r3_ask (hg.t (le25.t (le27.t (le29.t (le31.t (le35.t (le39.t (le57.t le135)))))))) (m3.up (le25.t (le27.t (le29.t (le31.t (le35.t (le39.t (le57.t le135)))))))) (m24.up (le27.t (le29.t (le31.t (le35.t (le39.t (le57.t le135))))))) (m6.up (le25.t (le27.t (le29.t (le31.t (le35.t (le39.t (le57.t le135)))))))) (m9.up (le25.t (le27.t (le29.t (le31.t (le35.t (le39.t (le57.t le135)))))))) (m26.up (le29.t (le31.t (le35.t (le39.t (le57.t le135)))))) (m12.up (le25.t (le27.t (le29.t (le31.t (le35.t (le39.t (le57.t le135)))))))) (m28.up (le31.t (le35.t (le39.t (le57.t le135))))) (m15.up (le25.t (le27.t (le29.t (le31.t (le35.t (le39.t (le57.t le135)))))))) (m30.up (le35.t (le39.t (le57.t le135)))) g138 hS) ?_)
 rintro _ w33 ⟨μ24,rfl,le139,hS⟩
 refine po ?_
 iterate 5 refine st ?_
 refine ny (nz ?_)
 iterate 2 refine st ?_
 refine nw ?_
 refine zCd h ?_ ?_
 intro h140 h
 refine nz ?_
 iterate 3 refine st ?_
 refine nw (cret ?_)
 refine (fun h=>xr (br (xr h))) ?_
 obtain rfl:=oI h
 refine ret2 rfl d8 d9 ?_
 exact ⟨_,rfl,(le25.t (le27.t (le29.t (le31.t (le35.t (le39.t (le57.t (le135.t le139)))))))),hS⟩
 intro h140 h
 refine cskip (xn (cseq (nz (st ?_))))
 obtain ⟨u141,g142,h⟩:=bI h
 refine wl (s_idxc underlying9 (et (k100 (k40 d9))) ec g142 (dt (q100 (q50 p0))) (st (nw ?_)))
 refine zCd h ?_ ?_
 intro h143 h
 refine nz ?_
 iterate 2 refine st ?_
 refine nw (cret ?_)
 refine (fun h=>xr (br (xr h))) ?_
 obtain rfl:=oI h
 refine ret2 rfl d8 d9 ?_
 exact ⟨_,rfl,(le25.t (le27.t (le29.t (le31.t (le35.t (le39.t (le57.t (le135.t le139)))))))),hS⟩
 intro h143 h
 refine cskip (xn (cseq (nz (st (ld ((m30 _ ((le35.t (le39.t (le57.t (le135.t le139)))) _ hS.a)).one d0) (st (nw ?_)))))))
 refine zCd h ?_ ?_
 intro h144 h
 refine nz ?_
 iterate 2 refine st ?_
 refine nw (cret ?_)
 refine (fun h=>xr (br (xr h))) ?_
 obtain rfl:=oI h
 refine ret2 rfl d8 d9 ?_
 exact ⟨_,rfl,(le25.t (le27.t (le29.t (le31.t (le35.t (le39.t (le57.t (le135.t le139)))))))),hS⟩
 intro h144 h
 refine cskip (xn (cseq ?_))
 refine ccutE ([27]++rg 155 7) (by decide) (fun m w=>∃ μx b145 i146 s147 i148 s149 i150 s151 i152 l155 a153 c154 l159 a157 c158,m=(yK20 (yK6 (.i (.pointer (some ⟨b145,0,none⟩))::(yO1 27 (yK50 (yK50 (yK20 (yK7 (yO7 155 [])))))))))∧r3_type_j5 self p_1 p_2 p_3 p_4 i146 s147 i148 s149 i150 s151 i152 l155 l159=some r∧Le μ24 μx∧Sq μx w0 w (.blk b145 59 [.int .i64 i146,S s147,.int .i64 i148,S s149,.int .i64 i150,S s151,.int .i64 i152,.slice a153 l155.length c154,.slice a157 l159.length c158]::rsF)∧Sl μx a153 c154 l155∧Sl μx a157 c158 l159) (by rintro _ _ ⟨_,_,_,_,_,_,_,_,_,_,_,_,_,_,_,rfl,_⟩; rfl) ?_ ?_
 refine cdw hS ?_; clear hS; intro w34 hS
 refine sf_start (fr_ 0 [0,3,4,5,6,8,9] rfl (u_load ti22 (et d4) ((m24 _ ((le27.t (le29.t (le31.t (le35.t (le39.t (le57.t (le135.t le139))))))) _ hS.a)).one d0)) (q100 (q50 p6)) (fpi 1 [1,2,3,4,5,6,8,9] rfl ?_))
 obtain ⟨s161,g162,h⟩:=bI h
 refine fp 2 [2,3,4,5,6,8,9] rfl (u_cutloc underlying9 (et (k100 (k50 d7))) ec g162) (q100 (q50 p8)) ?_
 refine sf2 (i:=3) (j:=7) rfl rfl rfl rfl rfl rfl rfl (wn0 rfl) (wn0 rfl) ?_ ?_
 obtain ⟨r163,g164,h⟩:=bI h
 refine id (s_callv isfn42 ef (e1 (et (k100 (k50 d6))) (e1 ec (e1 (et (k100 (k50 d8))) e0))) (r3_find_w (hg.t (le25.t (le27.t (le29.t (le31.t (le35.t (le39.t (le57.t (le135.t le139))))))))) (m3.up (le25.t (le27.t (le29.t (le31.t (le35.t (le39.t (le57.t (le135.t le139))))))))) g164 hS) ?_)
 rintro _ w35 ⟨μ25,a166,c167,a169,c170,rfl,le165,hS,m168,m171⟩
 refine po ?_
 refine ⟨Mons.z,?_⟩
 refine fpi 4 [4,5,6,8,9] rfl (fpi 5 [5,8,9] rfl (fpi 6 [6,9] rfl ?_))
 refine sf1 rfl rfl rfl rfl (wn0 rfl) (s_alloc ti59 hS ?_); clear hS; intro b172 w36 hb173 hS; refine po ?_
 refine ⟨Mons.z,?_⟩
 refine sf1 rfl rfl rfl rfl (wn0 rfl) (s_storeA ti59 (et (k20 d6)) (et (k100 (k60 d0))) rfl rfl hS d0 rfl p0 dn ?_)
 clear hS; intro w37 hS
 refine ⟨Mons.z,?_⟩
 refine fpi 9 [9] rfl (sf_nil (xl ?_))
 exact ⟨_,_,rfl,(aK20 (aK6 (aI (aO1 (aK50 (aK50 (aK20 (aK7 (aO7 aZ))))))))),_,_,r163.1.Kind,r163.1.Name,r163.1.Typ.Kind,r163.1.Typ.Gen,r163.1.Takes.Kind,r163.1.Takes.Gen,r163.1.Cap,r163.1.Params,_,_,r163.1.Body,_,_,rfl,h,le165,hS,m168,m171⟩
 obtain ⟨r163,g164,h⟩:=bI h
 refine id (s_alloc ti59 hS ?_); clear hS; intro b174 w38 hb175 hS; refine po ?_
 refine ⟨(Mons.s (u_load ti22 (et d4) ((m24 _ ((le27.t (le29.t (le31.t (le35.t (le39.t (le57.t (le135.t le139))))))) _ hS.a)).one d0)) Mons.z),?_⟩
 refine sf1 rfl rfl rfl rfl (wn0 rfl) (s_callv isfn42 ef (e1 (et (k100 (k50 d6))) (e1 ec (e1 (et (k100 (k50 d8))) e0))) (r3_find_w (hg.t (le25.t (le27.t (le29.t (le31.t (le35.t (le39.t (le57.t (le135.t le139))))))))) (m3.up (le25.t (le27.t (le29.t (le31.t (le35.t (le39.t (le57.t (le135.t le139))))))))) g164 hS) ?_)
 rintro _ w39 ⟨μ26,a177,c178,a180,c181,rfl,le176,hS,m179,m182⟩
 refine po ?_
 refine ⟨Mons.z,?_⟩
 refine fpi 4 [4,5,6,8,9] rfl (fpi 5 [5,8,9] rfl (fpi 6 [6,9] rfl (sf1 rfl rfl rfl rfl (wn0 rfl) (s_storeA ti59 (et (k20 d6)) (et (k100 (k60 d0))) rfl rfl hS d0 rfl p0 dn ?_))))
 clear hS; intro w40 hS
 refine ⟨Mons.z,?_⟩
 refine fpi 9 [9] rfl (sf_nil (xl ?_))
 exact ⟨_,_,rfl,(aK20 (aK6 (aI (aO1 (aK50 (aK50 (aK20 (aK7 (aO7 aZ))))))))),_,_,r163.1.Kind,r163.1.Name,r163.1.Typ.Kind,r163.1.Typ.Gen,r163.1.Takes.Kind,r163.1.Takes.Gen,r163.1.Cap,r163.1.Params,_,_,r163.1.Body,_,_,rfl,h,le176,hS,m179,m182⟩
 rintro _ t w41 ⟨μ27,b145,i146,s147,i148,s149,i150,s151,i152,l155,a153,c154,l159,a157,c158,rfl,h,le183,hS,m184,m185⟩
 unfold r3_type_j5 at h
 refine nrm (mK20 (mK6 (mi (mO1 (mK50 (mK50 (mK20 (mK7 (mO7 mz))))))))) (xn (cseq ?_))
 refine ccutE (rg 162 8) (by decide) (fun m w=>∃ μx s186 i187,m=(yK8 (.i (S s186)::(.i (.int .i64 i187)::(yK50 (yK50 (yK50 (yK2 (yO8 162 []))))))))∧r3_type_j6 s186 i187=some r∧Le μ27 μx∧Sq μx w0 w (rsF)) (by rintro _ _ ⟨_,_,_,rfl,_⟩; rfl) ?_ ?_
 refine cdw hS ?_; clear hS; intro w42 hS
 refine sf_start (fpi 0 [0,1,2,6,7,8,9] rfl (fr_ 1 [1,2,6,7,8,9] rfl (u_loads ti55 (et (k100 (k60 d2))) ((hS.blk d0).cellsAt (Sb.s d2 (Sb.s d3 Sb.z))) rfl) (q100 (q60 p3)) (fr_ 3 [3,7,8,9] rfl (u_load ti169 (et (k10 d1)) ((m38 _ ((le57.t (le135.t (le139.t le183))) _ hS.a)).one d0)) (q100 (q60 p5)) (fpi 4 [4,5,6,7,8,9] rfl (fr_ 5 [5,6,7,8,9] rfl (u_loads ti55 (et (k100 (k60 d6))) ((hS.blk d0).cellsAt (Sb.s d4 (Sb.s d5 Sb.z))) rfl) (q100 (q60 p7)) ?_)))))
 obtain ⟨r188,g189,h⟩:=bI h
 refine sf1 rfl rfl rfl rfl (wn0 rfl) (s_callv isfn43 ef (e1 (et (k100 (k60 d3))) e0) (r3_word_w (p_1:=(TType.mk i148 s149)) (hg.t (le25.t (le27.t (le29.t (le31.t (le35.t (le39.t (le57.t (le135.t (le139.t le183)))))))))) g189 hS) ?_)
 rintro _ w43 ⟨μ28,rfl,le190,hS⟩
 refine po ?_
 refine ⟨(Mons.s (u_loads ti55 (et (k100 (k60 d6))) ((hS.blk d0).cellsAt (Sb.s d4 (Sb.s d5 Sb.z))) rfl) (Mons.s (u_load ti169 (et (k10 d1)) ((m38 _ ((le57.t (le135.t (le139.t (le183.t le190)))) _ hS.a)).one d0)) Mons.z)),?_⟩
 obtain ⟨r191,g192,h⟩:=bI h
 refine sf1 rfl rfl rfl rfl (wn0 rfl) (s_callv isfn43 ef (e1 (et (k100 (k60 d7))) e0) (r3_word_w (p_1:=(TType.mk i150 s151)) (hg.t (le25.t (le27.t (le29.t (le31.t (le35.t (le39.t (le57.t (le135.t (le139.t (le183.t le190))))))))))) g192 hS) ?_)
 rintro _ w44 ⟨μ29,rfl,le193,hS⟩
 refine po ?_
 refine ⟨(Mons.s (u_load ti169 (et (k10 d1)) ((m38 _ ((le57.t (le135.t (le139.t (le183.t (le190.t le193))))) _ hS.a)).one d0)) Mons.z),?_⟩
 obtain ⟨r194,g195,h⟩:=bI h
 refine sf1 rfl rfl rfl rfl (wn0 rfl) (s_callc isfn84 (et (k100 (k60 d5))) (e1 ec (e1 (et (k100 (k60 d8))) e0)) (IH.r3_must (hg.t (le25.t (le27.t (le29.t (le31.t (le35.t (le39.t (le57.t (le135.t (le139.t (le183.t (le190.t le193)))))))))))) (m3.up (le25.t (le27.t (le29.t (le31.t (le35.t (le39.t (le57.t (le135.t (le139.t (le183.t (le190.t le193)))))))))))) (m24.up (le27.t (le29.t (le31.t (le35.t (le39.t (le57.t (le135.t (le139.t (le183.t (le190.t le193))))))))))) (m6.up (le25.t (le27.t (le29.t (le31.t (le35.t (le39.t (le57.t (le135.t (le139.t (le183.t (le190.t le193)))))))))))) (m9.up (le25.t (le27.t (le29.t (le31.t (le35.t (le39.t (le57.t (le135.t (le139.t (le183.t (le190.t le193)))))))))))) (m26.up (le29.t (le31.t (le35.t (le39.t (le57.t (le135.t (le139.t (le183.t (le190.t le193)))))))))) (m12.up (le25.t (le27.t (le29.t (le31.t (le35.t (le39.t (le57.t (le135.t (le139.t (le183.t (le190.t le193)))))))))))) (m28.up (le31.t (le35.t (le39.t (le57.t (le135.t (le139.t (le183.t (le190.t le193))))))))) (m15.up (le25.t (le27.t (le29.t (le31.t (le35.t (le39.t (le57.t (le135.t (le139.t (le183.t (le190.t le193)))))))))))) (m30.up (le35.t (le39.t (le57.t (le135.t (le139.t (le183.t (le190.t le193)))))))) (m34.up (le39.t (le57.t (le135.t (le139.t (le183.t (le190.t le193))))))) g195 hS) ?_)
 rintro _ w45 ⟨μ30,rfl,le196,hS⟩
 refine po ?_
 refine ⟨Mons.z,?_⟩
 refine fpi 8 [8,9] rfl (fpi 9 [9] rfl (sf_nil (xl ?_)))
 replace hS:=hS.drop Rm.z
 exact ⟨_,_,rfl,(aK8 (aI (aI (aK50 (aK50 (aK50 (aK2 (aO8 aZ)))))))),_,_,_,rfl,h,(le190.t (le193.t le196)),hS⟩
 rintro _ t w46 ⟨μ31,s186,i187,rfl,h,le197,hS⟩
 unfold r3_type_j6 at h
 refine nrm (mK8 (mi (mi (mK50 (mK50 (mK50 (mK2 (mO8 mz)))))))) (xn (cret ?_))
 refine (fun h=>br (xr h)) ?_
 obtain rfl:=oI h
 refine ret2 rfl d8 d9 ?_
 exact ⟨_,rfl,(le25.t (le27.t (le29.t (le31.t (le35.t (le39.t (le57.t (le135.t (le139.t (le183.t le197)))))))))),hS⟩
 intro h136 h
 refine cskip ?_
 refine (fun h=>bn (xn h)) ?_
 refine nz ?_
 iterate 2 refine st ?_
 refine ny (cseq ?_)
 refine ccutE (rg 170 7) (by decide) (fun m w=>∃ μx b198,m=(yK50 (yK50 (yK50 (yK20 (yO7 170 (.i (.bool b198)::[]))))))∧r3_type_j7 self p_1 p_2 p_3 p_4 b198=some r∧Le μ23 μx∧Sq μx w0 w (rsF)) (by rintro _ _ ⟨_,_,rfl,_⟩; rfl) ?_ ?_
 refine creg (st (ld ((m30 _ ((le35.t (le39.t (le57.t le135))) _ hS.a)).one d0) ?_))
 iterate 2 refine st ?_
 refine zWd 173 h ?_ ?_
 intro h199 h
 refine sn rfl rfl (sn rfl rfl (sn rfl rfl (st (wnil (xl ?_)))))
 exact ⟨_,_,rfl,(aK50 (aK50 (aK50 (aK20 (aO7 (aI aZ)))))),_,true,rfl,h,Le.r,hS⟩
 intro h199 h
 refine sy rfl (wy rfl (k100 (k70 d3)) (s_load ti3 (et (k100 (k70 d4))) ((m30 _ ((le35.t (le39.t (le57.t le135))) _ hS.a)).one d0) (dt (q100 (q70 p5))) (sy rfl (st (wnil (xl ?_))))))
 exact ⟨_,_,rfl,(aK50 (aK50 (aK50 (aK20 (aO7 (aI aZ)))))),_,(decide (p_4.Kind=18)),rfl,h,Le.r,hS⟩
 rintro _ t w47 ⟨μ32,b198,rfl,h,le200,hS⟩
 unfold r3_type_j7 at h
 refine nrm (mK50 (mK50 (mK50 (mK20 (mO7 (mi mz)))))) (xn ?_)
 refine ccutE ([]) (by decide) (fun m w=>∃ μx s201 s202,m=(yK20 (yK8 (.i (S s201)::(.i (S s202)::[]))))∧r3_type_j8 self p_1 p_2 p_3 p_4 s201 s202=some r∧Le μ32 μx∧Sq μx w0 w (rsF)) (by rintro _ _ ⟨_,_,_,rfl,_⟩; rfl) ?_ ?_
 refine zCb h ?_ ?_
 intro h203 h
 refine creg ?_
 iterate 2 refine st ?_
 refine wnil (xl ?_)
 exact ⟨_,_,rfl,(aK20 (aK8 (aI (aI aZ)))),_,[98,111,111,108],[98,111,111,108],rfl,h,Le.r,hS⟩
 intro h203 h
 refine cskip (xl ?_)
 exact ⟨_,_,rfl,(aK20 (aK8 (aI (aI aZ)))),_,[110,117,109],[110,117,109],rfl,h,Le.r,hS⟩
 rintro _ t w48 ⟨μ33,s201,s202,rfl,h,le204,hS⟩
 unfold r3_type_j8 at h
 refine nrm (mK20 (mK8 (mi (mi mz)))) (xn (cseq (cseq ?_)))
 refine ccutE (rg 178 7) (by decide) (fun m w=>∃ μx b205,m=(yK50 (yK50 (yK50 (yK20 (yK8 (yO7 178 (.i (.bool b205)::[])))))))∧r3_type_j9 self p_1 p_2 p_3 p_4 s201 s202 b205=some r∧Le μ33 μx∧Sq μx w0 w (rsF)) (by rintro _ _ ⟨_,_,rfl,_⟩; rfl) ?_ ?_
 refine creg (st (ld ((m30 _ ((le35.t (le39.t (le57.t (le135.t (le200.t le204))))) _ hS.a)).one d0) ?_))
 iterate 2 refine st ?_
 refine zWd 181 h ?_ ?_
 intro h206 h
 refine sy rfl (wy rfl (k100 (k80 d1)) (s_load ti3 (et (k100 (k80 d2))) ((m30 _ ((le35.t (le39.t (le57.t (le135.t (le200.t le204))))) _ hS.a)).one d0) (dt (q100 (q80 p3))) (sy rfl (st (wnil (xl ?_))))))
 exact ⟨_,_,rfl,(aK50 (aK50 (aK50 (aK20 (aK8 (aO7 (aI aZ))))))),_,(decide (p_4.Kind≤16)),rfl,h,Le.r,hS⟩
 intro h206 h
 refine sn rfl rfl (sn rfl rfl (sn rfl rfl (st (wnil (xl ?_)))))
 exact ⟨_,_,rfl,(aK50 (aK50 (aK50 (aK20 (aK8 (aO7 (aI aZ))))))),_,false,rfl,h,Le.r,hS⟩
 rintro _ t w49 ⟨μ34,b205,rfl,h,le207,hS⟩
 unfold r3_type_j9 at h
 refine nrm (mK50 (mK50 (mK50 (mK20 (mK8 (mO7 (mi mz))))))) (xn ?_)
 refine ccutE ([]) (by decide) (fun m w=>∃ μx s208,m=(yK20 (yK9 (.i (S s208)::[])))∧r3_type_j10 self p_1 p_2 p_3 p_4 s201 s208=some r∧Le μ34 μx∧Sq μx w0 w (rsF)) (by rintro _ _ ⟨_,_,rfl,_⟩; rfl) ?_ ?_
 refine zCb h ?_ ?_
 intro h209 h
 refine creg (st (wnil (xl ?_)))
 exact ⟨_,_,rfl,(aK20 (aK9 (aI aZ))),_,[98,111,111,108],rfl,h,Le.r,hS⟩
 intro h209 h
 refine cskip (xl ?_)
 exact ⟨_,_,rfl,(aK20 (aK9 (aI aZ))),_,_,rfl,h,Le.r,hS⟩
 rintro _ t w50 ⟨μ35,s208,rfl,h,le210,hS⟩
 unfold r3_type_j10 at h
 refine nrm (mK20 (mK9 (mi mz))) (xn (cseq (nz (ld ((m38 _ ((le57.t (le135.t (le200.t (le204.t (le207.t le210))))) _ hS.a)).one d0) (st ?_)))))
 obtain ⟨r211,g212,h⟩:=bI h
 refine wl (s_callc isfn84 (et (k100 (k80 d6))) (e1 ec (e1 (et (k100 (k80 d7))) e0)) (IH.r3_must (hg.t (le25.t (le27.t (le29.t (le31.t (le35.t (le39.t (le57.t (le135.t (le200.t (le204.t (le207.t le210)))))))))))) (m3.up (le25.t (le27.t (le29.t (le31.t (le35.t (le39.t (le57.t (le135.t (le200.t (le204.t (le207.t le210)))))))))))) (m24.up (le27.t (le29.t (le31.t (le35.t (le39.t (le57.t (le135.t (le200.t (le204.t (le207.t le210))))))))))) (m6.up (le25.t (le27.t (le29.t (le31.t (le35.t (le39.t (le57.t (le135.t (le200.t (le204.t (le207.t le210)))))))))))) (m9.up (le25.t (le27.t (le29.t (le31.t (le35.t (le39.t (le57.t (le135.t (le200.t (le204.t (le207.t le210)))))))))))) (m26.up (le29.t (le31.t (le35.t (le39.t (le57.t (le135.t (le200.t (le204.t (le207.t le210)))))))))) (m12.up (le25.t (le27.t (le29.t (le31.t (le35.t (le39.t (le57.t (le135.t (le200.t (le204.t (le207.t le210)))))))))))) (m28.up (le31.t (le35.t (le39.t (le57.t (le135.t (le200.t (le204.t (le207.t le210))))))))) (m15.up (le25.t (le27.t (le29.t (le31.t (le35.t (le39.t (le57.t (le135.t (le200.t (le204.t (le207.t le210)))))))))))) (m30.up (le35.t (le39.t (le57.t (le135.t (le200.t (le204.t (le207.t le210)))))))) (m34.up (le39.t (le57.t (le135.t (le200.t (le204.t (le207.t le210))))))) g212 hS) ?_)
 rintro _ w51 ⟨μ36,rfl,le213,hS⟩
 refine po (st (nx ?_))
 iterate 2 refine st ?_
 refine nw ?_
 refine zCd h ?_ ?_
 intro h214 h
 refine nz ?_
 iterate 3 refine st ?_
 refine nw (cret (xr ?_))
 obtain rfl:=oI h
 refine ret2 rfl d8 d9 ?_
 exact ⟨_,rfl,(le25.t (le27.t (le29.t (le31.t (le35.t (le39.t (le57.t (le135.t (le200.t (le204.t (le207.t (le210.t le213)))))))))))),hS⟩
 intro h214 h
 refine cskip (xn (nz (st (ld ((m38 _ ((le57.t (le135.t (le200.t (le204.t (le207.t (le210.t le213)))))) _ hS.a)).one d0) (st ?_)))))
 obtain ⟨r215,g216,h⟩:=bI h
 refine wl (s_callc isfn84 (et (k100 (k90 d3))) (e1 ec (e1 (et (k100 (k90 d4))) e0)) (IH.r3_must (hg.t (le25.t (le27.t (le29.t (le31.t (le35.t (le39.t (le57.t (le135.t (le200.t (le204.t (le207.t (le210.t le213))))))))))))) (m3.up (le25.t (le27.t (le29.t (le31.t (le35.t (le39.t (le57.t (le135.t (le200.t (le204.t (le207.t (le210.t le213))))))))))))) (m24.up (le27.t (le29.t (le31.t (le35.t (le39.t (le57.t (le135.t (le200.t (le204.t (le207.t (le210.t le213)))))))))))) (m6.up (le25.t (le27.t (le29.t (le31.t (le35.t (le39.t (le57.t (le135.t (le200.t (le204.t (le207.t (le210.t le213))))))))))))) (m9.up (le25.t (le27.t (le29.t (le31.t (le35.t (le39.t (le57.t (le135.t (le200.t (le204.t (le207.t (le210.t le213))))))))))))) (m26.up (le29.t (le31.t (le35.t (le39.t (le57.t (le135.t (le200.t (le204.t (le207.t (le210.t le213))))))))))) (m12.up (le25.t (le27.t (le29.t (le31.t (le35.t (le39.t (le57.t (le135.t (le200.t (le204.t (le207.t (le210.t le213))))))))))))) (m28.up (le31.t (le35.t (le39.t (le57.t (le135.t (le200.t (le204.t (le207.t (le210.t le213)))))))))) (m15.up (le25.t (le27.t (le29.t (le31.t (le35.t (le39.t (le57.t (le135.t (le200.t (le204.t (le207.t (le210.t le213))))))))))))) (m30.up (le35.t (le39.t (le57.t (le135.t (le200.t (le204.t (le207.t (le210.t le213))))))))) (m34.up (le39.t (le57.t (le135.t (le200.t (le204.t (le207.t (le210.t le213)))))))) g216 hS) ?_)
 rintro _ w52 ⟨μ37,rfl,le217,hS⟩
 refine po ?_
 iterate 2 refine st ?_
 refine nw (cret ?_)
 obtain rfl:=oI h
 refine ret2 rfl d8 d9 ?_
 exact ⟨_,rfl,(le25.t (le27.t (le29.t (le31.t (le35.t (le39.t (le57.t (le135.t (le200.t (le204.t (le207.t (le210.t (le213.t le217))))))))))))),hS⟩
theorem r3_ask_w {self:R3T} (IH:R3TSound self):r3_ask_S (r3_ask self):=by
 intro μ0 w0 w rsF hg p_1 p_2 b1 o2 a4 c5 p_3 b7 o8 a10 c11 a13 c14 p_4 b16 o17 a19 c20 p_5 b22 o23 a25 c26 r m6 m3 m12 m15 m9 m21 m18 m27 m24 h hS
 unfold r3_ask at h
 refine enter func83 rfl (frm:=_::_::_::_::_::u2 (u2 (u10 []))) rfl (nz ?_)
 iterate 2 refine st ?_
 refine ny ?_
 refine cdw hS ?_; clear hS; intro w1 hS
 refine sf_start (fr_ 0 [0,8,9,10,11,12] rfl (u_load ti22 (et d1) ((m3 _ hS.a).one d0)) p8 (fr_ 1 [1,8,9,10,11,12] rfl (u_loads ti59 (et d2) (m9 _ hS.a) rfl) p9 (fr_ 2 [2,8,9,10,11,12] rfl (u_load ti110 (et d3) ((m18 _ hS.a).one d0)) (q10 p0) (fpi 3 [3,4,6,7,8,9,10,11,12] rfl (fr_ 4 [4,6,7,8,9,10,11,12] rfl (u_load ti117 (et (k10 d1)) ((m24 _ hS.a).one d3)) (q10 p2) (fpi 5 [5,6,7,8,9,10,11,12] rfl ?_))))))
 obtain ⟨x28,g29,h⟩:=bI h
 obtain ⟨b30,o31,cs32,e33,f34,m35⟩:=SlR.elem m27 g29
 obtain ⟨a36,c37,rfl,m38⟩:=TExpr.o m35
 refine fp 6 [6,7,8,9,10,11,12] rfl (u_iax underlying117 ti119 (et (k10 d2)) (et (k10 d3)) e33) (q10 p4) (fr_ 7 [7,8,9,10,11,12] rfl (u_loads ti119 (et (k10 d4)) (f34 _ hS.a) rfl) (q10 p5) ?_)
 obtain ⟨r39,g40,h⟩:=bI h
 refine sf1 rfl rfl rfl rfl (wn0 rfl) (s_callv isfn65 ef (e1 (et d8) (e1 (et d9) (e1 (et (k10 d0)) (e1 (et (k10 d5)) e0)))) (IH.r3_type hg m6 m12 m15 m21 m38 g40 hS) ?_)
 rintro _ w2 ⟨μ1,rfl,le41,hS⟩
 refine po ?_
 refine ⟨Mons.z,?_⟩
 refine fpi 9 [9,11,12] rfl (fpi 10 [10,11,12] rfl (fpi 11 [11,12] rfl (fpi 12 [12] rfl (sf_nil (xn (cret ?_))))))
 obtain rfl:=oI h
 refine ret2 rfl d6 d7 ?_
 exact ⟨_,rfl,le41,hS⟩
theorem r3_must_w {self:R3T} (IH:R3TSound self):r3_must_S (r3_must self):=by
 intro μ0 w0 w rsF hg p_1 p_2 p_3x1 b1 o2 a4 c5 p_3x2 b7 o8 a10 c11 a13 c14 p_3x3 b16 o17 a19 c20 p_3x4 b22 o23 a25 c26 b28 o29 r m6 m3 m12 m15 m9 m21 m18 m27 m24 m30 h hS
 unfold r3_must at h
 refine enter func84 rfl (frm:=_::_::_::u2 (u2 (u5 (u10 [])))) rfl (nz (st (nx (ld ((m30 _ hS.a).one d0) (st ?_)))))
 obtain ⟨r31,g32,h⟩:=bI h
 refine wl (s_callc isfn83 (et d9) (e1 (et (k10 d0)) e0) (IH.r3_ask hg m6 m3 m12 m15 m9 m21 m18 m27 m24 g32 hS) ?_)
 rintro _ w1 ⟨μ1,rfl,le33,hS⟩
 refine po ?_
 iterate 5 refine st ?_
 refine ny (cseq ?_)
 refine ccutE (rg 14 6) (by decide) (fun m w=>∃ μx b34,m=(yK10 (yK4 (yO6 14 (.i (.bool b34)::[]))))∧r3_must_j1 r31 b34=some r∧Le μ1 μx∧Sq μx w0 w (rsF)) (by rintro _ _ ⟨_,_,rfl,_⟩; rfl) ?_ ?_
 refine creg ?_
 iterate 3 refine st ?_
 refine zWd 16 h ?_ ?_
 intro h35 h
 refine sy rfl (sy rfl (wy rfl (k10 d6) (su (u_nes (et (k10 d7)) (et (k10 d8))) (dt (q10 p9)) (st (wnil (xl ?_))))))
 exact ⟨_,_,rfl,(aK10 (aK4 (aO6 (aI aZ)))),_,(decide (r31.1≠p_2)),rfl,h,Le.r,hS⟩
 intro h35 h
 refine sn rfl rfl (sn rfl rfl (sn rfl rfl (st (wnil (xl ?_)))))
 exact ⟨_,_,rfl,(aK10 (aK4 (aO6 (aI aZ)))),_,false,rfl,h,Le.r,hS⟩
 rintro _ t w2 ⟨μ2,b34,rfl,h,le36,hS⟩
 unfold r3_must_j1 at h
 refine nrm (mK10 (mK4 (mO6 (mi mz)))) (xn ?_)
 refine zCb h ?_ ?_
 intro h37 h
 refine nz (st (nw (cret (xr ?_))))
 obtain rfl:=oI h
 refine ret1 rfl d5 ?_
 exact ⟨_,rfl,(le33.t le36),hS⟩
 intro h37 h
 refine cskip (xn (nz ?_))
 iterate 2 refine st ?_
 refine nw (cret ?_)
 obtain rfl:=oI h
 refine ret1 rfl d5 ?_
 exact ⟨_,rfl,(le33.t le36),hS⟩
theorem r3_given_w {self:R3T} (IH:R3TSound self):r3_given_S (r3_given self):=by
 intro μ0 w0 w rsF hg p_1 p_2 b1 o2 a4 c5 p_3 b7 o8 a10 c11 p_4x1 b13 o14 a16 c17 p_4x2 b19 o20 a22 c23 a25 c26 p_4x3 b28 o29 a31 c32 p_4x4 b34 o35 a37 c38 b40 o41 b43 o44 r m6 m3 m12 m9 m18 m15 m24 m27 m21 m33 m30 m39 m36 m42 m45 h hS
 unfold r3_given at h
 refine enter func85 rfl (frm:=_::_::_::_::u2 (u5 (u20 (u20 [])))) rfl (nz ?_)
 refine wl (s_alloc ti59 hS ?_); clear hS; intro b52 w1 hb53 hS; refine po ?_
 refine st (nx (ld ((m3 _ hS.a).one d0) ?_))
 iterate 2 refine st ?_
 refine ld ((m9 _ hS.a).one d2) ?_
 obtain ⟨r54,g55,h⟩:=bI h
 refine ca (r3_find_w hg m6 g55 hS) ?_
 rintro _ w2 ⟨μ1,a57,c58,a60,c61,rfl,le56,hS,m59,m62⟩
 refine po ?_
 iterate 3 refine st ?_
 refine wl (s_alloc ti59 hS ?_); clear hS; intro b63 w3 hb64 hS; refine po ?_
 refine wl (s_storeA ti59 (et d7) (et (k10 d8)) rfl rfl hS d0 rfl p0 dn ?_)
 clear hS; intro w4 hS
 refine st (ny (nz ?_))
 iterate 2 refine st ?_
 refine nw ?_
 refine zCe h ?_ ?_
 intro h65 h
 refine nz (lds (hS.blk d0).cells rfl (wl (s_storeA ti59 (et d5) (et (k20 d2)) rfl rfl hS d1 rfl p1 dn ?_)))
 clear hS; intro w5 hS
 refine st (nw (cret (xr ?_)))
 obtain rfl:=oI h
 refine retN rfl (RVs.s (.a d5 ti59 (hS.blk d1).cells rfl) (RVs.s (.t d6) RVs.z)) ?_
 replace hS:=(hS.drop Rm.z).drop Rm.z
 exact ⟨_,_,_,_,_,rfl,le56,hS,m59,m62⟩
 intro h65 h
 refine cskip (xn (cseq (nz (st (ld ((hS.blk d0).cell d7) (wl (su (u_lensl underlying56 (et (k20 d4))) (dt (q20 p5)) (st (ld ((m9 _ (le56 _ hS.a)).one d3) (wl (su (u_lensl underlying117 (et (k20 d7))) (dt (q20 p8)) (st (nw ?_)))))))))))))
 refine zCd h ?_ ?_
 intro h66 h
 refine nz (lds (hS.blk d0).cells rfl (wl (s_storeA ti59 (et d5) (et (k30 d0)) rfl rfl hS d1 rfl p1 dn ?_)))
 clear hS; intro w6 hS
 refine st (nw (cret (xr ?_)))
 obtain rfl:=oI h
 refine retN rfl (RVs.s (.a d5 ti59 (hS.blk d1).cells rfl) (RVs.s (.t d6) RVs.z)) ?_
 replace hS:=(hS.drop Rm.z).drop Rm.z
 exact ⟨_,_,_,_,_,rfl,le56,hS,m59,m62⟩
 intro h66 h
 refine cskip (xn (cseq (nz (st (ld ((hS.blk d0).cell d7) (wl (su (u_lensl underlying56 (et (k30 d2))) (dt (q30 p3)) (st (nw (cblock ?_))))))))))
 replace hS:=hS.bg Y1
 refine cloopE ([6]++rg 9 3++rg 35 15) (by decide) (fun n m w=>∃ μx i85,m=(yK6 (yO1 6 (yK2 (yO3 9 (yK20 (yK2 (.i (.int .i64 i85)::(yO10 35 (yO5 45 [])))))))))∧r3_given_l1 self p_4x1 p_4x2 p_4x3 p_4x4 r54 n i85=some r∧Le μ1 μx∧Sq μx w0 w (.blk b52 59 [.int .i64 0,S [],.int .i64 0,S [],.int .i64 0,S [],.int .i64 0,.slice none 0 0,.slice none 0 0]::.blk b63 59 [.int .i64 r54.1.Kind,S r54.1.Name,.int .i64 r54.1.Typ.Kind,S r54.1.Typ.Gen,.int .i64 r54.1.Takes.Kind,S r54.1.Takes.Gen,.int .i64 r54.1.Cap,.slice a57 r54.1.Params.length c58,.slice a60 r54.1.Body.length c61]::rsF)) (by rintro _ _ _ ⟨_,_,rfl,_⟩; rfl) _ _ (aK6 (aO1 (aK2 (aO3 (aK20 (aK2 (aI (aO10 (aO5 aZ))))))))) ⟨_,0,rfl,h,Le.r,hS⟩ ?_
 rintro n_1 _ t w7 ⟨μ2,i85,rfl,h,le104,hS⟩
 rcases n_1 with _|n_1
 cases h
 unfold r3_given_l1 at h
 refine cnrm (mK6 (mO1 (mK2 (mO3 (mK20 (mK2 (mi (mO10 (mO5 mz))))))))) (nz (st (ny ?_)))
 refine zCd h ?_ ?_
 intro h105 h
 refine cskip (xn (cseq (cblock (nz (st ?_)))))
 obtain ⟨x106,g107,h⟩:=bI h
 obtain ⟨b108,o109,cs110,e111,f112,m113⟩:=SlR.elem (m59.up le104) g107
 obtain rfl:=m113
 refine wl (su (u_iax underlying56 ti107 (et (k30 d2)) (et (k30 d4)) e111) (dt (q30 p7)) (lds (f112 _ hS.a) rfl ?_))
 refine wl (s_alloc ti107 hS ?_); clear hS; intro b114 w8 hb115 hS; refine po ?_
 refine st (wl (s_storeA ti107 (et (k10 d0)) (et (k30 d8)) rfl rfl hS d0 rfl p0 dn ?_))
 clear hS; intro w9 hS
 refine ny ?_
 refine ccutE (rg 39 6) (by decide) (fun m w=>∃ μx i116,m=(yK10 (yK1 (.i (.int .i64 i116)::(yK20 (yK7 (yO6 39 []))))))∧r3_given_j1 r54 i85 (r3_given_l1 self p_4x1 p_4x2 p_4x3 p_4x4 r54 n_1) i116=some r∧Le μ2 μx∧Sq μx w0 w (.blk b52 59 [.int .i64 0,S [],.int .i64 0,S [],.int .i64 0,S [],.int .i64 0,.slice none 0 0,.slice none 0 0]::.blk b63 59 [.int .i64 r54.1.Kind,S r54.1.Name,.int .i64 r54.1.Typ.Kind,S r54.1.Typ.Gen,.int .i64 r54.1.Takes.Kind,S r54.1.Takes.Gen,.int .i64 r54.1.Cap,.slice a57 r54.1.Params.length c58,.slice a60 r54.1.Body.length c61]::rsF)) (by rintro _ _ ⟨_,_,rfl,_⟩; rfl) ?_ ?_
 refine cdw hS ?_; clear hS; intro w10 hS
 refine sf_start (fr_ 0 [0,5,6] rfl (u_load ti169 (et d3) ((m45 _ ((le56.t le104) _ hS.a)).one d0)) (q30 p9) (fpi 1 [1,5,6] rfl (fpi 2 [2,3,4,5,6] rfl (fr_ 3 [3,4,5,6] rfl (u_loads ti55 (et (k40 d1)) ((hS.blk d0).cellsAt (Sb.s d1 (Sb.s d2 Sb.z))) rfl) (q40 p2) ?_))))
 obtain ⟨r117,g118,h⟩:=bI h
 refine sf1 rfl rfl rfl rfl (wn0 rfl) (s_callv isfn43 ef (e1 (et (k40 d2)) e0) (r3_word_w (hg.t (le56.t le104)) g118 hS) ?_)
 rintro _ w11 ⟨μ3,rfl,le119,hS⟩
 refine po ?_
 refine ⟨(Mons.s (u_load ti169 (et d3) ((m45 _ ((le56.t (le104.t le119)) _ hS.a)).one d0)) Mons.z),?_⟩
 obtain ⟨r120,g121,h⟩:=bI h
 refine sf1 rfl rfl rfl rfl (wn0 rfl) (s_callc isfn84 (et (k30 d9)) (e1 (et (k40 d0)) (e1 (et (k40 d3)) e0)) (IH.r3_must (hg.t (le56.t (le104.t le119))) (m18.up (le56.t (le104.t le119))) (m15.up (le56.t (le104.t le119))) (m24.up (le56.t (le104.t le119))) (m27.up (le56.t (le104.t le119))) (m21.up (le56.t (le104.t le119))) (m33.up (le56.t (le104.t le119))) (m30.up (le56.t (le104.t le119))) (m39.up (le56.t (le104.t le119))) (m36.up (le56.t (le104.t le119))) (m42.up (le56.t (le104.t le119))) g121 hS) ?_)
 rintro _ w12 ⟨μ4,rfl,le122,hS⟩
 refine po ?_
 refine ⟨Mons.z,?_⟩
 refine fpi 6 [6] rfl (sf_nil (xl ?_))
 replace hS:=hS.drop Rm.z
 exact ⟨_,_,rfl,(aK10 (aK1 (aI (aK20 (aK7 (aO6 aZ)))))),_,_,rfl,h,(le119.t le122),hS⟩
 rintro _ t w13 ⟨μ5,i116,rfl,h,le123,hS⟩
 unfold r3_given_j1 at h
 refine nrm (mK10 (mK1 (mi (mK20 (mK7 (mO6 mz)))))) (xn (nz ?_))
 iterate 2 refine st ?_
 refine nw ?_
 refine zCd h ?_ ?_
 intro h124 h
 refine nz (lds (hS.blk d1).cells rfl (st (wl (s_storeA ti59 (et d5) (et (k40 d7)) rfl rfl hS d0 rfl p0 dn ?_))))
 clear hS; intro w14 hS
 refine st (nw (cret ?_))
 refine (fun h=>br (xr (xr (br (xr h))))) ?_
 obtain rfl:=oI h
 refine retN rfl (RVs.s (.a d5 ti59 (hS.blk d0).cells rfl) (RVs.s (.t d6) RVs.z)) ?_
 replace hS:=(hS.drop Rm.z).drop Rm.z
 exact ⟨_,_,_,_,_,rfl,(le56.t (le104.t le123)),hS,(m59.up (le104.t le123)),(m62.up (le104.t le123))⟩
 intro h124 h
 refine cskip ?_
 refine (fun h=>bn (xn h)) ?_
 refine creg ?_
 obtain ⟨i125,g126,h⟩:=bI h
 refine wl (su (u_addc (et (k30 d4)) ec g126) (dt (q40 p9)) (st (wnil (xl ?_))))
 exact ⟨n_1,_,_,rfl,(aK6 (aO1 (aK2 (aO3 (aK20 (aK2 (aI (aO10 (aO5 aZ))))))))),⟨_,i125,rfl,h,(le104.t le123),hS⟩,Nat.lt_succ_self _⟩
 intro h105 h
 refine cexit ?_
 refine (fun h=>xe (xe (bh h))) ?_
 refine xn (nz (lds (hS.blk d1).cells rfl (wl (s_storeA ti59 (et d5) (et (k50 d0)) rfl rfl hS d0 rfl p0 dn ?_))))
 clear hS; intro w15 hS
 refine st (nw (cret ?_))
 obtain rfl:=oI h
 refine retN rfl (RVs.s (.a d5 ti59 (hS.blk d0).cells rfl) (RVs.s (.t d6) RVs.z)) ?_
 replace hS:=(hS.drop Rm.z).drop Rm.z
 exact ⟨_,_,_,_,_,rfl,(le56.t le104),hS,(m59.up le104),(m62.up le104)⟩
theorem R3T_sound:∀ n,R3TSound (R3T_run n)
  | 0=>⟨(by intro; intros; rename_i h _; cases h),(by intro; intros; rename_i h _; cases h),(by intro; intros; rename_i h _; cases h),(by intro; intros; rename_i h _; cases h)⟩
  | n+1=>⟨r3_type_w (R3T_sound n),r3_ask_w (R3T_sound n),r3_must_w (R3T_sound n),r3_given_w (R3T_sound n)⟩
end Go.Proofs.Yteiemedhecjgiaa
set_option maxRecDepth 100000
set_option maxHeartbeats 20000000
namespace Go.Proofs.Yteiemedhecjgiaa
open Go.Wk Go.Xt Go.Y Try
variable {c2 c5 c8 c11 c14 fu:Nat} {a1 a4 a7 a10 a13:Option Addr} {μ0:M} {w0 w:World} {rsF:List Res}
theorem r3_of_w (hg:Le Gm μ0) {p_1:List TDef} {p_2:TDef} {p_3:List TYieldref3Name} {p_4:TExpr} {p_5:List UInt8} {r:Int} (m3:Sl μ0 a1 c2 p_1) (m6:Sl μ0 a4 c5 p_2.Params) (m9:Sl μ0 a7 c8 p_2.Body) (m12:Sl μ0 a10 c11 p_3) (m15:Sl μ0 a13 c14 p_4.Kids) (h:r3_of fu p_1 p_2 p_3 p_4 p_5=some r) (hS:Sq μ0 w0 w (rsF)):CallsV prog 67 [.slice a1 p_1.length c2,.agg ⟨[.int .i64 p_2.Kind,S p_2.Name,.int .i64 p_2.Typ.Kind,S p_2.Typ.Gen,.int .i64 p_2.Takes.Kind,S p_2.Takes.Gen,.int .i64 p_2.Cap,.slice a4 p_2.Params.length c5,.slice a7 p_2.Body.length c8]⟩,.slice a10 p_3.length c11,.agg ⟨[.int .i64 p_4.Kind,.int .i64 p_4.N,S p_4.Name,.slice a13 p_4.Kids.length c14]⟩,S p_5] w (fun v w'=>∃ (μ':M) ,v=.int .i64 r∧Le μ0 μ'∧Sq μ' w0 w' (rsF)):=by
 unfold r3_of at h
 refine enter func67 rfl (frm:=_::_::_::_::_::u2 (u2 (u20 []))) rfl (nz ?_)
 refine wl (s_box (et d1) rfl hS ?_); clear hS; intro b16 w1 hb17 hS; refine po ?_
 refine wl (s_box (et d3) rfl hS ?_); clear hS; intro b18 w2 hb19 hS; refine po ?_
 refine st (nx (st (lds (hS.blk d1).cells rfl (st (lds (hS.blk d0).cells rfl ?_)))))
 obtain ⟨r20,g21,h⟩:=bI h
 refine ca ((R3T_sound fu).r3_type hg m3 m6 m9 m12 m15 g21 hS) ?_
 rintro _ w3 ⟨μ1,rfl,le22,hS⟩
 refine po ?_
 iterate 5 refine st ?_
 refine ny (cseq ?_)
 refine ccutE (rg 21 6) (by decide) (fun m w=>∃ μx b23,m=(yK20 (yK1 (yO6 21 (.i (.bool b23)::[]))))∧r3_of_j1 r20 b23=some r∧Le μ1 μx∧Sq μx w0 w (rsF)) (by rintro _ _ ⟨_,_,rfl,_⟩; rfl) ?_ ?_
 refine creg ?_
 iterate 3 refine st ?_
 refine zWd 23 h ?_ ?_
 intro h24 h
 refine sy rfl (sy rfl (wy rfl (k20 d3) (su (u_nes (et (k20 d4)) (et (k20 d5))) (dt (q20 p6)) (st (wnil (xl ?_))))))
 replace hS:=(hS.drop Rm.z).drop Rm.z
 exact ⟨_,_,rfl,(aK20 (aK1 (aO6 (aI aZ)))),_,(decide (r20.1≠p_5)),rfl,h,Le.r,hS⟩
 intro h24 h
 refine sn rfl rfl (sn rfl rfl (sn rfl rfl (st (wnil (xl ?_)))))
 replace hS:=(hS.drop Rm.z).drop Rm.z
 exact ⟨_,_,rfl,(aK20 (aK1 (aO6 (aI aZ)))),_,false,rfl,h,Le.r,hS⟩
 rintro _ t w4 ⟨μ2,b23,rfl,h,le25,hS⟩
 unfold r3_of_j1 at h
 refine nrm (mK20 (mK1 (mO6 (mi mz)))) (xn ?_)
 refine zCb h ?_ ?_
 intro h26 h
 refine nz (st (nw (cret (xr ?_))))
 obtain rfl:=oI h
 refine ret1 rfl (k10 d0) ?_
 exact ⟨_,rfl,(le22.t le25),hS⟩
 intro h26 h
 refine cskip (xn (nz ?_))
 iterate 2 refine st ?_
 refine nw (cret ?_)
 obtain rfl:=oI h
 refine ret1 rfl (k10 d0) ?_
 exact ⟨_,rfl,(le22.t le25),hS⟩
def r3_block_S (q:(List TDef)→TDef→(List TYieldref3Name)→(List TStat)→Option Int):Prop:=∀ {μ0:M} {w0 w:World} {rsF:List Res} (hg:Le Gm μ0) {p_1:List TDef} {a1:Option Addr} {c2:Nat} {p_2:TDef} {a4:Option Addr} {c5:Nat} {a7:Option Addr} {c8:Nat} {p_3:List TYieldref3Name} {a10:Option Addr} {c11:Nat} {p_4:List TStat} {a13:Option Addr} {c14:Nat} {r:Int} (m3:Sl μ0 a1 c2 p_1) (m6:Sl μ0 a4 c5 p_2.Params) (m9:Sl μ0 a7 c8 p_2.Body) (m12:Sl μ0 a10 c11 p_3) (m15:Sl μ0 a13 c14 p_4) (h:q p_1 p_2 p_3 p_4=some r) (hS:Sq μ0 w0 w (rsF)),CallsV prog 44 [.slice a1 p_1.length c2,.agg ⟨[.int .i64 p_2.Kind,S p_2.Name,.int .i64 p_2.Typ.Kind,S p_2.Typ.Gen,.int .i64 p_2.Takes.Kind,S p_2.Takes.Gen,.int .i64 p_2.Cap,.slice a4 p_2.Params.length c5,.slice a7 p_2.Body.length c8]⟩,.slice a10 p_3.length c11,.slice a13 p_4.length c14] w (fun v w'=>∃ (μ':M) ,v=.int .i64 r∧Le μ0 μ'∧Sq μ' w0 w' (rsF))
structure R3BSound (sf:R3B):Prop where
  r3_block:r3_block_S sf.r3_block
theorem r3_block_w {fu:Nat} {self:R3B} (IH:R3BSound self):r3_block_S (r3_block fu self):=by
 intro μ0 w0 w rsF hg p_1 a1 c2 p_2 a4 c5 a7 c8 p_3 a10 c11 p_4 a13 c14 r m3 m6 m9 m12 m15 h hS
 unfold r3_block at h
 refine enter func44 rfl (frm:=_::_::_::_::u1 (u2 (u10 (u20 (u50 (u50 (u50 []))))))) rfl (nz ?_)
 refine wl (s_box (et d1) rfl hS ?_); clear hS; intro b16 w1 hb17 hS; refine po ?_
 refine st (nx ?_)
 refine wl (s_bsl0 underlying110 ti113 hS ?_); clear hS; intro b18 w2 hb19 hS; refine po ?_
 refine st ?_
 replace hS:=hS.blkRow (n:=0) (sz:=Mo.sz TYieldref3Name) d0 rfl (by decide) p0
 have m20:Rw μ0 [] ([]:List TYieldref3Name):=Rw.nil
 obtain ⟨l23,g24,h⟩:=bI h
 obtain ⟨cs25,m26,m27⟩:=Sl.cells m12
 have m22:=Rw.app m20 m26 g24
 refine wl (s_appS underlying110 ti113 rfl (et (k20 d7)) (et (k20 d8)) hS d0 (fun e=>(m27 e)) m26 g24 (by decide) ?_); clear hS; intro v21 w3 rs_ hp_ hS; cases (show _=rs_ from hp_)
 replace hS:=Sep.reput hS p0; refine po ?_
 refine st (ny (nz (st (wl (su (u_lensl underlying57 (et (k30 d0))) (dt (q30 p1)) (st (nw (cblock ?_))))))))
 replace hS:=hS.bg Y1
 refine cloopE ([8]++rg 10 17++rg 33 154) (by decide +kernel) (fun n m w=>∃ μx i174 l177 v175 cs176,m=(yK2 (.i (v175)::(yK5 (yO1 8 (yK1 (yO10 10 (yO7 20 (yK5 (.i (.int .i64 i174)::(yO50 33 (yO50 83 (yO50 133 (yO4 183 [])))))))))))))∧r3_block_l1 fu self p_1 p_2 p_4 n i174 l177=some r∧Le μ0 μx∧Sq μx w0 w (.blk b16 59 [.int .i64 p_2.Kind,S p_2.Name,.int .i64 p_2.Typ.Kind,S p_2.Typ.Gen,.int .i64 p_2.Takes.Kind,S p_2.Takes.Gen,.int .i64 p_2.Cap,.slice a4 p_2.Params.length c5,.slice a7 p_2.Body.length c8]::.row v175 113 2 l177.length cs176::rsF)∧Rw μx cs176 l177) (by rintro _ _ _ ⟨_,_,_,_,_,rfl,_⟩; rfl) _ _ (aK2 (aI (aK5 (aO1 (aK1 (aO10 (aO7 (aK5 (aI (aO50 (aO50 (aO50 (aO4 aZ))))))))))))) ⟨_,0,l23,v21,([]++cs25),rfl,h,Le.r,hS,m22⟩ ?_
 rintro n_1 _ t w4 ⟨μ1,i174,l177,v175,cs176,rfl,h,le325,hS,m326⟩
 rcases n_1 with _|n_1
 cases h
 unfold r3_block_l1 at h
 refine cnrm (mK2 (mi (mK5 (mO1 (mK1 (mO10 (mO7 (mK5 (mi (mO50 (mO50 (mO50 (mO4 mz))))))))))))) (nz (st (ny ?_)))
 refine zCd h ?_ ?_
 intro h327 h
 refine cskip (xn (cseq (cblock (nz ?_))))
 obtain ⟨x328,g329,h⟩:=bI h
 obtain ⟨b330,o331,cs332,e333,f334,m335⟩:=SlR.elem (m15.up le325) g329
 obtain ⟨a336,c337,a339,c340,a342,c343,rfl,m338,m341,m344⟩:=TStat.o m335
 refine wl (su (u_iax underlying57 ti121 (et (k30 d0)) (et (k30 d2)) e333) (dt (q30 p4)) (lds (f334 _ hS.a) rfl ?_))
 refine wl (s_alloc ti121 hS ?_); clear hS; intro b345 w5 hb346 hS; refine po ?_
 refine wl (s_storeA ti121 (et (k10 d0)) (et (k30 d5)) rfl rfl hS d0 rfl p0 dn ?_)
 clear hS; intro w6 hS
 refine nx (st (ld ((hS.blk d0).cell d0) (nw (cblock (nz ?_)))))
 iterate 2 refine st ?_
 refine nw ?_
 refine zCd h ?_ ?_
 intro h347 h
 refine nz (st (lds (hS.blk d1).cells rfl ?_))
 iterate 2 refine st ?_
 refine lds ((hS.blk d0).cellsAt (Sb.s d2 (Sb.s d3 (Sb.s d4 (Sb.s d5 Sb.z))))) rfl ?_
 obtain ⟨r356,g357,h⟩:=bI h
 obtain ⟨a348,c349,rfl⟩:=Row.shape (hS.get d2)
 obtain ⟨μ2,le350,hB351,hO352⟩:=Sep.borrow hS
 have m355:=Row.rd (α:=TYieldref3Name) hO352 le350 (hS.get d2) m326
 refine ca ((R3T_sound fu).r3_type (hg.t (le325.t le350)) (m3.up (le325.t le350)) (m6.up (le325.t le350)) (m9.up (le325.t le350)) m355 (m338.up le350) g357 hB351) ?_
 rintro _ w7 ⟨_,rfl,le353,hB354⟩; replace hS:=Sep.back hS hO352 le353 hB354; refine po ?_
 iterate 5 refine st ?_
 refine ny (nz ?_)
 iterate 2 refine st ?_
 refine nw ?_
 refine zCd h ?_ ?_
 intro h358 h
 refine nz ?_
 iterate 2 refine st ?_
 refine nw (cret ((fun h=>xr (br (br (xr (xr (br (xr h))))))) ?_))
 obtain rfl:=oI h
 refine ret1 rfl d8 ?_
 replace hS:=((hS.drop Rm.z).drop Rm.z).drop Rm.z
 exact ⟨_,rfl,le325,hS⟩
 intro h358 h
 refine cskip (xn (cseq (nz ?_)))
 iterate 2 refine st ?_
 refine ld ((hS.blk d0).cell d1) ?_
 obtain ⟨r365,g366,h⟩:=bI h
 obtain ⟨μ3,le359,hB360,hO361⟩:=Sep.borrow hS
 have m364:=Row.rd (α:=TYieldref3Name) hO361 le359 (hS.get d2) m326
 refine ca (r3_look_w (hg.t (le325.t le359)) m364 g366 hB360) ?_
 rintro _ w8 ⟨_,rfl,le362,hB363⟩; replace hS:=Sep.back hS hO361 le362 hB363; refine po ?_
 iterate 5 refine st ?_
 refine nx (st (nw ?_))
 refine zCb h ?_ ?_
 intro h367 h
 refine nz (st (nw (cret ((fun h=>xr (br (br (xr (xr (br (xr h))))))) ?_))))
 obtain rfl:=oI h
 refine ret1 rfl d8 ?_
 replace hS:=((hS.drop Rm.z).drop Rm.z).drop Rm.z
 exact ⟨_,rfl,le325,hS⟩
 intro h367 h
 refine cskip (xn (creg ?_))
 iterate 2 refine st ?_
 refine ld ((hS.blk d0).cell d1) (st (wl (s_build ti113 pl113 (Fl.o rfl (et (k80 d2)) rfl rfl p0 (Fl.o rfl (et (k80 d3)) rfl rfl p1 Fl.z)) (dt (q80 p4)) ?_)))
 refine wl (s_bsl1 underlying110 ti113 rfl (et (k80 d4)) rfl hS ?_); clear hS; intro b368 w9 hb369 hS; refine po ?_
 obtain ⟨l372,g373,h⟩:=bI h
 have m374:Rw μ1 [S x328.Name,S r356.1] [(TYieldref3Name.mk x328.Name r356.1)]:=(Rw.one (α:=TYieldref3Name) rfl)
 have m371:=Rw.app m326 m374 g373
 refine wl (s_app1 underlying110 ti113 rfl (et (k80 d0)) (et (k80 d5)) hS d3 (hS.blk d0).cells m374 rfl g373 (by decide) ?_); clear hS; intro v370 w10 rs_ hp_ hS; cases (show _=rs_ from hp_)
 replace hS:=Sep.reput hS p3; refine po ?_
 replace hS:=hS.drop Rm.z
 refine st (wnil ?_)
 refine (fun h=>bn (bn (xn h))) ?_
 refine creg ?_
 obtain ⟨i375,g376,h⟩:=bI h
 refine wl (su (u_addc (et (k30 d2)) ec g376) (dt (q100 (q80 p6))) (st (wnil (xl ?_))))
 replace hS:=hS.drop Rm.z
 exact ⟨n_1,_,_,rfl,(aK2 (aI (aK5 (aO1 (aK1 (aO10 (aO7 (aK5 (aI (aO50 (aO50 (aO50 (aO4 aZ))))))))))))),⟨_,i375,l372,v370,(cs176++[S x328.Name,S r356.1]),rfl,h,le325,hS,m371⟩,Nat.lt_succ_self _⟩
 intro h347 h
 refine nz ?_
 iterate 2 refine st ?_
 refine nw ?_
 refine zCd h ?_ ?_
 intro h377 h
 refine nz ?_
 iterate 2 refine st ?_
 refine ld ((hS.blk d0).cell d1) ?_
 obtain ⟨r386,g387,h⟩:=bI h
 obtain ⟨a378,c379,rfl⟩:=Row.shape (hS.get d2)
 obtain ⟨μ4,le380,hB381,hO382⟩:=Sep.borrow hS
 have m385:=Row.rd (α:=TYieldref3Name) hO382 le380 (hS.get d2) m326
 refine ca (r3_look_w (hg.t (le325.t le380)) m385 g387 hB381) ?_
 rintro _ w11 ⟨_,rfl,le383,hB384⟩; replace hS:=Sep.back hS hO382 le383 hB384; refine po ?_
 iterate 5 refine st ?_
 refine ny (nz ?_)
 iterate 2 refine st ?_
 refine nw ?_
 refine zCe h ?_ ?_
 intro h388 h
 refine nz (st (nw (cret ((fun h=>xr (br (br (xr (xr (br (xr h))))))) ?_))))
 obtain rfl:=oI h
 refine ret1 rfl d8 ?_
 replace hS:=((hS.drop Rm.z).drop Rm.z).drop Rm.z
 exact ⟨_,rfl,le325,hS⟩
 intro h388 h
 refine cskip (xn (nz (st (lds (hS.blk d1).cells rfl ?_))))
 iterate 2 refine st ?_
 refine lds ((hS.blk d0).cellsAt (Sb.s d2 (Sb.s d3 (Sb.s d4 (Sb.s d5 Sb.z))))) rfl (st ?_)
 obtain ⟨r395,g396,h⟩:=bI h
 obtain ⟨μ5,le389,hB390,hO391⟩:=Sep.borrow hS
 have m394:=Row.rd (α:=TYieldref3Name) hO391 le389 (hS.get d2) m326
 refine ca (r3_of_w (hg.t (le325.t le389)) (m3.up (le325.t le389)) (m6.up (le325.t le389)) (m9.up (le325.t le389)) m394 (m338.up le389) g396 hB390) ?_
 rintro _ w12 ⟨_,rfl,le392,hB393⟩; replace hS:=Sep.back hS hO391 le392 hB393; refine po ?_
 refine st (nx ?_)
 iterate 2 refine st ?_
 refine nw ?_
 refine zCd h ?_ ?_
 intro h397 h
 refine nz ?_
 iterate 2 refine st ?_
 refine nw (cret ?_)
 refine (fun h=>br (br (xr (xr (br (xr h)))))) ?_
 obtain rfl:=oI h
 refine ret1 rfl d8 ?_
 replace hS:=((hS.drop Rm.z).drop Rm.z).drop Rm.z
 exact ⟨_,rfl,le325,hS⟩
 intro h397 h
 refine cskip ?_
 refine (fun h=>bn (bn (xn h))) ?_
 refine creg ?_
 obtain ⟨i398,g399,h⟩:=bI h
 refine wl (su (u_addc (et (k30 d2)) ec g399) (dt (q100 (q80 p6))) (st (wnil (xl ?_))))
 replace hS:=hS.drop Rm.z
 exact ⟨n_1,_,_,rfl,(aK2 (aI (aK5 (aO1 (aK1 (aO10 (aO7 (aK5 (aI (aO50 (aO50 (aO50 (aO4 aZ))))))))))))),⟨_,i398,l177,(.slice a378 l177.length c379),cs176,rfl,h,le325,hS,m326⟩,Nat.lt_succ_self _⟩
 intro h377 h
 refine cseq (nz ?_)
 iterate 2 refine st ?_
 refine nw ?_
 refine ccutE ([110]) (by decide) (fun m w=>∃ μx b400,m=(yK50 (yK50 (yK8 (.i (.bool b400)::(yK1 (yO1 110 []))))))∧r3_block_j1 fu self p_1 p_2 i174 l177 x328 (r3_block_l1 fu self p_1 p_2 p_4 n_1) b400=some r∧Le μ1 μx∧Sq μx w0 w (.blk b16 59 [.int .i64 p_2.Kind,S p_2.Name,.int .i64 p_2.Typ.Kind,S p_2.Typ.Gen,.int .i64 p_2.Takes.Kind,S p_2.Takes.Gen,.int .i64 p_2.Cap,.slice a4 p_2.Params.length c5,.slice a7 p_2.Body.length c8]::.row v175 113 2 l177.length cs176::.blk b345 121 [.int .i64 x328.Kind,S x328.Name,.int .i64 x328.X.Kind,.int .i64 x328.X.N,S x328.X.Name,.slice a336 x328.X.Kids.length c337,.slice a339 x328.Body.length c340,.slice a342 x328.Else.length c343]::rsF)) (by rintro _ _ ⟨_,_,rfl,_⟩; rfl) ?_ ?_
 refine zCd h ?_ ?_
 intro h401 h
 refine cskip (xl ?_)
 replace hS:=(hS.bg Y2).bg Y2
 exact ⟨_,_,rfl,(aK50 (aK50 (aK8 (aI (aK1 (aO1 aZ)))))),_,(decide (x328.Kind=3)),rfl,h,Le.r,hS⟩
 intro h401 h
 refine creg ?_
 iterate 2 refine st ?_
 refine wnil (xl ?_)
 replace hS:=(hS.bg Y2).bg Y2
 exact ⟨_,_,rfl,(aK50 (aK50 (aK8 (aI (aK1 (aO1 aZ)))))),_,(decide (x328.Kind=4)),rfl,h,Le.r,hS⟩
 rintro _ t w13 ⟨μ6,b400,rfl,h,le402,hS⟩
 unfold r3_block_j1 at h
 refine nrm (mK50 (mK50 (mK8 (mi (mK1 (mO1 mz)))))) (xn ?_)
 refine zCb h ?_ ?_
 intro h403 h
 refine cseq (nz (st (lds (hS.blk d0).cells rfl ?_)))
 iterate 2 refine st ?_
 refine lds ((hS.blk d2).cellsAt (Sb.s d2 (Sb.s d3 (Sb.s d4 (Sb.s d5 Sb.z))))) rfl ?_
 obtain ⟨r412,g413,h⟩:=bI h
 obtain ⟨a404,c405,rfl⟩:=Row.shape (hS.get d1)
 obtain ⟨μ7,le406,hB407,hO408⟩:=Sep.borrow hS
 have m411:=Row.rd (α:=TYieldref3Name) hO408 le406 (hS.get d1) (m326.up le402)
 refine ca (r3_of_w (hg.t (le325.t (le402.t le406))) (m3.up (le325.t (le402.t le406))) (m6.up (le325.t (le402.t le406))) (m9.up (le325.t (le402.t le406))) m411 (m338.up (le402.t le406)) g413 hB407) ?_
 rintro _ w14 ⟨_,rfl,le409,hB410⟩; replace hS:=Sep.back hS hO408 le409 hB410; refine po ?_
 refine st (nx ?_)
 iterate 2 refine st ?_
 refine nw ?_
 refine zCd h ?_ ?_
 intro h414 h
 refine nz ?_
 iterate 2 refine st ?_
 refine nw (cret ((fun h=>xr (br (br (xr (xr (br (xr h))))))) ?_))
 obtain rfl:=oI h
 refine ret1 rfl d8 ?_
 replace hS:=((hS.drop Rm.z).drop Rm.z).drop Rm.z
 exact ⟨_,rfl,(le325.t le402),hS⟩
 intro h414 h
 refine cskip (xn (cseq (nz (st (lds (hS.blk d0).cells rfl ?_)))))
 iterate 2 refine st ?_
 refine ld ((hS.blk d2).cell d6) ?_
 obtain ⟨r421,g422,h⟩:=bI h
 obtain ⟨μ8,le415,hB416,hO417⟩:=Sep.borrow hS
 have m420:=Row.rd (α:=TYieldref3Name) hO417 le415 (hS.get d1) (m326.up le402)
 refine ca (IH.r3_block (hg.t (le325.t (le402.t le415))) (m3.up (le325.t (le402.t le415))) (m6.up (le325.t (le402.t le415))) (m9.up (le325.t (le402.t le415))) m420 (m341.up (le402.t le415)) g422 hB416) ?_
 rintro _ w15 ⟨_,rfl,le418,hB419⟩; replace hS:=Sep.back hS hO417 le418 hB419; refine po ?_
 refine st (nx ?_)
 iterate 2 refine st ?_
 refine nw ?_
 refine zCd h ?_ ?_
 intro h423 h
 refine nz ?_
 iterate 2 refine st ?_
 refine nw (cret ((fun h=>xr (br (br (xr (xr (br (xr h))))))) ?_))
 obtain rfl:=oI h
 refine ret1 rfl d8 ?_
 replace hS:=((hS.drop Rm.z).drop Rm.z).drop Rm.z
 exact ⟨_,rfl,(le325.t le402),hS⟩
 intro h423 h
 refine cskip (xn (nz (st (ld ((hS.blk d2).cell d0) (st (nw ?_))))))
 refine zCd h ?_ ?_
 intro h424 h
 refine nz (st (lds (hS.blk d0).cells rfl ?_))
 iterate 2 refine st ?_
 refine ld ((hS.blk d2).cell d7) ?_
 obtain ⟨r431,g432,h⟩:=bI h
 obtain ⟨μ9,le425,hB426,hO427⟩:=Sep.borrow hS
 have m430:=Row.rd (α:=TYieldref3Name) hO427 le425 (hS.get d1) (m326.up le402)
 refine ca (IH.r3_block (hg.t (le325.t (le402.t le425))) (m3.up (le325.t (le402.t le425))) (m6.up (le325.t (le402.t le425))) (m9.up (le325.t (le402.t le425))) m430 (m344.up (le402.t le425)) g432 hB426) ?_
 rintro _ w16 ⟨_,rfl,le428,hB429⟩; replace hS:=Sep.back hS hO427 le428 hB429; refine po ?_
 refine st (nx ?_)
 iterate 2 refine st ?_
 refine nw ?_
 refine zCd h ?_ ?_
 intro h433 h
 refine nz ?_
 iterate 2 refine st ?_
 refine nw (cret ?_)
 refine (fun h=>br (br (xr (xr (br (xr h)))))) ?_
 obtain rfl:=oI h
 refine ret1 rfl d8 ?_
 replace hS:=((hS.drop Rm.z).drop Rm.z).drop Rm.z
 exact ⟨_,rfl,(le325.t le402),hS⟩
 intro h433 h
 refine cskip ?_
 refine (fun h=>bn (bn (xn h))) ?_
 refine creg ?_
 obtain ⟨i434,g435,h⟩:=bI h
 refine wl (su (u_addc (et (k30 d2)) ec g435) (dt (q100 (q80 p6))) (st (wnil (xl ?_))))
 replace hS:=hS.drop (Rm.s (Rm.s Rm.z))
 exact ⟨n_1,_,_,rfl,(aK2 (aI (aK5 (aO1 (aK1 (aO10 (aO7 (aK5 (aI (aO50 (aO50 (aO50 (aO4 aZ))))))))))))),⟨_,i434,l177,(.slice a404 l177.length c405),cs176,rfl,h,(le325.t le402),hS,(m326.up le402)⟩,Nat.lt_succ_self _⟩
 intro h424 h
 refine cskip ?_
 refine (fun h=>bn (bn (xn h))) ?_
 refine creg ?_
 obtain ⟨i436,g437,h⟩:=bI h
 refine wl (su (u_addc (et (k30 d2)) ec g437) (dt (q100 (q80 p6))) (st (wnil (xl ?_))))
 replace hS:=hS.drop (Rm.s (Rm.s Rm.z))
 exact ⟨n_1,_,_,rfl,(aK2 (aI (aK5 (aO1 (aK1 (aO10 (aO7 (aK5 (aI (aO50 (aO50 (aO50 (aO4 aZ))))))))))))),⟨_,i436,l177,(.slice a404 l177.length c405),cs176,rfl,h,(le325.t le402),hS,(m326.up le402)⟩,Nat.lt_succ_self _⟩
 intro h403 h
 refine nz ?_
 iterate 2 refine st ?_
 refine nw ?_
 refine zCd h ?_ ?_
 intro h438 h
 refine cseq (nz (st (ld ((hS.blk d0).cell d0) (st (nw ?_)))))
 refine zCd h ?_ ?_
 intro h439 h
 refine nz (st (nw (cret ((fun h=>xr (br (br (xr (xr (br (xr h))))))) ?_))))
 obtain rfl:=oI h
 refine ret1 rfl d8 ?_
 replace hS:=((hS.drop Rm.z).drop Rm.z).drop Rm.z
 exact ⟨_,rfl,(le325.t le402),hS⟩
 intro h439 h
 refine cskip (xn (cseq ?_))
 refine ccutE (rg 146 9) (by decide) (fun m w=>∃ μx i440,m=(yK20 (yK1 (.i (.int .i64 i440)::(yK50 (yK50 (yK20 (yK4 (yO9 146 []))))))))∧r3_block_j2 i174 l177 (r3_block_l1 fu self p_1 p_2 p_4 n_1) i440=some r∧Le μ6 μx∧Sq μx w0 w (.blk b16 59 [.int .i64 p_2.Kind,S p_2.Name,.int .i64 p_2.Typ.Kind,S p_2.Typ.Gen,.int .i64 p_2.Takes.Kind,S p_2.Takes.Gen,.int .i64 p_2.Cap,.slice a4 p_2.Params.length c5,.slice a7 p_2.Body.length c8]::.row v175 113 2 l177.length cs176::rsF)) (by rintro _ _ ⟨_,_,rfl,_⟩; rfl) ?_ ?_
 refine cdw hS ?_; clear hS; intro w17 hS
 refine sf_start (fpi 0 [0,8,9] rfl (fr_ 1 [1,8,9] rfl (u_loads ti59 (et d5) (hS.blk d0).cells rfl) (q100 (q40 p7)) (fpi 2 [2,8,9] rfl (fpi 3 [3,4,8,9] rfl (fr_ 4 [4,8,9] rfl (u_loads ti119 (et (k100 (k40 d9))) ((hS.blk d2).cellsAt (Sb.s d2 (Sb.s d3 (Sb.s d4 (Sb.s d5 Sb.z))))) rfl) (q100 (q50 p0)) (fpi 5 [5,6,7,8,9] rfl (fr_ 6 [6,7,8,9] rfl (u_loads ti55 (et (k100 (k50 d1))) ((hS.blk d0).cellsAt (Sb.s d2 (Sb.s d3 Sb.z))) rfl) (q100 (q50 p2)) ?_)))))))
 obtain ⟨r441,g442,h⟩:=bI h
 refine sf1 rfl rfl rfl rfl (wn0 rfl) (s_callv isfn43 ef (e1 (et (k100 (k50 d2))) e0) (r3_word_w (hg.t (le325.t le402)) g442 hS) ?_)
 rintro _ w18 ⟨μ10,rfl,le443,hS⟩
 refine po ?_
 refine ⟨(Mons.s (u_loads ti119 (et (k100 (k40 d9))) ((hS.blk d2).cellsAt (Sb.s d2 (Sb.s d3 (Sb.s d4 (Sb.s d5 Sb.z))))) rfl) (Mons.s (u_loads ti59 (et d5) (hS.blk d0).cells rfl) Mons.z)),?_⟩
 obtain ⟨r452,g453,h⟩:=bI h
 obtain ⟨a444,c445,rfl⟩:=Row.shape (hS.get d1)
 obtain ⟨μ11,le446,hB447,hO448⟩:=Sep.borrow hS
 have m451:=Row.rd (α:=TYieldref3Name) hO448 le446 (hS.get d1) (m326.up (le402.t le443))
 refine sf1 rfl rfl rfl rfl (wn0 rfl) (s_callv isfn67 ef (e1 (et (k100 (k40 d6))) (e1 (et (k100 (k40 d7))) (e1 (et (k100 (k40 d8))) (e1 (et (k100 (k50 d0))) (e1 (et (k100 (k50 d3))) e0))))) (r3_of_w (hg.t (le325.t (le402.t (le443.t le446)))) (m3.up (le325.t (le402.t (le443.t le446)))) (m6.up (le325.t (le402.t (le443.t le446)))) (m9.up (le325.t (le402.t (le443.t le446)))) m451 (m338.up (le402.t (le443.t le446))) g453 hB447) ?_)
 rintro _ w19 ⟨_,rfl,le449,hB450⟩; replace hS:=Sep.back hS hO448 le449 hB450; refine po ?_
 refine ⟨Mons.z,?_⟩
 refine fpi 9 [9] rfl (sf_nil (xl ?_))
 replace hS:=hS.drop (Rm.s (Rm.s Rm.z))
 exact ⟨_,_,rfl,(aK20 (aK1 (aI (aK50 (aK50 (aK20 (aK4 (aO9 aZ)))))))),_,_,rfl,h,le443,hS⟩
 rintro _ t w20 ⟨μ12,i440,rfl,h,le454,hS⟩
 unfold r3_block_j2 at h
 refine nrm (mK20 (mK1 (mi (mK50 (mK50 (mK20 (mK4 (mO9 mz)))))))) (xn (nz ?_))
 iterate 2 refine st ?_
 refine nw ?_
 refine zCd h ?_ ?_
 intro h455 h
 refine nz ?_
 iterate 2 refine st ?_
 refine nw (cret ?_)
 refine (fun h=>br (br (xr (xr (br (xr h)))))) ?_
 obtain rfl:=oI h
 refine ret1 rfl d8 ?_
 replace hS:=(hS.drop Rm.z).drop Rm.z
 exact ⟨_,rfl,(le325.t (le402.t le454)),hS⟩
 intro h455 h
 refine cskip ?_
 refine (fun h=>bn (bn (xn h))) ?_
 refine creg ?_
 obtain ⟨i456,g457,h⟩:=bI h
 refine wl (su (u_addc (et (k30 d2)) ec g457) (dt (q100 (q80 p6))) (st (wnil (xl ?_))))
 exact ⟨n_1,_,_,rfl,(aK2 (aI (aK5 (aO1 (aK1 (aO10 (aO7 (aK5 (aI (aO50 (aO50 (aO50 (aO4 aZ))))))))))))),⟨_,i456,l177,v175,cs176,rfl,h,(le325.t (le402.t le454)),hS,(m326.up (le402.t le454))⟩,Nat.lt_succ_self _⟩
 intro h438 h
 refine nz ?_
 iterate 2 refine st ?_
 refine nw ?_
 refine zCd h ?_ ?_
 intro h458 h
 refine nz (st (ld ((hS.blk d0).cell d0) (st (nw ?_))))
 refine zCd h ?_ ?_
 intro h459 h
 refine nz (st (nw (cret ?_)))
 refine (fun h=>br (br (xr (xr (br (xr h)))))) ?_
 obtain rfl:=oI h
 refine ret1 rfl d8 ?_
 replace hS:=((hS.drop Rm.z).drop Rm.z).drop Rm.z
 exact ⟨_,rfl,(le325.t le402),hS⟩
 intro h459 h
 refine cskip ?_
 refine (fun h=>bn (bn (xn h))) ?_
 refine creg ?_
 obtain ⟨i460,g461,h⟩:=bI h
 refine wl (su (u_addc (et (k30 d2)) ec g461) (dt (q100 (q80 p6))) (st (wnil (xl ?_))))
 replace hS:=hS.drop (Rm.s (Rm.s Rm.z))
 exact ⟨n_1,_,_,rfl,(aK2 (aI (aK5 (aO1 (aK1 (aO10 (aO7 (aK5 (aI (aO50 (aO50 (aO50 (aO4 aZ))))))))))))),⟨_,i460,l177,v175,cs176,rfl,h,(le325.t le402),hS,(m326.up le402)⟩,Nat.lt_succ_self _⟩
 intro h458 h
 refine nz ?_
 iterate 2 refine st ?_
 refine nw ?_
 refine zCd h ?_ ?_
 intro h462 h
 refine nz ?_
 iterate 2 refine st ?_
 refine ld ((hS.blk d2).cell d1) ?_
 obtain ⟨r463,g464,h⟩:=bI h
 refine ca (r3_find_w (hg.t (le325.t le402)) (m3.up (le325.t le402)) g464 hS) ?_
 rintro _ w21 ⟨μ13,a466,c467,a469,c470,rfl,le465,hS,m468,m471⟩
 refine po ?_
 iterate 3 refine st ?_
 refine wl (s_alloc ti59 hS ?_); clear hS; intro b472 w22 hb473 hS; refine po ?_
 refine wl (s_storeA ti59 (et (k20 d2)) (et (k100 (k70 d0))) rfl rfl hS d0 rfl p0 dn ?_)
 clear hS; intro w23 hS
 refine st (ny (nz ?_))
 iterate 2 refine st ?_
 refine nw ?_
 refine zCe h ?_ ?_
 intro h474 h
 refine nz (st (nw (cret ((fun h=>xr (br (br (xr (xr (br (xr h))))))) ?_))))
 obtain rfl:=oI h
 refine ret1 rfl d8 ?_
 replace hS:=(((hS.drop Rm.z).drop Rm.z).drop Rm.z).drop Rm.z
 exact ⟨_,rfl,(le325.t (le402.t le465)),hS⟩
 intro h474 h
 refine cskip (xn (cseq ?_))
 refine ccutE (rg 174 9) (by decide) (fun m w=>∃ μx i475,m=(yK20 (yK4 (.i (.int .i64 i475)::(yK50 (yK50 (yK20 (yK20 (yK9 (yO9 174 [])))))))))∧r3_block_j3 i174 l177 (r3_block_l1 fu self p_1 p_2 p_4 n_1) i475=some r∧Le μ13 μx∧Sq μx w0 w (.blk b16 59 [.int .i64 p_2.Kind,S p_2.Name,.int .i64 p_2.Typ.Kind,S p_2.Typ.Gen,.int .i64 p_2.Takes.Kind,S p_2.Takes.Gen,.int .i64 p_2.Cap,.slice a4 p_2.Params.length c5,.slice a7 p_2.Body.length c8]::.row v175 113 2 l177.length cs176::rsF)) (by rintro _ _ ⟨_,_,rfl,_⟩; rfl) ?_ ?_
 refine cdw hS ?_; clear hS; intro w24 hS
 refine sf_start (fpi 0 [0,8,9] rfl (fr_ 1 [1,8,9] rfl (u_loads ti59 (et d5) (hS.blk d1).cells rfl) (q100 (q70 p5)) (fpi 2 [2,8,9] rfl (fpi 3 [3,4,8,9] rfl (fr_ 4 [4,8,9] rfl (u_loads ti119 (et (k100 (k70 d7))) ((hS.blk d3).cellsAt (Sb.s d2 (Sb.s d3 (Sb.s d4 (Sb.s d5 Sb.z))))) rfl) (q100 (q70 p8)) (fpi 5 [5,6,7,8,9] rfl (fr_ 6 [6,7,8,9] rfl (u_loads ti55 (et (k100 (k70 d9))) ((hS.blk d0).cellsAt (Sb.s d2 (Sb.s d3 Sb.z))) rfl) (q100 (q80 p0)) ?_)))))))
 obtain ⟨r476,g477,h⟩:=bI h
 refine sf1 rfl rfl rfl rfl (wn0 rfl) (s_callv isfn43 ef (e1 (et (k100 (k80 d0))) e0) (r3_word_w (hg.t (le325.t (le402.t le465))) g477 hS) ?_)
 rintro _ w25 ⟨μ14,rfl,le478,hS⟩
 refine po ?_
 refine ⟨(Mons.s (u_loads ti119 (et (k100 (k70 d7))) ((hS.blk d3).cellsAt (Sb.s d2 (Sb.s d3 (Sb.s d4 (Sb.s d5 Sb.z))))) rfl) (Mons.s (u_loads ti59 (et d5) (hS.blk d1).cells rfl) Mons.z)),?_⟩
 obtain ⟨r487,g488,h⟩:=bI h
 obtain ⟨a479,c480,rfl⟩:=Row.shape (hS.get d2)
 obtain ⟨μ15,le481,hB482,hO483⟩:=Sep.borrow hS
 have m486:=Row.rd (α:=TYieldref3Name) hO483 le481 (hS.get d2) (m326.up (le402.t (le465.t le478)))
 refine sf1 rfl rfl rfl rfl (wn0 rfl) (s_callv isfn67 ef (e1 (et (k100 (k70 d4))) (e1 (et (k100 (k70 d5))) (e1 (et (k100 (k70 d6))) (e1 (et (k100 (k70 d8))) (e1 (et (k100 (k80 d1))) e0))))) (r3_of_w (hg.t (le325.t (le402.t (le465.t (le478.t le481))))) (m3.up (le325.t (le402.t (le465.t (le478.t le481))))) (m6.up (le325.t (le402.t (le465.t (le478.t le481))))) (m9.up (le325.t (le402.t (le465.t (le478.t le481))))) m486 (m338.up (le402.t (le465.t (le478.t le481)))) g488 hB482) ?_)
 rintro _ w26 ⟨_,rfl,le484,hB485⟩; replace hS:=Sep.back hS hO483 le484 hB485; refine po ?_
 refine ⟨Mons.z,?_⟩
 refine fpi 9 [9] rfl (sf_nil (xl ?_))
 replace hS:=(hS.drop Rm.z).drop (Rm.s (Rm.s Rm.z))
 exact ⟨_,_,rfl,(aK20 (aK4 (aI (aK50 (aK50 (aK20 (aK20 (aK9 (aO9 aZ))))))))),_,_,rfl,h,le478,hS⟩
 rintro _ t w27 ⟨μ16,i475,rfl,h,le489,hS⟩
 unfold r3_block_j3 at h
 refine nrm (mK20 (mK4 (mi (mK50 (mK50 (mK20 (mK20 (mK9 (mO9 mz))))))))) (xn (nz ?_))
 iterate 2 refine st ?_
 refine nw ?_
 refine zCd h ?_ ?_
 intro h490 h
 refine nz ?_
 iterate 2 refine st ?_
 refine nw (cret ?_)
 refine (fun h=>br (br (xr (xr (br (xr h)))))) ?_
 obtain rfl:=oI h
 refine ret1 rfl d8 ?_
 replace hS:=(hS.drop Rm.z).drop Rm.z
 exact ⟨_,rfl,(le325.t (le402.t (le465.t le489))),hS⟩
 intro h490 h
 refine cskip ?_
 refine (fun h=>bn (bn (xn h))) ?_
 refine creg ?_
 obtain ⟨i491,g492,h⟩:=bI h
 refine wl (su (u_addc (et (k30 d2)) ec g492) (dt (q100 (q80 p6))) (st (wnil (xl ?_))))
 exact ⟨n_1,_,_,rfl,(aK2 (aI (aK5 (aO1 (aK1 (aO10 (aO7 (aK5 (aI (aO50 (aO50 (aO50 (aO4 aZ))))))))))))),⟨_,i491,l177,v175,cs176,rfl,h,(le325.t (le402.t (le465.t le489))),hS,(m326.up (le402.t (le465.t le489)))⟩,Nat.lt_succ_self _⟩
 intro h462 h
 refine nz (st (lds (hS.blk d0).cells rfl ?_))
 iterate 2 refine st ?_
 refine lds ((hS.blk d2).cellsAt (Sb.s d2 (Sb.s d3 (Sb.s d4 (Sb.s d5 Sb.z))))) rfl ?_
 obtain ⟨r501,g502,h⟩:=bI h
 obtain ⟨a493,c494,rfl⟩:=Row.shape (hS.get d1)
 obtain ⟨μ17,le495,hB496,hO497⟩:=Sep.borrow hS
 have m500:=Row.rd (α:=TYieldref3Name) hO497 le495 (hS.get d1) (m326.up le402)
 refine ca ((R3T_sound fu).r3_type (hg.t (le325.t (le402.t le495))) (m3.up (le325.t (le402.t le495))) (m6.up (le325.t (le402.t le495))) (m9.up (le325.t (le402.t le495))) m500 (m338.up (le402.t le495)) g502 hB496) ?_
 rintro _ w28 ⟨_,rfl,le498,hB499⟩; replace hS:=Sep.back hS hO497 le498 hB499; refine po ?_
 iterate 5 refine st ?_
 refine ny (nz ?_)
 iterate 2 refine st ?_
 refine nw ?_
 refine zCd h ?_ ?_
 intro h503 h
 refine nz ?_
 iterate 2 refine st ?_
 refine nw (cret ((fun h=>xr (br (br (xr (xr (br (xr h))))))) ?_))
 obtain rfl:=oI h
 refine ret1 rfl d8 ?_
 replace hS:=((hS.drop Rm.z).drop Rm.z).drop Rm.z
 exact ⟨_,rfl,(le325.t le402),hS⟩
 intro h503 h
 refine cskip (xn (cseq ?_))
 refine ccutE (rg 50 7) (by decide) (fun m w=>∃ μx b504,m=(yK50 (yO7 50 (.i (.bool b504)::[])))∧r3_block_j4 i174 l177 (r3_block_l1 fu self p_1 p_2 p_4 n_1) b504=some r∧Le μ6 μx∧Sq μx w0 w (.blk b16 59 [.int .i64 p_2.Kind,S p_2.Name,.int .i64 p_2.Typ.Kind,S p_2.Typ.Gen,.int .i64 p_2.Takes.Kind,S p_2.Takes.Gen,.int .i64 p_2.Cap,.slice a4 p_2.Params.length c5,.slice a7 p_2.Body.length c8]::.row (.slice a493 l177.length c494) 113 2 l177.length cs176::rsF)) (by rintro _ _ ⟨_,_,rfl,_⟩; rfl) ?_ ?_
 refine creg (st (ld ((hS.blk d2).cell d0) ?_))
 iterate 2 refine st ?_
 refine zWd 53 h ?_ ?_
 intro h505 h
 refine sy rfl ?_
 obtain ⟨u506,g507,h⟩:=bI h
 refine wy rfl (k50 d3) (s_idxc underlying9 (et (k50 d4)) ec g507 (dt (q50 p5)) (sy rfl (st (wnil (xl ?_)))))
 replace hS:=hS.drop (Rm.s (Rm.s Rm.z))
 exact ⟨_,_,rfl,(aK50 (aO7 (aI aZ))),_,(decide ((u506.toNat:Int)=61)),rfl,h,Le.r,hS⟩
 intro h505 h
 refine sn rfl rfl (sn rfl rfl (sn rfl rfl (st (wnil (xl ?_)))))
 replace hS:=hS.drop (Rm.s (Rm.s Rm.z))
 exact ⟨_,_,rfl,(aK50 (aO7 (aI aZ))),_,false,rfl,h,Le.r,hS⟩
 rintro _ t w29 ⟨μ18,b504,rfl,h,le508,hS⟩
 unfold r3_block_j4 at h
 refine nrm (mK50 (mO7 (mi mz))) (xn ?_)
 refine zCb h ?_ ?_
 intro h509 h
 refine nz (st (nw (cret ?_)))
 refine (fun h=>br (br (xr (xr (br (xr h)))))) ?_
 obtain rfl:=oI h
 refine ret1 rfl d8 ?_
 replace hS:=(hS.drop Rm.z).drop Rm.z
 exact ⟨_,rfl,(le325.t (le402.t le508)),hS⟩
 intro h509 h
 refine cskip ?_
 refine (fun h=>bn (bn (xn h))) ?_
 refine creg ?_
 obtain ⟨i510,g511,h⟩:=bI h
 refine wl (su (u_addc (et (k30 d2)) ec g511) (dt (q100 (q80 p6))) (st (wnil (xl ?_))))
 exact ⟨n_1,_,_,rfl,(aK2 (aI (aK5 (aO1 (aK1 (aO10 (aO7 (aK5 (aI (aO50 (aO50 (aO50 (aO4 aZ))))))))))))),⟨_,i510,l177,(.slice a493 l177.length c494),cs176,rfl,h,(le325.t (le402.t le508)),hS,(m326.up (le402.t le508))⟩,Nat.lt_succ_self _⟩
 intro h327 h
 refine cexit ?_
 refine (fun h=>xe (xe (bh h))) ?_
 refine xn (nz (st (nw (cret ?_))))
 obtain rfl:=oI h
 refine ret1 rfl d8 ?_
 replace hS:=(hS.drop Rm.z).drop Rm.z
 exact ⟨_,rfl,le325,hS⟩
theorem R3B_sound:∀ n,R3BSound (R3B_run n)
  | 0=>⟨(by intro; intros; rename_i h _; cases h)⟩
  | n+1=>⟨r3_block_w (R3B_sound n)⟩
theorem r3_head_w (hg:Le Gm μ0) {p_1:List TDef} {p_2:TDef} {r:Int} (m3:Sl μ0 a1 c2 p_1) (m6:Sl μ0 a4 c5 p_2.Params) (m9:Sl μ0 a7 c8 p_2.Body) (h:r3_head p_1 p_2=some r) (hS:Sq μ0 w0 w (rsF)):CallsV prog 21 [.slice a1 p_1.length c2,.agg ⟨[.int .i64 p_2.Kind,S p_2.Name,.int .i64 p_2.Typ.Kind,S p_2.Typ.Gen,.int .i64 p_2.Takes.Kind,S p_2.Takes.Gen,.int .i64 p_2.Cap,.slice a4 p_2.Params.length c5,.slice a7 p_2.Body.length c8]⟩] w (fun v w'=>∃ (μ':M) ,v=.int .i64 r∧Le μ0 μ'∧Sq μ' w0 w' (rsF)):=by
 unfold r3_head at h
 refine enter func21 rfl (frm:=_::_::u5 (u20 (u50 []))) rfl (nz ?_)
 refine wl (s_box (et d1) rfl hS ?_); clear hS; intro b10 w1 hb11 hS; refine po ?_
 refine st (ny (nz (st (ld ((hS.blk d0).cell d7) (wl (su (u_lensl underlying56 (et (k10 d2))) (dt (q10 p3)) (st (nw ?_))))))))
 refine ccutE (rg 4 3++rg 8 3++rg 14 43) (by decide +kernel) (fun m w=>∃ (μx:M) ,m=(yK4 (yO3 4 (yK1 (yO3 8 (yK3 (yO20 14 (yO20 34 (yO3 54 []))))))))∧r3_head_j1 p_2 =some r∧Le μ0 μx∧Sq μx w0 w (.blk b10 59 [.int .i64 p_2.Kind,S p_2.Name,.int .i64 p_2.Typ.Kind,S p_2.Typ.Gen,.int .i64 p_2.Takes.Kind,S p_2.Takes.Gen,.int .i64 p_2.Cap,.slice a4 p_2.Params.length c5,.slice a7 p_2.Body.length c8]::rsF)) (by rintro _ _ ⟨_,rfl,_⟩; rfl) ?_ ?_
 refine cblock ?_
 refine cloopE (rg 4 3++rg 8 3++rg 15 42) (by decide +kernel) (fun n m w=>∃ μx i80,m=(yK4 (yO3 4 (yK1 (yO3 8 (yK3 (.i (.int .i64 i80)::(yO20 15 (yO20 35 (yO2 55 [])))))))))∧r3_head_l1 p_1 p_2 n i80=some r∧Le μ0 μx∧Sq μx w0 w (.blk b10 59 [.int .i64 p_2.Kind,S p_2.Name,.int .i64 p_2.Typ.Kind,S p_2.Typ.Gen,.int .i64 p_2.Takes.Kind,S p_2.Takes.Gen,.int .i64 p_2.Cap,.slice a4 p_2.Params.length c5,.slice a7 p_2.Body.length c8]::rsF)) (by rintro _ _ _ ⟨_,_,rfl,_⟩; rfl) _ _ (aK4 (aO3 (aK1 (aO3 (aK3 (aI (aO20 (aO20 (aO2 aZ))))))))) ⟨_,0,rfl,h,Le.r,hS⟩ ?_
 rintro n_1 _ t w2 ⟨μ1,i80,rfl,h,le149,hS⟩
 rcases n_1 with _|n_1
 cases h
 unfold r3_head_l1 at h
 refine cnrm (mK4 (mO3 (mK1 (mO3 (mK3 (mi (mO20 (mO20 (mO2 mz))))))))) (nz (st (ny ?_)))
 refine zCd h ?_ ?_
 intro h150 h
 refine cskip (xn (cseq (cblock (nz (st ?_)))))
 obtain ⟨x151,g152,h⟩:=bI h
 obtain ⟨b153,o154,cs155,e156,f157,m158⟩:=SlR.elem (m6.up le149) g152
 obtain rfl:=m158
 refine wl (su (u_iax underlying56 ti107 (et (k10 d2)) (et (k10 d4)) e156) (dt (q10 p7)) (lds (f157 _ hS.a) rfl ?_))
 refine wl (s_alloc ti107 hS ?_); clear hS; intro b159 w3 hb160 hS; refine po ?_
 refine st (wl (s_storeA ti107 (et d6) (et (k10 d8)) rfl rfl hS d0 rfl p0 dn ?_))
 clear hS; intro w4 hS
 refine ny (cseq ?_)
 refine ccutE (rg 19 7) (by decide) (fun m w=>∃ μx b161,m=(yK10 (yK9 (yO7 19 (.i (.bool b161)::[]))))∧r3_head_j2 p_1 p_2 i80 x151 (r3_head_l1 p_1 p_2 n_1) b161=some r∧Le μ1 μx∧Sq μx w0 w (.blk b10 59 [.int .i64 p_2.Kind,S p_2.Name,.int .i64 p_2.Typ.Kind,S p_2.Typ.Gen,.int .i64 p_2.Takes.Kind,S p_2.Takes.Gen,.int .i64 p_2.Cap,.slice a4 p_2.Params.length c5,.slice a7 p_2.Body.length c8]::.blk b159 107 [S x151.Name,.int .i64 x151.Typ.Kind,S x151.Typ.Gen]::rsF)) (by rintro _ _ ⟨_,_,rfl,_⟩; rfl) ?_ ?_
 refine creg (st (ld ((hS.blk d1).cell d0) ?_))
 iterate 2 refine st ?_
 refine zWd 22 h ?_ ?_
 intro h162 h
 refine sy rfl (wy rfl (k20 d2) (s_load ti3 (et (k20 d3)) ((hS.blk d1).cell d0) (dt (q20 p4)) (sy rfl (st (wnil (xl ?_))))))
 replace hS:=hS.bg Y1
 exact ⟨_,_,rfl,(aK10 (aK9 (aO7 (aI aZ)))),_,(decide (p_2.Kind≠3)),rfl,h,Le.r,hS⟩
 intro h162 h
 refine sn rfl rfl (sn rfl rfl (sn rfl rfl (st (wnil (xl ?_)))))
 replace hS:=hS.bg Y1
 exact ⟨_,_,rfl,(aK10 (aK9 (aO7 (aI aZ)))),_,false,rfl,h,Le.r,hS⟩
 rintro _ t w5 ⟨μ2,b161,rfl,h,le163,hS⟩
 unfold r3_head_j2 at h
 refine nrm (mK10 (mK9 (mO7 (mi mz)))) (xn ?_)
 refine zCb h ?_ ?_
 intro h164 h
 refine cexit ?_
 refine (fun h=>xe (bm rfl (xe (xe (bh h))))) ?_
 refine xl ?_
 replace hS:=hS.drop (Rm.s Rm.z)
 exact ⟨_,_,rfl,(aK4 (aO3 (aK1 (aO3 (aK3 (aO20 (aO20 (aO3 aZ)))))))),_,rfl,h,(le149.t le163),hS⟩
 intro h164 h
 refine cskip (xn (cseq (nz (st (ld ((hS.blk d0).cell d7) (st ?_))))))
 obtain ⟨l165,g166,h⟩:=bI h
 obtain ⟨a167,c168,e169,m170⟩:=Sl.slc (i:=none) (j:=some i80) (m6.up (le149.t le163)) g166
 refine wl (su (u_slc underlying56 ti107 (et (k20 d8)) .n (.s (et (k20 d9))) e169) (dt (q30 p0)) (wl (su (u_lensl underlying56 (et (k30 d0))) (dt (q30 p1)) (st (nw (cblock ?_))))))
 refine cloopE ([4]++[8]++rg 33 9) (by decide) (fun n m w=>∃ μx i183,m=(yK4 (yO1 4 (yK3 (yO1 8 (yK20 (yK3 (.i (.int .i64 i183)::(yO9 33 []))))))))∧r3_head_l2 p_1 i80 x151 l165 (r3_head_l1 p_1 p_2 n_1) n i183=some r∧Le μ2 μx∧Sq μx w0 w (.blk b10 59 [.int .i64 p_2.Kind,S p_2.Name,.int .i64 p_2.Typ.Kind,S p_2.Typ.Gen,.int .i64 p_2.Takes.Kind,S p_2.Takes.Gen,.int .i64 p_2.Cap,.slice a4 p_2.Params.length c5,.slice a7 p_2.Body.length c8]::.blk b159 107 [S x151.Name,.int .i64 x151.Typ.Kind,S x151.Typ.Gen]::rsF)) (by rintro _ _ _ ⟨_,_,rfl,_⟩; rfl) _ _ (aK4 (aO1 (aK3 (aO1 (aK20 (aK3 (aI (aO9 aZ)))))))) ⟨_,0,rfl,h,Le.r,hS⟩ ?_
 rintro n_2 _ t w6 ⟨μ3,i183,rfl,h,le196,hS⟩
 rcases n_2 with _|n_2
 cases h
 unfold r3_head_l2 at h
 refine cnrm (mK4 (mO1 (mK3 (mO1 (mK20 (mK3 (mi (mO9 mz)))))))) (nz (st (ny ?_)))
 refine zCd h ?_ ?_
 intro h197 h
 refine cskip (xn (cseq (cblock (nz ?_))))
 obtain ⟨x198,g199,h⟩:=bI h
 obtain ⟨b200,o201,cs202,e203,f204,m205⟩:=SlR.elem (m170.up le196) g199
 obtain rfl:=m205
 refine wl (su (u_iax underlying56 ti107 (et (k30 d0)) (et (k30 d2)) e203) (dt (q30 p4)) (lds (f204 _ hS.a) rfl ?_))
 refine wl (s_alloc ti107 hS ?_); clear hS; intro b206 w7 hb207 hS; refine po ?_
 refine wl (s_storeA ti107 (et d8) (et (k30 d5)) rfl rfl hS d0 rfl p0 dn ?_)
 clear hS; intro w8 hS
 refine nx (st (ld ((hS.blk d0).cell d0) (st (ld ((hS.blk d2).cell d0) (wl (su (u_eqs (et (k30 d7)) (et (k30 d9))) (dt (q40 p0)) (nw ?_)))))))
 refine zCd h ?_ ?_
 intro h208 h
 refine nz (st (nw (cret ((fun h=>br (xr (xr (br (xr (br (xr (xr (br (xr (xr h))))))))))) ?_))))
 obtain rfl:=oI h
 refine ret1 rfl d4 ?_
 replace hS:=((hS.drop Rm.z).drop Rm.z).drop Rm.z
 exact ⟨_,rfl,(le149.t (le163.t le196)),hS⟩
 intro h208 h
 refine cskip ?_
 refine (fun h=>bn (xn h)) ?_
 refine creg ?_
 obtain ⟨i209,g210,h⟩:=bI h
 refine wl (su (u_addc (et (k30 d2)) ec g210) (dt (q40 p1)) (st (wnil (xl ?_))))
 replace hS:=hS.drop Rm.z
 exact ⟨n_2,_,_,rfl,(aK4 (aO1 (aK3 (aO1 (aK20 (aK3 (aI (aO9 aZ)))))))),⟨_,i209,rfl,h,le196,hS⟩,Nat.lt_succ_self _⟩
 intro h197 h
 refine cexit ?_
 refine (fun h=>xe (xe (bh h))) ?_
 refine xn (nz ?_)
 iterate 2 refine st ?_
 refine ld ((hS.blk d1).cell d1) (st (nw ?_))
 refine zCd h ?_ ?_
 intro h211 h
 refine nz ?_
 iterate 3 refine st ?_
 refine ld ((hS.blk d1).cell d2) ?_
 obtain ⟨r212,g213,h⟩:=bI h
 refine ca (r3_find_w (hg.t (le149.t (le163.t le196))) (m3.up (le149.t (le163.t le196))) g213 hS) ?_
 rintro _ w9 ⟨μ4,a215,c216,a218,c219,rfl,le214,hS,m217,m220⟩
 refine po ?_
 iterate 3 refine st ?_
 refine wl (s_alloc ti59 hS ?_); clear hS; intro b221 w10 hb222 hS; refine po ?_
 refine wl (s_storeA ti59 (et d9) (et (k50 d2)) rfl rfl hS d0 rfl p0 dn ?_)
 clear hS; intro w11 hS
 refine st (nx ?_)
 iterate 2 refine st ?_
 refine nw ?_
 refine zCe h ?_ ?_
 intro h223 h
 refine nz (st (nw (cret ?_)))
 refine (fun h=>br (xr (xr (br (xr (xr h)))))) ?_
 obtain rfl:=oI h
 refine ret1 rfl d4 ?_
 replace hS:=((hS.drop Rm.z).drop Rm.z).drop Rm.z
 exact ⟨_,rfl,(le149.t (le163.t (le196.t le214))),hS⟩
 intro h223 h
 refine cskip ?_
 refine (fun h=>bn (xn h)) ?_
 refine creg ?_
 obtain ⟨i224,g225,h⟩:=bI h
 refine wl (su (u_addc (et (k10 d4)) ec g225) (dt (q50 p6)) (st (wnil (xl ?_))))
 replace hS:=(hS.drop Rm.z).drop (Rm.s Rm.z)
 exact ⟨n_1,_,_,rfl,(aK4 (aO3 (aK1 (aO3 (aK3 (aI (aO20 (aO20 (aO2 aZ))))))))),⟨_,i224,rfl,h,(le149.t (le163.t (le196.t le214))),hS⟩,Nat.lt_succ_self _⟩
 intro h211 h
 refine cskip ?_
 refine (fun h=>bn (xn h)) ?_
 refine creg ?_
 obtain ⟨i226,g227,h⟩:=bI h
 refine wl (su (u_addc (et (k10 d4)) ec g227) (dt (q50 p6)) (st (wnil (xl ?_))))
 replace hS:=hS.drop (Rm.s Rm.z)
 exact ⟨n_1,_,_,rfl,(aK4 (aO3 (aK1 (aO3 (aK3 (aI (aO20 (aO20 (aO2 aZ))))))))),⟨_,i226,rfl,h,(le149.t (le163.t le196)),hS⟩,Nat.lt_succ_self _⟩
 intro h150 h
 refine cexit ?_
 refine (fun h=>xe (xe (bh h))) ?_
 refine xl ?_
 exact ⟨_,_,rfl,(aK4 (aO3 (aK1 (aO3 (aK3 (aO20 (aO20 (aO3 aZ)))))))),_,rfl,h,le149,hS⟩
 rintro _ t w12 ⟨μ5,rfl,h,le228,hS⟩
 unfold r3_head_j1 at h
 refine nrm (mK4 (mO3 (mK1 (mO3 (mK3 (mO20 (mO20 (mO3 mz)))))))) (xn (cseq (cseq ?_)))
 refine ccutE (rg 57 19) (by decide) (fun m w=>∃ μx b229,m=(yK50 (yK7 (yO10 57 (yO9 67 (.i (.bool b229)::[])))))∧r3_head_j3 b229=some r∧Le μ5 μx∧Sq μx w0 w (rsF)) (by rintro _ _ ⟨_,_,rfl,_⟩; rfl) ?_ ?_
 refine creg (st (ld ((hS.blk d0).cell d0) ?_))
 iterate 2 refine st ?_
 refine zWd 60 h ?_ ?_
 intro h230 h
 refine sy rfl (sy rfl (wy rfl (k60 d0) (s_load ti3 (et (k60 d2)) ((hS.blk d0).cell d4) (dt (q60 p3)) (sy rfl ?_))))
 iterate 2 refine st ?_
 refine zWd 66 h ?_ ?_
 intro h231 h
 refine sn rfl rfl (sn rfl rfl (sn rfl rfl (sn rfl rfl (wu rfl (k70 d0) (dt (q70 p1)) (wu rfl (k70 d0) (dt (q70 p2)) (wu rfl (k70 d0) (dt (q70 p3)) (wu rfl (k70 d0) (dt (q70 p4)) (sn rfl rfl (st (wnil (xl ?_)))))))))))
 replace hS:=hS.drop Rm.z
 exact ⟨_,_,rfl,(aK50 (aK7 (aO10 (aO9 (aI aZ))))),_,true,rfl,h,Le.r,hS⟩
 intro h231 h
 refine sy rfl (wy rfl (k60 d6) (s_load ti3 (et (k60 d7)) ((hS.blk d0).cell d0) (dt (q60 p8)) (sy rfl (sy rfl ?_))))
 refine zWd 70 h ?_ ?_
 intro h232 h
 refine sy rfl (sy rfl (wy rfl (k70 d0) (s_load ti3 (et (k70 d2)) ((hS.blk d0).cell d2) (dt (q70 p3)) (sy rfl (sy rfl (st (wnil (xl ?_))))))))
 replace hS:=hS.drop Rm.z
 exact ⟨_,_,rfl,(aK50 (aK7 (aO10 (aO9 (aI aZ))))),_,(decide (p_2.Typ.Kind=3)),rfl,h,Le.r,hS⟩
 intro h232 h
 refine sn rfl rfl (sn rfl rfl (sn rfl rfl (sn rfl rfl (sy rfl (st (wnil (xl ?_)))))))
 replace hS:=hS.drop Rm.z
 exact ⟨_,_,rfl,(aK50 (aK7 (aO10 (aO9 (aI aZ))))),_,false,rfl,h,Le.r,hS⟩
 intro h230 h
 refine sn rfl rfl (sn rfl rfl (sn rfl rfl (sn rfl rfl ?_)))
 iterate 2 refine st ?_
 refine sy rfl (wy rfl (k60 d6) (s_load ti3 (et (k60 d7)) ((hS.blk d0).cell d0) (dt (q60 p8)) (sy rfl (sy rfl ?_))))
 refine zWd 70 h ?_ ?_
 intro h233 h
 refine sy rfl (sy rfl (wy rfl (k70 d0) (s_load ti3 (et (k70 d2)) ((hS.blk d0).cell d2) (dt (q70 p3)) (sy rfl (sy rfl (st (wnil (xl ?_))))))))
 replace hS:=hS.drop Rm.z
 exact ⟨_,_,rfl,(aK50 (aK7 (aO10 (aO9 (aI aZ))))),_,(decide (p_2.Typ.Kind=3)),rfl,h,Le.r,hS⟩
 intro h233 h
 refine sn rfl rfl (sn rfl rfl (sn rfl rfl (sn rfl rfl (sy rfl (st (wnil (xl ?_)))))))
 replace hS:=hS.drop Rm.z
 exact ⟨_,_,rfl,(aK50 (aK7 (aO10 (aO9 (aI aZ))))),_,false,rfl,h,Le.r,hS⟩
 rintro _ t w13 ⟨μ6,b229,rfl,h,le234,hS⟩
 unfold r3_head_j3 at h
 refine nrm (mK50 (mK7 (mO10 (mO9 (mi mz))))) (xn ?_)
 refine zCb h ?_ ?_
 intro h235 h
 refine nz (st (nw (cret (xr ?_))))
 obtain rfl:=oI h
 refine ret1 rfl d4 ?_
 exact ⟨_,rfl,(le228.t le234),hS⟩
 intro h235 h
 refine cskip (xn (nz (st (nw (cret ?_)))))
 obtain rfl:=oI h
 refine ret1 rfl d4 ?_
 exact ⟨_,rfl,(le228.t le234),hS⟩
theorem r3_body_w (hg:Le Gm μ0) {p_1:List TDef} {p_2:TDef} {r:Int} (m3:Sl μ0 a1 c2 p_1) (m6:Sl μ0 a4 c5 p_2.Params) (m9:Sl μ0 a7 c8 p_2.Body) (h:r3_body fu p_1 p_2=some r) (hS:Sq μ0 w0 w (rsF)):CallsV prog 22 [.slice a1 p_1.length c2,.agg ⟨[.int .i64 p_2.Kind,S p_2.Name,.int .i64 p_2.Typ.Kind,S p_2.Typ.Gen,.int .i64 p_2.Takes.Kind,S p_2.Takes.Gen,.int .i64 p_2.Cap,.slice a4 p_2.Params.length c5,.slice a7 p_2.Body.length c8]⟩] w (fun v w'=>∃ (μ':M) ,v=.int .i64 r∧Le μ0 μ'∧Sq μ' w0 w' (rsF)):=by
 unfold r3_body at h
 refine enter func22 rfl (frm:=_::_::u5 (u10 (u20 []))) rfl (nz ?_)
 refine wl (s_box (et d1) rfl hS ?_); clear hS; intro b10 w1 hb11 hS; refine po ?_
 refine st (ny (nz (st (ld ((hS.blk d0).cell d0) (st (nw ?_))))))
 refine zCd h ?_ ?_
 intro h12 h
 refine nz (st (nw (cret (xr ?_))))
 obtain rfl:=oI h
 refine ret1 rfl d4 ?_
 replace hS:=hS.drop Rm.z
 exact ⟨_,rfl,Le.r,hS⟩
 intro h12 h
 refine cskip (xn (nz (st (ny (nz (st (ld ((hS.blk d0).cell d0) (st (nw ?_)))))))))
 refine ccutE ([7]++rg 14 17) (by decide) (fun m w=>∃ μx l15 v13 cs14,m=(yK5 (.i (v13)::(yK1 (yO1 7 (yK6 (yO10 14 (yO7 24 [])))))))∧r3_body_j1 fu p_1 p_2 l15=some r∧Le μ0 μx∧Sq μx w0 w (.blk b10 59 [.int .i64 p_2.Kind,S p_2.Name,.int .i64 p_2.Typ.Kind,S p_2.Typ.Gen,.int .i64 p_2.Takes.Kind,S p_2.Takes.Gen,.int .i64 p_2.Cap,.slice a4 p_2.Params.length c5,.slice a7 p_2.Body.length c8]::.row v13 113 2 l15.length cs14::rsF)∧Rw μx cs14 l15) (by rintro _ _ ⟨_,_,_,_,rfl,_⟩; rfl) ?_ ?_
 refine zCd h ?_ ?_
 intro h17 h
 refine nz (st (ld ((hS.blk d0).cell d7) (wl (su (u_lensl underlying56 (et (k10 d5))) (dt (q10 p6)) (st (nw (cblock ?_)))))))
 replace hS:=hS.nilRow 113 (Mo.sz TYieldref3Name)
 replace hS:=hS.bg Y1
 refine cloopE ([7]++rg 18 13) (by decide) (fun n m w=>∃ μx i41 l44 v42 cs43,m=(yK5 (.i (v42)::(yK1 (yO1 7 (yK9 (.i (.int .i64 i41)::(yO10 18 (yO3 28 []))))))))∧r3_body_l1 fu p_1 p_2 n i41 l44=some r∧Le μ0 μx∧Sq μx w0 w (.blk b10 59 [.int .i64 p_2.Kind,S p_2.Name,.int .i64 p_2.Typ.Kind,S p_2.Typ.Gen,.int .i64 p_2.Takes.Kind,S p_2.Takes.Gen,.int .i64 p_2.Cap,.slice a4 p_2.Params.length c5,.slice a7 p_2.Body.length c8]::.row v42 113 2 l44.length cs43::rsF)∧Rw μx cs43 l44) (by rintro _ _ _ ⟨_,_,_,_,_,rfl,_⟩; rfl) _ _ (aK5 (aI (aK1 (aO1 (aK9 (aI (aO10 (aO3 aZ)))))))) ⟨_,0,[],(.slice none 0 0),[],rfl,h,Le.r,hS,Rw.nil⟩ ?_
 rintro n_1 _ t w2 ⟨μ1,i41,l44,v42,cs43,rfl,h,le68,hS,m69⟩
 rcases n_1 with _|n_1
 cases h
 unfold r3_body_l1 at h
 refine cnrm (mK5 (mi (mK1 (mO1 (mK9 (mi (mO10 (mO3 mz)))))))) (nz (st (ny ?_)))
 refine zCd h ?_ ?_
 intro h70 h
 refine cskip (xn (cseq (cblock (nz ?_))))
 obtain ⟨x71,g72,h⟩:=bI h
 obtain ⟨b73,o74,cs75,e76,f77,m78⟩:=SlR.elem (m6.up le68) g72
 obtain rfl:=m78
 refine wl (su (u_iax underlying56 ti107 (et (k10 d5)) (et (k10 d7)) e76) (dt (q10 p9)) (lds (f77 _ hS.a) rfl ?_))
 refine wl (s_alloc ti107 hS ?_); clear hS; intro b79 w3 hb80 hS; refine po ?_
 refine wl (s_storeA ti107 (et d7) (et (k20 d0)) rfl rfl hS d0 rfl p0 dn ?_)
 clear hS; intro w4 hS
 refine nw ?_
 refine ccutE (rg 21 9) (by decide) (fun m w=>∃ μx l83 v81 cs82,m=(yK5 (.i (v81)::(yK10 (yK5 (yO9 21 [])))))∧r3_body_j2 i41 (r3_body_l1 fu p_1 p_2 n_1) l83=some r∧Le μ1 μx∧Sq μx w0 w (.blk b10 59 [.int .i64 p_2.Kind,S p_2.Name,.int .i64 p_2.Typ.Kind,S p_2.Typ.Gen,.int .i64 p_2.Takes.Kind,S p_2.Takes.Gen,.int .i64 p_2.Cap,.slice a4 p_2.Params.length c5,.slice a7 p_2.Body.length c8]::.row v81 113 2 l83.length cs82::rsF)∧Rw μx cs82 l83) (by rintro _ _ ⟨_,_,_,_,rfl,_⟩; rfl) ?_ ?_
 refine cdw hS ?_; clear hS; intro w5 hS
 refine sf_start (fpi 0 [0,8,9] rfl (fpi 1 [1,2,6,7,8,9] rfl (fr_ 2 [2,6,7,8,9] rfl (u_load ti9 (et (k20 d2)) ((hS.blk d0).cell d0)) (q20 p3) (fpi 3 [3,4,5,6,7,8,9] rfl (fr_ 4 [4,5,6,7,8,9] rfl (u_loads ti55 (et (k20 d4)) ((hS.blk d0).cellsAt (Sb.s d1 (Sb.s d2 Sb.z))) rfl) (q20 p5) ?_)))))
 obtain ⟨r85,g86,h⟩:=bI h
 refine sf1 rfl rfl rfl rfl (wn0 rfl) (s_callv isfn43 ef (e1 (et (k20 d5)) e0) (r3_word_w (hg.t le68) g86 hS) ?_)
 rintro _ w6 ⟨μ2,rfl,le87,hS⟩
 refine po ?_
 refine ⟨(Mons.s (u_load ti9 (et (k20 d2)) ((hS.blk d0).cell d0)) Mons.z),?_⟩
 refine fp 6 [6,7,8,9] rfl (u_build ti113 pl113 (Fl.o rfl (et (k20 d3)) rfl rfl p0 (Fl.o rfl (et (k20 d6)) rfl rfl p1 Fl.z))) (q20 p7) ?_
 refine sf1 rfl rfl rfl rfl (wn0 rfl) (s_bsl1 underlying110 ti113 rfl (et (k20 d7)) rfl hS ?_); clear hS; intro b88 w7 hb89 hS; refine po ?_
 refine ⟨Mons.z,?_⟩
 obtain ⟨l92,g93,h⟩:=bI h
 have m94:Rw μ2 [S x71.Name,S r85] [(TYieldref3Name.mk x71.Name r85)]:=(Rw.one (α:=TYieldref3Name) rfl)
 have m91:=Rw.app (m69.up le87) m94 g93
 refine sf1 rfl rfl rfl rfl (wn0 rfl) (s_app1 underlying110 ti113 rfl (et (k20 d1)) (et (k20 d8)) hS d3 (hS.blk d0).cells m94 rfl g93 (by decide) ?_); clear hS; intro v90 w8 rs_ hp_ hS; cases (show _=rs_ from hp_)
 replace hS:=Sep.reput hS p3; refine po ?_
 replace hS:=hS.drop Rm.z
 refine ⟨Mons.z,?_⟩
 refine fpi 9 [9] rfl (sf_nil (xl ?_))
 replace hS:=hS.drop Rm.z
 exact ⟨_,_,rfl,(aK5 (aI (aK10 (aK5 (aO9 aZ))))),_,_,_,(cs43++[S x71.Name,S r85]),rfl,h,le87,hS,m91⟩
 rintro _ t w9 ⟨μ3,l83,v81,cs82,rfl,h,le95,hS,m96⟩
 unfold r3_body_j2 at h
 refine nrm (mK5 (mi (mK10 (mK5 (mO9 mz))))) ?_
 refine (fun h=>bn (xn h)) ?_
 refine creg ?_
 obtain ⟨i97,g98,h⟩:=bI h
 refine wl (su (u_addc (et (k10 d7)) ec g98) (dt (q30 p0)) (st (wnil (xl ?_))))
 exact ⟨n_1,_,_,rfl,(aK5 (aI (aK1 (aO1 (aK9 (aI (aO10 (aO3 aZ)))))))),⟨_,i97,l83,v81,cs82,rfl,h,(le68.t le95),hS,m96⟩,Nat.lt_succ_self _⟩
 intro h70 h
 refine cexit ?_
 refine (fun h=>xe (xe (bh h))) ?_
 refine xl ?_
 exact ⟨_,_,rfl,(aK5 (aI (aK1 (aO1 (aK6 (aO10 (aO7 aZ))))))),_,_,_,_,rfl,h,le68,hS,m69⟩
 intro h17 h
 refine cskip (xl ?_)
 replace hS:=hS.nilRow 113 (Mo.sz TYieldref3Name)
 replace hS:=hS.bg Y1
 exact ⟨_,_,rfl,(aK5 (aI (aK1 (aO1 (aK6 (aO10 (aO7 aZ))))))),_,[],(.slice none 0 0),[],rfl,h,Le.r,hS,Rw.nil⟩
 rintro _ t w10 ⟨μ4,l15,v13,cs14,rfl,h,le99,hS,m100⟩
 unfold r3_body_j1 at h
 refine nrm (mK5 (mi (mK1 (mO1 (mK6 (mO10 (mO7 mz))))))) (xn (nz (st (lds (hS.blk d0).cells rfl ?_))))
 iterate 2 refine st ?_
 refine ld ((hS.blk d0).cell d8) ?_
 replace hS:=hS.bg Y1
 obtain ⟨μ5,a101,c102,e105,le104,m103,hq_⟩:=Sep.frzRow hS m100 rfl; clear hS
 subst e105; have hS:=hq_; clear hq_
 obtain ⟨r106,g107,h⟩:=bI h
 refine ca ((R3B_sound fu).r3_block (hg.t (le99.t le104)) (m3.up (le99.t le104)) (m6.up (le99.t le104)) (m9.up (le99.t le104)) m103 (m9.up (le99.t le104)) g107 hS) ?_
 rintro _ w11 ⟨μ6,rfl,le108,hS⟩
 refine po (st (nw (cret ?_)))
 obtain rfl:=oI h
 refine ret1 rfl d4 ?_
 replace hS:=hS.drop Rm.z
 exact ⟨_,rfl,(le99.t (le104.t le108)),hS⟩
end Go.Proofs.Yteiemedhecjgiaa
