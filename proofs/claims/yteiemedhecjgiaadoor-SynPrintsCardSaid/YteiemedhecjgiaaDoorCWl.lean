/- Texts of SynPrints Wl. -/
import Derived.Test.YteiemedhecjgiaaDoorCXu
import Derived.Test.YteiemedhecjgiaaDoorCPl
import Derived.Test.YteiemedhecjgiaaDoorCFl
import Derived.Test.YteiemedhecjgiaaDoorCWa
set_option linter.unusedSimpArgs false
set_option linter.unusedVariables false
set_option linter.unusedSectionVars false
set_option maxRecDepth 100000
set_option maxHeartbeats 20000000
namespace Go.Proofs.YteiemedhecjgiaaDoor
open Go.Wk Go.Xt Go.Y Tryd
variable {b1 c2 c4 c7 fu:Nat} {a1 a3 a6:Option Addr} {μ0:M} {w0 w:World} {rsF:List Res}
theorem r1_class_w (hg:Le Gm μ0) {p_1:UInt8} {r:Int}  (h:r1_class p_1=some r) (hS:Sq μ0 w0 w (rsF)):CallsV prog 42 [.int .u8 (p_1.toNat:Int)] w (fun v w'=>∃ (μ':M) ,v=.int .i64 r∧Le μ0 μ'∧Sq μ' w0 w' (rsF)):=by
 unfold r1_class at h
 refine enter func42 rfl (frm:=_::u2 (u10 (u20 []))) rfl (nz (st (ny (cblock (cseq (cseq ?_))))))
 refine ccutE (rg 4 6) (by decide) (fun m w=>∃ μx b1,m=(yK3 (.i (.bool b1)::(yO6 4 [])))∧r1_class_j1 p_1 b1=some r∧Le μ0 μx∧Sq μx w0 w (rsF)) (by rintro _ _ ⟨_,_,rfl,_⟩; rfl) ?_ ?_
 refine creg ?_
 iterate 3 refine st ?_
 refine zWd 6 h ?_ ?_
 intro h2 h
 refine sy rfl (sy rfl ?_)
 iterate 2 refine st ?_
 refine wnil (xl ?_)
 exact ⟨_,_,rfl,(aK3 (aI (aO6 aZ))),_,(decide ((p_1.toNat:Int)≤122)),rfl,h,Le.r,hS⟩
 intro h2 h
 refine sn rfl rfl (sn rfl rfl ?_)
 iterate 2 refine st ?_
 refine wnil (xl ?_)
 exact ⟨_,_,rfl,(aK3 (aI (aO6 aZ))),_,false,rfl,h,Le.r,hS⟩
 rintro _ t w1 ⟨μ1,b1,rfl,h,le3,hS⟩
 unfold r1_class_j1 at h
 refine nrm (mK3 (mi (mO6 mz))) (xn ?_)
 refine ccutE (rg 10 2) (by decide) (fun m w=>∃ μx b4,m=(yK3 (.i (.bool b4)::(yK6 (yO2 10 []))))∧r1_class_j2 p_1 b4=some r∧Le μ1 μx∧Sq μx w0 w (rsF)) (by rintro _ _ ⟨_,_,rfl,_⟩; rfl) ?_ ?_
 refine zCb h ?_ ?_
 intro h5 h
 refine cskip (xl ?_)
 exact ⟨_,_,rfl,(aK3 (aI (aK6 (aO2 aZ)))),_,_,rfl,h,Le.r,hS⟩
 intro h5 h
 refine creg ?_
 iterate 3 refine st ?_
 refine wnil (xl ?_)
 exact ⟨_,_,rfl,(aK3 (aI (aK6 (aO2 aZ)))),_,(decide ((p_1.toNat:Int)=95)),rfl,h,Le.r,hS⟩
 rintro _ t w2 ⟨μ2,b4,rfl,h,le6,hS⟩
 unfold r1_class_j2 at h
 refine nrm (mK3 (mi (mK6 (mO2 mz)))) (xn ?_)
 refine zCb h ?_ ?_
 intro h7 h
 refine nz (st (nw (cret ?_)))
 refine (fun h=>br (xr h)) ?_
 obtain rfl:=oI h
 refine ret1 rfl d2 ?_
 exact ⟨_,rfl,(le3.t le6),hS⟩
 intro h7 h
 refine cseq ?_
 refine ccutE (rg 13 6) (by decide) (fun m w=>∃ μx b8,m=(yK10 (yK2 (.i (.bool b8)::(yO6 13 []))))∧r1_class_j3 p_1 b8=some r∧Le μ2 μx∧Sq μx w0 w (rsF)) (by rintro _ _ ⟨_,_,rfl,_⟩; rfl) ?_ ?_
 refine creg ?_
 iterate 3 refine st ?_
 refine zWd 15 h ?_ ?_
 intro h9 h
 refine sy rfl (sy rfl ?_)
 iterate 2 refine st ?_
 refine wnil (xl ?_)
 exact ⟨_,_,rfl,(aK10 (aK2 (aI (aO6 aZ)))),_,(decide ((p_1.toNat:Int)≤57)),rfl,h,Le.r,hS⟩
 intro h9 h
 refine sn rfl rfl (sn rfl rfl ?_)
 iterate 2 refine st ?_
 refine wnil (xl ?_)
 exact ⟨_,_,rfl,(aK10 (aK2 (aI (aO6 aZ)))),_,false,rfl,h,Le.r,hS⟩
 rintro _ t w3 ⟨μ3,b8,rfl,h,le10,hS⟩
 unfold r1_class_j3 at h
 refine nrm (mK10 (mK2 (mi (mO6 mz)))) (xn ?_)
 refine zCb h ?_ ?_
 intro h11 h
 refine nz (st (nw (cret ?_)))
 refine (fun h=>br (xr h)) ?_
 obtain rfl:=oI h
 refine ret1 rfl d2 ?_
 exact ⟨_,rfl,(le3.t (le6.t le10)),hS⟩
 intro h11 h
 refine cseq ?_
 refine ccutE (rg 20 10) (by decide) (fun m w=>∃ μx b12,m=(yK10 (yK9 (.i (.bool b12)::(yO10 20 []))))∧r1_class_j4 p_1 b12=some r∧Le μ3 μx∧Sq μx w0 w (rsF)) (by rintro _ _ ⟨_,_,rfl,_⟩; rfl) ?_ ?_
 refine creg ?_
 iterate 3 refine st ?_
 refine zWd 22 h ?_ ?_
 intro h13 h
 refine sn rfl rfl (sn rfl rfl ?_)
 iterate 2 refine st ?_
 refine sn rfl rfl (sn rfl rfl ?_)
 iterate 2 refine st ?_
 refine wnil (xl ?_)
 exact ⟨_,_,rfl,(aK10 (aK9 (aI (aO10 aZ)))),_,true,rfl,h,Le.r,hS⟩
 intro h13 h
 refine sy rfl (sy rfl ?_)
 iterate 2 refine st ?_
 refine zWd 26 h ?_ ?_
 intro h14 h
 refine sn rfl rfl (sn rfl rfl ?_)
 iterate 2 refine st ?_
 refine wnil (xl ?_)
 exact ⟨_,_,rfl,(aK10 (aK9 (aI (aO10 aZ)))),_,true,rfl,h,Le.r,hS⟩
 intro h14 h
 refine sy rfl (sy rfl ?_)
 iterate 2 refine st ?_
 refine wnil (xl ?_)
 exact ⟨_,_,rfl,(aK10 (aK9 (aI (aO10 aZ)))),_,(decide ((p_1.toNat:Int)=10)),rfl,h,Le.r,hS⟩
 rintro _ t w4 ⟨μ4,b12,rfl,h,le15,hS⟩
 unfold r1_class_j4 at h
 refine nrm (mK10 (mK9 (mi (mO10 mz)))) (xn ?_)
 refine zCb h ?_ ?_
 intro h16 h
 refine nz (st (nw (cret ?_)))
 refine (fun h=>br (xr h)) ?_
 obtain rfl:=oI h
 refine ret1 rfl d2 ?_
 exact ⟨_,rfl,(le3.t (le6.t (le10.t le15))),hS⟩
 intro h16 h
 refine nz ?_
 iterate 3 refine st ?_
 refine nw ?_
 refine zCd h ?_ ?_
 intro h17 h
 refine nz (st (nw (cret ?_)))
 refine (fun h=>br (xr h)) ?_
 obtain rfl:=oI h
 refine ret1 rfl d2 ?_
 exact ⟨_,rfl,(le3.t (le6.t (le10.t le15))),hS⟩
 intro h17 h
 refine cskip ?_
 refine (fun h=>bn (xn h)) ?_
 refine nz (st (nw (cret ?_)))
 obtain rfl:=oI h
 refine ret1 rfl d2 ?_
 exact ⟨_,rfl,(le3.t (le6.t (le10.t le15))),hS⟩
theorem r1_res_w (hg:Le Gm μ0) {p_1:List UInt8} {r:Bool}  (h:r1_res p_1=some r) (hS:Sq μ0 w0 w (rsF)):CallsV prog 43 [S p_1] w (fun v w'=>∃ (μ':M) ,v=.bool r∧Le μ0 μ'∧Sq μ' w0 w' (rsF)):=by
 unfold r1_res at h
 refine enter func43 rfl (frm:=_::u2 (u2 (u10 []))) rfl (nz (st (ny (nz ?_))))
 refine wl (s_bsl underlying64 ti9 (Parts.s ec rfl (Parts.s ec rfl (Parts.s ec rfl (Parts.s ec rfl (Parts.s ec rfl (Parts.s ec rfl (Parts.s ec rfl (Parts.s ec rfl (Parts.s ec rfl (Parts.s ec rfl (Parts.s ec rfl (Parts.s ec rfl (Parts.s ec rfl (Parts.s ec rfl (Parts.s ec rfl (Parts.s ec rfl (Parts.s ec rfl (Parts.s ec rfl (Parts.s ec rfl (Parts.s ec rfl (Parts.s ec rfl (Parts.s ec rfl (Parts.s ec rfl (Parts.s ec rfl (Parts.s ec rfl (Parts.s ec rfl (Parts.s ec rfl Parts.z))))))))))))))))))))))))))) rfl rfl hS ?_); clear hS; intro b1 w1 hb2 hS; refine po ?_
 refine wl (su (u_lensl underlying64 (et d5)) (dt p6) (st (nw (cblock ?_))))
 obtain ⟨μ1,le4,m3,hS⟩:=Sep.frzBlk (l:=([[98,111,120],[102,110],[103,101,110],[116,97,115,107],[116,97,107,101,115],[121,105,101,108,100,115],[108,101,116],[105,102],[101,108,115,101],[119,104,105,108,101],[114,101,116,117,114,110],[115,116,111,112],[115,101,110,100],[111,117,116],[100,111],[114,101,99,118],[121,105,101,108,100],[115,116,97,114,116],[114,101,115,117,109,101],[97,108,105,118,101],[110,117,109],[98,111,111,108],[116,114,117,101],[102,97,108,115,101],[97,110,100],[111,114],[110,111,116]]:List (List UInt8))) hS (Rw.cons (α:=List UInt8) (cs:=[S [98,111,120]]) rfl (Rw.cons (α:=List UInt8) (cs:=[S [102,110]]) rfl (Rw.cons (α:=List UInt8) (cs:=[S [103,101,110]]) rfl (Rw.cons (α:=List UInt8) (cs:=[S [116,97,115,107]]) rfl (Rw.cons (α:=List UInt8) (cs:=[S [116,97,107,101,115]]) rfl (Rw.cons (α:=List UInt8) (cs:=[S [121,105,101,108,100,115]]) rfl (Rw.cons (α:=List UInt8) (cs:=[S [108,101,116]]) rfl (Rw.cons (α:=List UInt8) (cs:=[S [105,102]]) rfl (Rw.cons (α:=List UInt8) (cs:=[S [101,108,115,101]]) rfl (Rw.cons (α:=List UInt8) (cs:=[S [119,104,105,108,101]]) rfl (Rw.cons (α:=List UInt8) (cs:=[S [114,101,116,117,114,110]]) rfl (Rw.cons (α:=List UInt8) (cs:=[S [115,116,111,112]]) rfl (Rw.cons (α:=List UInt8) (cs:=[S [115,101,110,100]]) rfl (Rw.cons (α:=List UInt8) (cs:=[S [111,117,116]]) rfl (Rw.cons (α:=List UInt8) (cs:=[S [100,111]]) rfl (Rw.cons (α:=List UInt8) (cs:=[S [114,101,99,118]]) rfl (Rw.cons (α:=List UInt8) (cs:=[S [121,105,101,108,100]]) rfl (Rw.cons (α:=List UInt8) (cs:=[S [115,116,97,114,116]]) rfl (Rw.cons (α:=List UInt8) (cs:=[S [114,101,115,117,109,101]]) rfl (Rw.cons (α:=List UInt8) (cs:=[S [97,108,105,118,101]]) rfl (Rw.cons (α:=List UInt8) (cs:=[S [110,117,109]]) rfl (Rw.cons (α:=List UInt8) (cs:=[S [98,111,111,108]]) rfl (Rw.cons (α:=List UInt8) (cs:=[S [116,114,117,101]]) rfl (Rw.cons (α:=List UInt8) (cs:=[S [102,97,108,115,101]]) rfl (Rw.cons (α:=List UInt8) (cs:=[S [97,110,100]]) rfl (Rw.cons (α:=List UInt8) (cs:=[S [111,114]]) rfl (Rw.cons (α:=List UInt8) (cs:=[S [110,111,116]]) rfl Rw.nil))))))))))))))))))))))))))) (Nat.le_of_ble_eq_true rfl)
 refine cloopE ([2]++[4]++rg 8 7) (by decide) (fun n m w=>∃ μx i15,m=(yK2 (yO1 2 (yK1 (yO1 4 (yK2 (.i (.int .i64 i15)::(yO7 8 [])))))))∧r1_res_l1 p_1 n i15=some r∧Le μ1 μx∧Sq μx w0 w (rsF)) (by rintro _ _ _ ⟨_,_,rfl,_⟩; rfl) _ _ (aK2 (aO1 (aK1 (aO1 (aK2 (aI (aO7 aZ))))))) ⟨_,0,rfl,h,Le.r,hS⟩ ?_
 rintro n_1 _ t w2 ⟨μ2,i15,rfl,h,le26,hS⟩
 rcases n_1 with _|n_1
 cases h
 unfold r1_res_l1 at h
 refine cnrm (mK2 (mO1 (mK1 (mO1 (mK2 (mi (mO7 mz))))))) (nz (st (ny ?_)))
 refine zCd h ?_ ?_
 intro h27 h
 refine cskip (xn (cseq (cblock (nz ?_))))
 obtain ⟨x28,g29,h⟩:=bI h
 obtain ⟨b30,o31,cs32,e33,f34,m35⟩:=SlR.elem (m3.up le26) g29
 obtain rfl:=m35
 refine wl (su (u_iax underlying64 ti9 (et d5) (et d7) e33) (dt p9) (ld ((f34 _ hS.a).one d0) (st (nx ?_))))
 iterate 2 refine st ?_
 refine wl (su (u_eqs (et (k10 d1)) (et (k10 d2))) (dt (q10 p3)) (nw ?_))
 refine zCd h ?_ ?_
 intro h36 h
 refine nz (st (nw (cret ?_)))
 refine (fun h=>br (xr (xr (br (xr h))))) ?_
 obtain rfl:=oI h
 refine ret1 rfl d2 ?_
 exact ⟨_,rfl,(le4.t le26),hS⟩
 intro h36 h
 refine cskip ?_
 refine (fun h=>bn (xn h)) ?_
 refine creg ?_
 obtain ⟨i37,g38,h⟩:=bI h
 refine wl (su (u_addc (et d7) ec g38) (dt (q10 p4)) (st (wnil (xl ?_))))
 exact ⟨n_1,_,_,rfl,(aK2 (aO1 (aK1 (aO1 (aK2 (aI (aO7 aZ))))))),⟨_,i37,rfl,h,le26,hS⟩,Nat.lt_succ_self _⟩
 intro h27 h
 refine cexit ?_
 refine (fun h=>xe (xe (bh h))) ?_
 refine xn (nz (st (nw (cret ?_))))
 obtain rfl:=oI h
 refine ret1 rfl d2 ?_
 exact ⟨_,rfl,(le4.t le26),hS⟩
theorem r1_named_w (hg:Le Gm μ0) {p_1:List UInt8} {r:Bool}  (h:r1_named p_1=some r) (hS:Sq μ0 w0 w (rsF)):CallsV prog 26 [S p_1] w (fun v w'=>∃ (μ':M) ,v=.bool r∧Le μ0 μ'∧Sq μ' w0 w' (rsF)):=by
 unfold r1_named at h
 refine enter func26 rfl (frm:=_::u1 (u5 (u10 (u20 [])))) rfl (nz (st (ny (nz (st ?_)))))
 refine wl (s_range underlying9 (et d5) hS ?_); clear hS; intro b1 w1 hb2 hS; refine po ?_
 refine nw (cblock ?_)
 refine cloopE (rg 2 3++rg 7 17) (by decide) (fun n m w=>∃ μx q12,m=(yK2 (yO3 2 (yK2 (yO10 7 (yO7 17 [])))))∧r1_named_l1 p_1 n q12=some r∧Le μ0 μx∧Sq μx w0 w (.itr b1 ⟨⟨p_1⟩⟩ q12::rsF)) (by rintro _ _ _ ⟨_,_,rfl,_⟩; rfl) _ _ (aK2 (aO3 (aK2 (aO10 (aO7 aZ))))) ⟨_,0,rfl,h,Le.r,hS⟩ ?_
 rintro n_1 _ t w2 ⟨μ1,q12,rfl,h,le22,hS⟩
 rcases n_1 with _|n_1
 cases h
 unfold r1_named_l1 at h
 refine cnrm (mK2 (mO3 (mK2 (mO10 (mO7 mz))))) (nz ?_)
 refine wl (s_next (et d6) hS d0 (fun h23=>?_) (fun h23=>?_))
 clear hS; intro w3 rs_ hp_ hS; cases (show _=rs_ from hp_)
 replace hS:=Sep.reput hS p0; refine po ?_
 replace h:=iT h23 h
 refine st (ny (cift (et d8) (cskip (xn (cblock (nz ?_))))))
 iterate 2 refine st ?_
 refine nx ?_
 iterate 2 refine st ?_
 obtain ⟨u24,g25,h⟩:=bI h
 refine wl (s_idxc underlying9 (et (k10 d0)) (et (k10 d1)) g25 (dt (q10 p2)) ?_)
 obtain ⟨r26,g27,h⟩:=bI h
 refine ca (r1_class_w (hg.t le22) g27 hS) ?_
 rintro _ w4 ⟨μ2,rfl,le28,hS⟩
 refine po (st (ny ?_))
 refine ccutE (rg 14 9) (by decide) (fun m w=>∃ μx b29,m=(yK10 (yK4 (yO9 14 (.i (.bool b29)::[]))))∧r1_named_j1 p_1 q12 (r1_named_l1 p_1 n_1) b29=some r∧Le μ2 μx∧Sq μx w0 w (.itr b1 ⟨⟨p_1⟩⟩ (q12+wd p_1 q12)::rsF)) (by rintro _ _ ⟨_,_,rfl,_⟩; rfl) ?_ ?_
 refine creg ?_
 iterate 3 refine st ?_
 refine zWd 16 h ?_ ?_
 intro h30 h
 refine sy rfl (sy rfl (sy rfl ?_))
 refine zWd 19 h ?_ ?_
 intro h31 h
 refine sn rfl rfl (sn rfl rfl (sy rfl (st (wnil (xl ?_)))))
 exact ⟨_,_,rfl,(aK10 (aK4 (aO9 (aI aZ)))),_,true,rfl,h,Le.r,hS⟩
 intro h31 h
 refine sy rfl (sy rfl (sy rfl (st (wnil (xl ?_)))))
 exact ⟨_,_,rfl,(aK10 (aK4 (aO9 (aI aZ)))),_,(decide (((q12:Nat):Int)=0)),rfl,h,Le.r,hS⟩
 intro h30 h
 refine sn rfl rfl (sn rfl rfl (sn rfl rfl (wu rfl (k10 d9) (dt (q20 p0)) (wu rfl (k10 d9) (dt (q20 p1)) (sn rfl rfl (st (wnil (xl ?_))))))))
 exact ⟨_,_,rfl,(aK10 (aK4 (aO9 (aI aZ)))),_,false,rfl,h,Le.r,hS⟩
 rintro _ t w5 ⟨μ3,b29,rfl,h,le32,hS⟩
 unfold r1_named_j1 at h
 refine nrm (mK10 (mK4 (mO9 (mi mz)))) (xn ?_)
 refine zCb h ?_ ?_
 intro h33 h
 refine nz (st (nw (cret ?_)))
 refine (fun h=>br (xr (br (xr h)))) ?_
 obtain rfl:=oI h
 refine ret1 rfl d2 ?_
 replace hS:=hS.drop Rm.z
 exact ⟨_,rfl,(le22.t (le28.t le32)),hS⟩
 intro h33 h
 refine cskip ?_
 refine (fun h=>bn (xl h)) ?_
 exact ⟨n_1,_,_,rfl,(aK2 (aO3 (aK2 (aO10 (aO7 aZ))))),⟨_,(q12+wd p_1 q12),rfl,h,(le22.t (le28.t le32)),hS⟩,Nat.lt_succ_self _⟩
 refine po ?_
 replace h:=iF h23 h
 refine st (ny (ciff (et d8) (cexit ?_)))
 refine (fun h=>xe (xe (bh h))) ?_
 refine xn (nz (st (wl (su (u_lens underlying9 (et (k20 d4))) (dt (q20 p5)) ?_))))
 iterate 2 refine st ?_
 refine zWd 27 h ?_ ?_
 intro h34 h
 refine sy rfl (wy rfl (k20 d7) (su (u_lens underlying9 (et (k20 d8))) (dt (q20 p9)) (sy rfl ?_)))
 iterate 2 refine st ?_
 refine zWd 32 h ?_ ?_
 intro h35 h
 refine sy rfl ?_
 obtain ⟨r36,g37,h⟩:=bI h
 refine wy rfl (k30 d2) (s_callv isfn43 ef (e1 (et (k30 d3)) e0) (r1_res_w (hg.t le22) g37 hS) ?_)
 rintro _ w6 ⟨μ4,rfl,le38,hS⟩
 refine po (sy rfl ?_)
 iterate 2 refine st ?_
 refine nw (cret ?_)
 obtain rfl:=oI h
 refine ret1 rfl d2 ?_
 replace hS:=hS.drop Rm.z
 exact ⟨_,rfl,(le22.t le38),hS⟩
 intro h35 h
 refine sn rfl rfl (sn rfl rfl (sn rfl rfl ?_))
 iterate 2 refine st ?_
 refine nw (cret ?_)
 obtain rfl:=oI h
 refine ret1 rfl d2 ?_
 replace hS:=hS.drop Rm.z
 exact ⟨_,rfl,le22,hS⟩
 intro h34 h
 refine sn rfl rfl (sn rfl rfl (sn rfl rfl ?_))
 iterate 2 refine st ?_
 refine sn rfl rfl (sn rfl rfl (sn rfl rfl ?_))
 iterate 2 refine st ?_
 refine nw (cret ?_)
 obtain rfl:=oI h
 refine ret1 rfl d2 ?_
 replace hS:=hS.drop Rm.z
 exact ⟨_,rfl,le22,hS⟩
theorem r2_more_w (hg:Le Gm μ0) {n_2 p_2:Int} {r:Bool×Int}  (h:r2_more n_2 p_2=some r) (hS:Sq μ0 w0 w (.blk b1 58 [.int .i64 n_2]::rsF)):CallsV prog 25 [.pointer (some ⟨b1,0,none⟩),.int .i64 p_2] w (fun v w'=>∃ (μ':M) ,v=.bool r.1∧Le μ0 μ'∧Sq μ' w0 w' (.blk b1 58 [.int .i64 r.2]::rsF)):=by
 unfold r2_more at h
 refine enter func25 rfl (frm:=_::_::u2 (u2 (u5 (u10 [])))) rfl (nz (st (nx ?_)))
 iterate 3 refine st ?_
 refine ld ((hS.blk d0).cell d0) ?_
 obtain ⟨i3,g4,h⟩:=bI h
 refine wl (su (u_addc (et d8) ec g4) (dt p9) ?_)
 iterate 2 refine st ?_
 refine wl (s_store1 ti3 (et (k10 d1)) (et d9) rfl hS d0 p0 rfl p0 dn ?_)
 clear hS; intro w1 hS
 refine nx ?_
 iterate 3 refine st ?_
 refine ld ((hS.blk d0).cell d0) ?_
 iterate 2 refine st ?_
 refine zWd 17 h ?_ ?_
 intro h5 h
 refine sy rfl (sy rfl ?_)
 iterate 2 refine st ?_
 refine nw (cret ?_)
 obtain rfl:=oI h
 refine ret1 rfl d4 ?_
 exact ⟨_,rfl,Le.r,hS⟩
 intro h5 h
 refine sn rfl rfl (sn rfl rfl ?_)
 iterate 2 refine st ?_
 refine nw (cret ?_)
 obtain rfl:=oI h
 refine ret1 rfl d4 ?_
 exact ⟨_,rfl,Le.r,hS⟩
theorem r2_type_w (hg:Le Gm μ0) {p_1:TType} {r:Int}  (h:r2_type p_1=some r) (hS:Sq μ0 w0 w (rsF)):CallsV prog 27 [.agg ⟨[.int .i64 p_1.Kind,S p_1.Gen]⟩] w (fun v w'=>∃ (μ':M) ,v=.int .i64 r∧Le μ0 μ'∧Sq μ' w0 w' (rsF)):=by
 unfold r2_type at h
 refine enter func27 rfl (frm:=_::u2 (u2 (u5 (u10 [])))) rfl (nz ?_)
 refine wl (s_box (et d0) rfl hS ?_); clear hS; intro b1 w1 hb2 hS; refine po ?_
 refine st (ny (cseq ?_))
 refine ccutE (rg 3 7) (by decide) (fun m w=>∃ μx b3,m=(yK3 (yO7 3 (.i (.bool b3)::[])))∧r2_type_j1 p_1 b3=some r∧Le μ0 μx∧Sq μx w0 w (.blk b1 40 [.int .i64 p_1.Kind,S p_1.Gen]::rsF)) (by rintro _ _ ⟨_,_,rfl,_⟩; rfl) ?_ ?_
 refine creg (st (ld ((hS.blk d0).cell d0) ?_))
 iterate 2 refine st ?_
 refine zWd 6 h ?_ ?_
 intro h4 h
 refine sn rfl rfl (sn rfl rfl (sn rfl rfl (st (wnil (xl ?_)))))
 exact ⟨_,_,rfl,(aK3 (aO7 (aI aZ))),_,true,rfl,h,Le.r,hS⟩
 intro h4 h
 refine sy rfl (wy rfl d6 (s_load ti3 (et d7) ((hS.blk d0).cell d0) (dt p8) (sy rfl (st (wnil (xl ?_))))))
 exact ⟨_,_,rfl,(aK3 (aO7 (aI aZ))),_,(decide ((3:Int)<p_1.Kind)),rfl,h,Le.r,hS⟩
 rintro _ t w2 ⟨μ1,b3,rfl,h,le5,hS⟩
 unfold r2_type_j1 at h
 refine nrm (mK3 (mO7 (mi mz))) (xn ?_)
 refine zCb h ?_ ?_
 intro h6 h
 refine nz (st (nw (cret (xr ?_))))
 obtain rfl:=oI h
 refine ret1 rfl d2 ?_
 replace hS:=hS.drop Rm.z
 exact ⟨_,rfl,le5,hS⟩
 intro h6 h
 refine cskip (xn (cseq (cseq ?_)))
 refine ccutE (rg 11 8) (by decide) (fun m w=>∃ μx b7,m=(yK10 (yK1 (yO8 11 (.i (.bool b7)::[]))))∧r2_type_j2 b7=some r∧Le μ1 μx∧Sq μx w0 w (rsF)) (by rintro _ _ ⟨_,_,rfl,_⟩; rfl) ?_ ?_
 refine creg (st (ld ((hS.blk d0).cell d0) ?_))
 iterate 2 refine st ?_
 refine zWd 14 h ?_ ?_
 intro h8 h
 refine sy rfl (wy rfl (k10 d4) (s_load ti9 (et (k10 d5)) ((hS.blk d0).cell d1) (dt (q10 p6)) ?_))
 obtain ⟨r9,g10,h⟩:=bI h
 refine wy rfl (k10 d4) (s_callv isfn26 ef (e1 (et (k10 d6)) e0) (r1_named_w (hg.t le5) g10 hS) ?_)
 rintro _ w3 ⟨μ2,rfl,le11,hS⟩
 refine po (sy rfl (st (wnil (xl ?_))))
 replace hS:=hS.drop Rm.z
 exact ⟨_,_,rfl,(aK10 (aK1 (aO8 (aI aZ)))),_,(!r9),rfl,h,le11,hS⟩
 intro h8 h
 refine sn rfl rfl (sn rfl rfl (sn rfl rfl (sn rfl rfl (st (wnil (xl ?_))))))
 replace hS:=hS.drop Rm.z
 exact ⟨_,_,rfl,(aK10 (aK1 (aO8 (aI aZ)))),_,false,rfl,h,Le.r,hS⟩
 rintro _ t w4 ⟨μ3,b7,rfl,h,le12,hS⟩
 unfold r2_type_j2 at h
 refine nrm (mK10 (mK1 (mO8 (mi mz)))) (xn ?_)
 refine zCb h ?_ ?_
 intro h13 h
 refine nz (st (nw (cret (xr ?_))))
 obtain rfl:=oI h
 refine ret1 rfl d2 ?_
 exact ⟨_,rfl,(le5.t le12),hS⟩
 intro h13 h
 refine cskip (xn (nz (st (nw (cret ?_)))))
 obtain rfl:=oI h
 refine ret1 rfl d2 ?_
 exact ⟨_,rfl,(le5.t le12),hS⟩
theorem r2_kids_w (hg:Le Gm μ0) {p_1 r:Int}  (h:r2_kids p_1=some r) (hS:Sq μ0 w0 w (rsF)):CallsV prog 53 [.int .i64 p_1] w (fun v w'=>∃ (μ':M) ,v=.int .i64 r∧Le μ0 μ'∧Sq μ' w0 w' (rsF)):=by
 unfold r2_kids at h
 refine enter func53 rfl (frm:=_::u1 (u5 [])) rfl (nz (st (nx ?_)))
 refine wl (s_bsl underlying101 ti3 (Parts.s ec rfl (Parts.s ec rfl (Parts.s ec rfl (Parts.s ec rfl (Parts.s ec rfl (Parts.s ec rfl (Parts.s ec rfl (Parts.s ec rfl (Parts.s ec rfl (Parts.s ec rfl (Parts.s ec rfl (Parts.s ec rfl (Parts.s ec rfl (Parts.s ec rfl (Parts.s ec rfl (Parts.s ec rfl (Parts.s ec rfl (Parts.s ec rfl (Parts.s ec rfl (Parts.s ec rfl (Parts.s ec rfl (Parts.s ec rfl (Parts.s ec rfl (Parts.s ec rfl (Parts.s ec rfl Parts.z))))))))))))))))))))))))) rfl rfl hS ?_); clear hS; intro b1 w1 hb2 hS; refine po ?_
 refine st ?_
 obtain ⟨μ1,le4,m3,hS⟩:=Sep.frzBlk (l:=([0,0,0,0,1,1,2,2,2,2,2,2,2,2,2,2,2,2,2,(-1),0,1,(-1),2,1]:List Int)) hS (Rw.cons (α:=Int) (cs:=[.int .i64 0]) rfl (Rw.cons (α:=Int) (cs:=[.int .i64 0]) rfl (Rw.cons (α:=Int) (cs:=[.int .i64 0]) rfl (Rw.cons (α:=Int) (cs:=[.int .i64 0]) rfl (Rw.cons (α:=Int) (cs:=[.int .i64 1]) rfl (Rw.cons (α:=Int) (cs:=[.int .i64 1]) rfl (Rw.cons (α:=Int) (cs:=[.int .i64 2]) rfl (Rw.cons (α:=Int) (cs:=[.int .i64 2]) rfl (Rw.cons (α:=Int) (cs:=[.int .i64 2]) rfl (Rw.cons (α:=Int) (cs:=[.int .i64 2]) rfl (Rw.cons (α:=Int) (cs:=[.int .i64 2]) rfl (Rw.cons (α:=Int) (cs:=[.int .i64 2]) rfl (Rw.cons (α:=Int) (cs:=[.int .i64 2]) rfl (Rw.cons (α:=Int) (cs:=[.int .i64 2]) rfl (Rw.cons (α:=Int) (cs:=[.int .i64 2]) rfl (Rw.cons (α:=Int) (cs:=[.int .i64 2]) rfl (Rw.cons (α:=Int) (cs:=[.int .i64 2]) rfl (Rw.cons (α:=Int) (cs:=[.int .i64 2]) rfl (Rw.cons (α:=Int) (cs:=[.int .i64 2]) rfl (Rw.cons (α:=Int) (cs:=[.int .i64 (-1)]) rfl (Rw.cons (α:=Int) (cs:=[.int .i64 0]) rfl (Rw.cons (α:=Int) (cs:=[.int .i64 1]) rfl (Rw.cons (α:=Int) (cs:=[.int .i64 (-1)]) rfl (Rw.cons (α:=Int) (cs:=[.int .i64 2]) rfl (Rw.cons (α:=Int) (cs:=[.int .i64 1]) rfl Rw.nil))))))))))))))))))))))))) (Nat.le_of_ble_eq_true rfl)
 obtain ⟨x5,g6,h⟩:=bI h
 obtain ⟨b7,o8,cs9,e10,f11,m12⟩:=SlR.elem m3 g6
 obtain rfl:=m12
 refine wl (su (u_iax underlying101 ti3 (et d3) (et d4) e10) (dt p5) (ld ((f11 _ hS.a).one d0) (st (nw (cret ?_)))))
 obtain rfl:=oI h
 refine ret1 rfl d2 ?_
 exact ⟨_,rfl,le4,hS⟩
def r2_expr_S (q:Int→TExpr→Int→Option (Int×Int)):Prop:=∀ {μ0:M} {w0 w:World} {rsF:List Res} (hg:Le Gm μ0) {b1:Nat} {n_2:Int} {p_2:TExpr} {a3:Option Addr} {c4:Nat} {p_3:Int} {r:Int×Int} (m5:Sl μ0 a3 c4 p_2.Kids) (h:q n_2 p_2 p_3=some r) (hS:Sq μ0 w0 w (.blk b1 58 [.int .i64 n_2]::rsF)),CallsV prog 44 [.pointer (some ⟨b1,0,none⟩),.agg ⟨[.int .i64 p_2.Kind,.int .i64 p_2.N,S p_2.Name,.slice a3 p_2.Kids.length c4]⟩,.int .i64 p_3] w (fun v w'=>∃ (μ':M) ,v=.int .i64 r.1∧Le μ0 μ'∧Sq μ' w0 w' (.blk b1 58 [.int .i64 r.2]::rsF))
structure R2ESound (sf:R2E):Prop where
  r2_expr:r2_expr_S sf.r2_expr
theorem r2_expr_w {self:R2E} (IH:R2ESound self):r2_expr_S (r2_expr self):=by
 intro μ0 w0 w rsF hg b1 n_2 p_2 a3 c4 p_3 r m5 h hS
 unfold r2_expr at h
 refine enter func44 rfl (frm:=_::_::_::u1 (u5 (u50 (u50 [])))) rfl (nz ?_)
 refine wl (s_box (et d1) rfl hS ?_); clear hS; intro b6 w1 hb7 hS; refine po ?_
 refine st (ny (nz ?_))
 iterate 2 refine st ?_
 obtain ⟨r8,g9,h⟩:=bI h
 replace hS:=hS.bg Y1
 refine ca (r2_more_w hg g9 hS) ?_
 rintro _ w2 ⟨μ1,rfl,le10,hS⟩
 refine po (st (nw ?_))
 refine zCe h ?_ ?_
 intro h11 h
 refine nz (st (nw (cret (xr ?_))))
 obtain rfl:=oI h
 refine ret1 rfl d6 ?_
 replace hS:=hS.drop (Rm.s Rm.z)
 exact ⟨_,rfl,le10,hS⟩
 intro h11 h
 refine cskip (xn (cseq (cseq ?_)))
 refine ccutE (rg 15 7) (by decide) (fun m w=>∃ μx b12,m=(yK10 (yK5 (yO7 15 (.i (.bool b12)::[]))))∧r2_expr_j1 self p_2 p_3 r8 b12=some r∧Le μ1 μx∧Sq μx w0 w (.blk b1 58 [.int .i64 r8.2]::.blk b6 67 [.int .i64 p_2.Kind,.int .i64 p_2.N,S p_2.Name,.slice a3 p_2.Kids.length c4]::rsF)) (by rintro _ _ ⟨_,_,rfl,_⟩; rfl) ?_ ?_
 refine creg (st (ld ((hS.blk d1).cell d0) ?_))
 iterate 2 refine st ?_
 refine zWd 18 h ?_ ?_
 intro h13 h
 refine sn rfl rfl (sn rfl rfl (sn rfl rfl (st (wnil (xl ?_)))))
 exact ⟨_,_,rfl,(aK10 (aK5 (aO7 (aI aZ)))),_,true,rfl,h,Le.r,hS⟩
 intro h13 h
 refine sy rfl (wy rfl (k10 d8) (s_load ti3 (et (k10 d9)) ((hS.blk d1).cell d0) (dt (q20 p0)) (sy rfl (st (wnil (xl ?_))))))
 exact ⟨_,_,rfl,(aK10 (aK5 (aO7 (aI aZ)))),_,(decide ((24:Int)<p_2.Kind)),rfl,h,Le.r,hS⟩
 rintro _ t w3 ⟨μ2,b12,rfl,h,le14,hS⟩
 unfold r2_expr_j1 at h
 refine nrm (mK10 (mK5 (mO7 (mi mz)))) (xn ?_)
 refine zCb h ?_ ?_
 intro h15 h
 refine nz (st (nw (cret (xr ?_))))
 obtain rfl:=oI h
 refine ret1 rfl d6 ?_
 replace hS:=hS.drop (Rm.s Rm.z)
 exact ⟨_,rfl,(le10.t le14),hS⟩
 intro h15 h
 refine cskip (xn (cseq (cseq ?_)))
 refine ccutE (rg 23 27) (by decide +kernel) (fun m w=>∃ μx b16,m=(yK20 (yK3 (yO20 23 (yO7 43 (.i (.bool b16)::[])))))∧r2_expr_j2 self p_2 p_3 r8 b16=some r∧Le μ2 μx∧Sq μx w0 w (.blk b1 58 [.int .i64 r8.2]::.blk b6 67 [.int .i64 p_2.Kind,.int .i64 p_2.N,S p_2.Name,.slice a3 p_2.Kids.length c4]::rsF)) (by rintro _ _ ⟨_,_,rfl,_⟩; rfl) ?_ ?_
 refine creg (st (ld ((hS.blk d1).cell d0) ?_))
 iterate 2 refine st ?_
 refine zWd 26 h ?_ ?_
 intro h17 h
 refine sy rfl (wy rfl (k20 d6) (s_load ti2 (et (k20 d7)) ((hS.blk d1).cell d1) (dt (q20 p8)) (sy rfl (sy rfl ?_))))
 refine zWd 30 h ?_ ?_
 intro h18 h
 refine sn rfl rfl (sn rfl rfl (sn rfl rfl (sy rfl ?_)))
 iterate 2 refine st ?_
 refine sn rfl rfl (sn rfl rfl (sn rfl rfl (sn rfl rfl (wu rfl (k40 d0) (dt (q40 p1)) (wu rfl (k40 d0) (dt (q40 p2)) (wu rfl (k40 d0) (dt (q40 p3)) (wu rfl (k40 d0) (dt (q40 p4)) (wu rfl (k40 d4) (dt (q40 p5)) (wu rfl (k40 d4) (dt (q40 p6)) (wu rfl (k40 d4) (dt (q40 p7)) (wu rfl (k40 d0) (dt (q40 p8)) (sn rfl rfl (st (wnil (xl ?_)))))))))))))))
 exact ⟨_,_,rfl,(aK20 (aK3 (aO20 (aO7 (aI aZ))))),_,true,rfl,h,Le.r,hS⟩
 intro h18 h
 refine sy rfl (wy rfl (k30 d0) (s_load ti2 (et (k30 d1)) ((hS.blk d1).cell d1) (dt (q30 p2)) (sy rfl (sy rfl ?_))))
 iterate 2 refine st ?_
 refine zWd 36 h ?_ ?_
 intro h19 h
 refine sn rfl rfl (sn rfl rfl (sn rfl rfl (sn rfl rfl (wu rfl (k40 d0) (dt (q40 p1)) (wu rfl (k40 d0) (dt (q40 p2)) (wu rfl (k40 d0) (dt (q40 p3)) (wu rfl (k40 d0) (dt (q40 p4)) (wu rfl (k40 d4) (dt (q40 p5)) (wu rfl (k40 d4) (dt (q40 p6)) (wu rfl (k40 d4) (dt (q40 p7)) (wu rfl (k40 d0) (dt (q40 p8)) (sn rfl rfl (st (wnil (xl ?_)))))))))))))))
 exact ⟨_,_,rfl,(aK20 (aK3 (aO20 (aO7 (aI aZ))))),_,true,rfl,h,Le.r,hS⟩
 intro h19 h
 refine sy rfl (wy rfl (k30 d6) (s_load ti3 (et (k30 d7)) ((hS.blk d1).cell d0) (dt (q30 p8)) (sy rfl (sy rfl ?_))))
 refine zWd 40 h ?_ ?_
 intro h20 h
 refine sy rfl (wy rfl (k40 d0) (s_load ti2 (et (k40 d1)) ((hS.blk d1).cell d1) (dt (q40 p2)) (sy rfl (sy rfl ?_))))
 refine zWd 44 h ?_ ?_
 intro h21 h
 refine sn rfl rfl (sn rfl rfl (sn rfl rfl (sy rfl (sy rfl (st (wnil (xl ?_)))))))
 exact ⟨_,_,rfl,(aK20 (aK3 (aO20 (aO7 (aI aZ))))),_,true,rfl,h,Le.r,hS⟩
 intro h21 h
 refine sy rfl (wy rfl (k40 d4) (s_load ti2 (et (k40 d5)) ((hS.blk d1).cell d1) (dt (q40 p6)) (sy rfl (sy rfl (sy rfl (st (wnil (xl ?_))))))))
 exact ⟨_,_,rfl,(aK20 (aK3 (aO20 (aO7 (aI aZ))))),_,(decide ((1:Int)<p_2.N)),rfl,h,Le.r,hS⟩
 intro h20 h
 refine sn rfl rfl (sn rfl rfl (sn rfl rfl (sn rfl rfl (wu rfl (k40 d4) (dt (q40 p5)) (wu rfl (k40 d4) (dt (q40 p6)) (wu rfl (k40 d4) (dt (q40 p7)) (sn rfl rfl (sy rfl (st (wnil (xl ?_)))))))))))
 exact ⟨_,_,rfl,(aK20 (aK3 (aO20 (aO7 (aI aZ))))),_,false,rfl,h,Le.r,hS⟩
 intro h17 h
 refine sn rfl rfl (sn rfl rfl (sn rfl rfl (sn rfl rfl (wu rfl (k30 d0) (dt (q30 p1)) (wu rfl (k30 d0) (dt (q30 p2)) (wu rfl (k30 d0) (dt (q30 p3)) (sn rfl rfl ?_)))))))
 iterate 2 refine st ?_
 refine sy rfl (wy rfl (k30 d6) (s_load ti3 (et (k30 d7)) ((hS.blk d1).cell d0) (dt (q30 p8)) (sy rfl (sy rfl ?_))))
 refine zWd 40 h ?_ ?_
 intro h22 h
 refine sy rfl (wy rfl (k40 d0) (s_load ti2 (et (k40 d1)) ((hS.blk d1).cell d1) (dt (q40 p2)) (sy rfl (sy rfl ?_))))
 refine zWd 44 h ?_ ?_
 intro h23 h
 refine sn rfl rfl (sn rfl rfl (sn rfl rfl (sy rfl (sy rfl (st (wnil (xl ?_)))))))
 exact ⟨_,_,rfl,(aK20 (aK3 (aO20 (aO7 (aI aZ))))),_,true,rfl,h,Le.r,hS⟩
 intro h23 h
 refine sy rfl (wy rfl (k40 d4) (s_load ti2 (et (k40 d5)) ((hS.blk d1).cell d1) (dt (q40 p6)) (sy rfl (sy rfl (sy rfl (st (wnil (xl ?_))))))))
 exact ⟨_,_,rfl,(aK20 (aK3 (aO20 (aO7 (aI aZ))))),_,(decide ((1:Int)<p_2.N)),rfl,h,Le.r,hS⟩
 intro h22 h
 refine sn rfl rfl (sn rfl rfl (sn rfl rfl (sn rfl rfl (wu rfl (k40 d4) (dt (q40 p5)) (wu rfl (k40 d4) (dt (q40 p6)) (wu rfl (k40 d4) (dt (q40 p7)) (sn rfl rfl (sy rfl (st (wnil (xl ?_)))))))))))
 exact ⟨_,_,rfl,(aK20 (aK3 (aO20 (aO7 (aI aZ))))),_,false,rfl,h,Le.r,hS⟩
 rintro _ t w4 ⟨μ3,b16,rfl,h,le24,hS⟩
 unfold r2_expr_j2 at h
 refine nrm (mK20 (mK3 (mO20 (mO7 (mi mz))))) (xn ?_)
 refine zCb h ?_ ?_
 intro h25 h
 refine nz (st (nw (cret (xr ?_))))
 obtain rfl:=oI h
 refine ret1 rfl d6 ?_
 replace hS:=hS.drop (Rm.s Rm.z)
 exact ⟨_,rfl,(le10.t (le14.t le24)),hS⟩
 intro h25 h
 refine cskip (xn (cseq (cseq ?_)))
 refine ccutE (rg 51 23) (by decide +kernel) (fun m w=>∃ μx b26,m=(yK50 (yK1 (yO20 51 (yO3 71 (.i (.bool b26)::[])))))∧r2_expr_j3 self p_2 p_3 r8 b26=some r∧Le μ3 μx∧Sq μx w0 w (.blk b1 58 [.int .i64 r8.2]::.blk b6 67 [.int .i64 p_2.Kind,.int .i64 p_2.N,S p_2.Name,.slice a3 p_2.Kids.length c4]::rsF)) (by rintro _ _ ⟨_,_,rfl,_⟩; rfl) ?_ ?_
 refine creg (st (ld ((hS.blk d1).cell d0) ?_))
 iterate 2 refine st ?_
 refine zWd 54 h ?_ ?_
 intro h27 h
 refine sn rfl rfl (sn rfl rfl (sn rfl rfl ?_))
 iterate 2 refine st ?_
 refine sn rfl rfl (sn rfl rfl (sn rfl rfl ?_))
 iterate 2 refine st ?_
 refine sn rfl rfl (sn rfl rfl (sn rfl rfl ?_))
 iterate 2 refine st ?_
 refine sy rfl (wy rfl (k60 d9) (s_load ti9 (et (k70 d0)) ((hS.blk d1).cell d2) (dt (q70 p1)) ?_))
 obtain ⟨r28,g29,h⟩:=bI h
 refine wy rfl (k60 d9) (s_callv isfn26 ef (e1 (et (k70 d1)) e0) (r1_named_w (hg.t (le10.t (le14.t le24))) g29 hS) ?_)
 rintro _ w5 ⟨μ4,rfl,le30,hS⟩
 refine po (sy rfl (st (wnil (xl ?_))))
 exact ⟨_,_,rfl,(aK50 (aK1 (aO20 (aO3 (aI aZ))))),_,(!r28),rfl,h,le30,hS⟩
 intro h27 h
 refine sy rfl (wy rfl (k50 d4) (s_load ti3 (et (k50 d5)) ((hS.blk d1).cell d0) (dt (q50 p6)) (sy rfl ?_)))
 iterate 2 refine st ?_
 refine zWd 59 h ?_ ?_
 intro h31 h
 refine sn rfl rfl (sn rfl rfl (sn rfl rfl ?_))
 iterate 2 refine st ?_
 refine sn rfl rfl (sn rfl rfl (sn rfl rfl ?_))
 iterate 2 refine st ?_
 refine sy rfl (wy rfl (k60 d9) (s_load ti9 (et (k70 d0)) ((hS.blk d1).cell d2) (dt (q70 p1)) ?_))
 obtain ⟨r32,g33,h⟩:=bI h
 refine wy rfl (k60 d9) (s_callv isfn26 ef (e1 (et (k70 d1)) e0) (r1_named_w (hg.t (le10.t (le14.t le24))) g33 hS) ?_)
 rintro _ w6 ⟨μ5,rfl,le34,hS⟩
 refine po (sy rfl (st (wnil (xl ?_))))
 exact ⟨_,_,rfl,(aK50 (aK1 (aO20 (aO3 (aI aZ))))),_,(!r32),rfl,h,le34,hS⟩
 intro h31 h
 refine sy rfl (wy rfl (k50 d9) (s_load ti3 (et (k60 d0)) ((hS.blk d1).cell d0) (dt (q60 p1)) (sy rfl ?_)))
 iterate 2 refine st ?_
 refine zWd 64 h ?_ ?_
 intro h35 h
 refine sn rfl rfl (sn rfl rfl (sn rfl rfl ?_))
 iterate 2 refine st ?_
 refine sy rfl (wy rfl (k60 d9) (s_load ti9 (et (k70 d0)) ((hS.blk d1).cell d2) (dt (q70 p1)) ?_))
 obtain ⟨r36,g37,h⟩:=bI h
 refine wy rfl (k60 d9) (s_callv isfn26 ef (e1 (et (k70 d1)) e0) (r1_named_w (hg.t (le10.t (le14.t le24))) g37 hS) ?_)
 rintro _ w7 ⟨μ6,rfl,le38,hS⟩
 refine po (sy rfl (st (wnil (xl ?_))))
 exact ⟨_,_,rfl,(aK50 (aK1 (aO20 (aO3 (aI aZ))))),_,(!r36),rfl,h,le38,hS⟩
 intro h35 h
 refine sy rfl (wy rfl (k60 d4) (s_load ti3 (et (k60 d5)) ((hS.blk d1).cell d0) (dt (q60 p6)) (sy rfl ?_)))
 iterate 2 refine st ?_
 refine zWd 69 h ?_ ?_
 intro h39 h
 refine sy rfl (wy rfl (k60 d9) (s_load ti9 (et (k70 d0)) ((hS.blk d1).cell d2) (dt (q70 p1)) ?_))
 obtain ⟨r40,g41,h⟩:=bI h
 refine wy rfl (k60 d9) (s_callv isfn26 ef (e1 (et (k70 d1)) e0) (r1_named_w (hg.t (le10.t (le14.t le24))) g41 hS) ?_)
 rintro _ w8 ⟨μ7,rfl,le42,hS⟩
 refine po (sy rfl (st (wnil (xl ?_))))
 exact ⟨_,_,rfl,(aK50 (aK1 (aO20 (aO3 (aI aZ))))),_,(!r40),rfl,h,le42,hS⟩
 intro h39 h
 refine sn rfl rfl (sn rfl rfl (sn rfl rfl (sn rfl rfl (st (wnil (xl ?_))))))
 exact ⟨_,_,rfl,(aK50 (aK1 (aO20 (aO3 (aI aZ))))),_,false,rfl,h,Le.r,hS⟩
 rintro _ t w9 ⟨μ8,b26,rfl,h,le43,hS⟩
 unfold r2_expr_j3 at h
 refine nrm (mK50 (mK1 (mO20 (mO3 (mi mz))))) (xn ?_)
 refine zCb h ?_ ?_
 intro h44 h
 refine nz (st (nw (cret (xr ?_))))
 obtain rfl:=oI h
 refine ret1 rfl d6 ?_
 replace hS:=hS.drop (Rm.s Rm.z)
 exact ⟨_,rfl,(le10.t (le14.t (le24.t le43))),hS⟩
 intro h44 h
 refine cskip (xn (cseq (nz (st (ld ((hS.blk d1).cell d0) ?_)))))
 obtain ⟨r45,g46,h⟩:=bI h
 refine ca (r2_kids_w (hg.t (le10.t (le14.t (le24.t le43)))) g46 hS) ?_
 rintro _ w10 ⟨μ9,rfl,le47,hS⟩
 refine po (st (ny ?_))
 refine ccutE (rg 78 14) (by decide) (fun m w=>∃ μx b48,m=(yK50 (yK20 (yK8 (yO10 78 (yO4 88 (.i (.bool b48)::[]))))))∧r2_expr_j4 self p_2 p_3 r8 b48=some r∧Le μ9 μx∧Sq μx w0 w (.blk b1 58 [.int .i64 r8.2]::.blk b6 67 [.int .i64 p_2.Kind,.int .i64 p_2.N,S p_2.Name,.slice a3 p_2.Kids.length c4]::rsF)) (by rintro _ _ ⟨_,_,rfl,_⟩; rfl) ?_ ?_
 refine creg ?_
 iterate 3 refine st ?_
 refine zWd 80 h ?_ ?_
 intro h49 h
 refine sy rfl (wy rfl (k80 d0) (s_load ti65 (et (k80 d1)) ((hS.blk d1).cell d3) (dt (q80 p2)) (wy rfl (k80 d0) (su (u_lensl underlying65 (et (k80 d2))) (dt (q80 p3)) (sy rfl (sy rfl ?_))))))
 iterate 2 refine st ?_
 refine zWd 87 h ?_ ?_
 intro h50 h
 refine sn rfl rfl (sn rfl rfl (sn rfl rfl (sn rfl rfl (st (wnil (xl ?_))))))
 exact ⟨_,_,rfl,(aK50 (aK20 (aK8 (aO10 (aO4 (aI aZ)))))),_,true,rfl,h,Le.r,hS⟩
 intro h50 h
 refine sy rfl (wy rfl (k80 d7) (s_load ti65 (et (k80 d8)) ((hS.blk d1).cell d3) (dt (q80 p9)) (wy rfl (k80 d7) (su (u_lensl underlying65 (et (k80 d9))) (dt (q90 p0)) (sy rfl (st (wnil (xl ?_))))))))
 exact ⟨_,_,rfl,(aK50 (aK20 (aK8 (aO10 (aO4 (aI aZ)))))),_,(decide ((6:Int)<(p_2.Kids.length:Int))),rfl,h,Le.r,hS⟩
 intro h49 h
 refine sn rfl rfl (sn rfl rfl (sn rfl rfl (sn rfl rfl (sn rfl rfl ?_))))
 iterate 2 refine st ?_
 refine sy rfl (wy rfl (k80 d7) (s_load ti65 (et (k80 d8)) ((hS.blk d1).cell d3) (dt (q80 p9)) (wy rfl (k80 d7) (su (u_lensl underlying65 (et (k80 d9))) (dt (q90 p0)) (sy rfl (st (wnil (xl ?_))))))))
 exact ⟨_,_,rfl,(aK50 (aK20 (aK8 (aO10 (aO4 (aI aZ)))))),_,(decide ((6:Int)<(p_2.Kids.length:Int))),rfl,h,Le.r,hS⟩
 rintro _ t w11 ⟨μ10,b48,rfl,h,le51,hS⟩
 unfold r2_expr_j4 at h
 refine nrm (mK50 (mK20 (mK8 (mO10 (mO4 (mi mz)))))) (xn ?_)
 refine zCb h ?_ ?_
 intro h52 h
 refine nz (st (nw (cret (xr ?_))))
 obtain rfl:=oI h
 refine ret1 rfl d6 ?_
 replace hS:=hS.drop (Rm.s Rm.z)
 exact ⟨_,rfl,(le10.t (le14.t (le24.t (le43.t (le47.t le51))))),hS⟩
 intro h52 h
 refine cskip (xn (cseq (nz (st (ld ((hS.blk d1).cell d3) (wl (su (u_lensl underlying65 (et (k90 d4))) (dt (q90 p5)) (st (nw (cblock ?_))))))))))
 replace hS:=hS.drop (Rm.s Rm.z)
 refine cloopE ([6]++rg 9 2++rg 97 12) (by decide) (fun n m w=>∃ μx i73 i74,m=(yK6 (yO1 6 (yK2 (yO2 9 (yK50 (yK20 (yK10 (yK5 (.i (.int .i64 i73)::(yO10 97 (yO2 107 [])))))))))))∧r2_expr_l1 self p_2 p_3 n i73 i74=some r∧Le μ10 μx∧Sq μx w0 w (.blk b1 58 [.int .i64 i74]::rsF)) (by rintro _ _ _ ⟨_,_,_,rfl,_⟩; rfl) _ _ (aK6 (aO1 (aK2 (aO2 (aK50 (aK20 (aK10 (aK5 (aI (aO10 (aO2 aZ))))))))))) ⟨_,0,r8.2,rfl,h,Le.r,hS⟩ ?_
 rintro n_1 _ t w12 ⟨μ11,i73,i74,rfl,h,le95,hS⟩
 rcases n_1 with _|n_1
 cases h
 unfold r2_expr_l1 at h
 refine cnrm (mK6 (mO1 (mK2 (mO2 (mK50 (mK20 (mK10 (mK5 (mi (mO10 (mO2 mz))))))))))) (nz (st (ny ?_)))
 refine zCd h ?_ ?_
 intro h96 h
 refine cskip (xn (cseq (cblock (nz ?_))))
 obtain ⟨x97,g98,h⟩:=bI h
 obtain ⟨b99,o100,cs101,e102,f103,m104⟩:=SlR.elem (m5.up (le10.t (le14.t (le24.t (le43.t (le47.t (le51.t le95))))))) g98
 obtain ⟨a105,c106,rfl,m107⟩:=TExpr.o m104
 refine wl (su (u_iax underlying65 ti67 (et (k90 d4)) (et (k90 d6)) e102) (dt (q90 p8)) (lds (f103 _ hS.a) rfl ?_))
 refine wl (s_alloc ti67 hS ?_); clear hS; intro b108 w13 hb109 hS; refine po ?_
 refine wl (s_storeA ti67 (et d9) (et (k90 d9)) rfl rfl hS d0 rfl p0 dn ?_)
 clear hS; intro w14 hS
 refine nx (st (lds (hS.blk d0).cells rfl (st ?_)))
 obtain ⟨i110,g111,h⟩:=bI h
 refine wl (su (u_addc (et (k100 d2)) ec g111) (dt (q100 p3)) ?_)
 obtain ⟨r112,g113,h⟩:=bI h
 replace hS:=hS.bg Y1
 refine ca (IH.r2_expr (hg.t (le10.t (le14.t (le24.t (le43.t (le47.t (le51.t le95))))))) m107 g113 hS) ?_
 rintro _ w15 ⟨μ12,rfl,le114,hS⟩
 refine po (st (nx ?_))
 iterate 2 refine st ?_
 refine nw ?_
 refine zCd h ?_ ?_
 intro h115 h
 refine nz ?_
 iterate 2 refine st ?_
 refine nw (cret ?_)
 refine (fun h=>br (xr (xr (br (xr h))))) ?_
 obtain rfl:=oI h
 refine ret1 rfl d6 ?_
 replace hS:=hS.drop (Rm.s Rm.z)
 exact ⟨_,rfl,(le10.t (le14.t (le24.t (le43.t (le47.t (le51.t (le95.t le114))))))),hS⟩
 intro h115 h
 refine cskip ?_
 refine (fun h=>bn (xn h)) ?_
 refine creg ?_
 obtain ⟨i116,g117,h⟩:=bI h
 refine wl (su (u_addc (et (k90 d6)) ec g117) (dt (q100 p8)) (st (wnil (xl ?_))))
 replace hS:=hS.drop (Rm.s Rm.z)
 exact ⟨n_1,_,_,rfl,(aK6 (aO1 (aK2 (aO2 (aK50 (aK20 (aK10 (aK5 (aI (aO10 (aO2 aZ))))))))))),⟨_,i116,r112.2,rfl,h,(le95.t le114),hS⟩,Nat.lt_succ_self _⟩
 intro h96 h
 refine cexit ?_
 refine (fun h=>xe (xe (bh h))) ?_
 refine xn (nz (st (nw (cret ?_))))
 obtain rfl:=oI h
 refine ret1 rfl d6 ?_
 exact ⟨_,rfl,(le10.t (le14.t (le24.t (le43.t (le47.t (le51.t le95)))))),hS⟩
theorem R2E_sound:∀ n,R2ESound (R2E_run n)
  | 0=>⟨(by intro; intros; rename_i h _; cases h)⟩
  | n+1=>⟨r2_expr_w (R2E_sound n)⟩
def r2_stats_S (q:Int→(List TStat)→Int→Option (Int×Int)):Prop:=∀ {μ0:M} {w0 w:World} {rsF:List Res} (hg:Le Gm μ0) {b1:Nat} {n_2:Int} {p_2:List TStat} {a3:Option Addr} {c4:Nat} {p_3:Int} {r:Int×Int} (m5:Sl μ0 a3 c4 p_2) (h:q n_2 p_2 p_3=some r) (hS:Sq μ0 w0 w (.blk b1 58 [.int .i64 n_2]::rsF)),CallsV prog 28 [.pointer (some ⟨b1,0,none⟩),.slice a3 p_2.length c4,.int .i64 p_3] w (fun v w'=>∃ (μ':M) ,v=.int .i64 r.1∧Le μ0 μ'∧Sq μ' w0 w' (.blk b1 58 [.int .i64 r.2]::rsF))
structure R2SSound (sf:R2S):Prop where
  r2_stats:r2_stats_S sf.r2_stats
theorem r2_stats_w {fu:Nat} {self:R2S} (IH:R2SSound self):r2_stats_S (r2_stats fu self):=by
 intro μ0 w0 w rsF hg b1 n_2 p_2 a3 c4 p_3 r m5 h hS
 unfold r2_stats at h
 refine enter func28 rfl (frm:=_::_::_::u1 (u20 (u20 (u50 [])))) rfl (nz (st (ny (nz (st (wl (su (u_lensl underlying42 (et (k10 d2))) (dt (q10 p3)) (st (nw ?_)))))))))
 refine zCd h ?_ ?_
 intro h6 h
 refine nz (st (nw (cret (xr ?_))))
 obtain rfl:=oI h
 refine ret1 rfl d6 ?_
 exact ⟨_,rfl,Le.r,hS⟩
 intro h6 h
 refine cskip (xn (cseq (nz (st (wl (su (u_lensl underlying42 (et (k10 d5))) (dt (q10 p6)) (st (nw (cblock ?_)))))))))
 refine cloopE ([6]++rg 8 4++rg 18 76) (by decide +kernel) (fun n m w=>∃ μx i65 i66,m=(yK6 (yO1 6 (yK1 (yO4 8 (yK5 (.i (.int .i64 i65)::(yO50 18 (yO20 68 (yO6 88 [])))))))))∧r2_stats_l1 fu self p_2 p_3 n i65 i66=some r∧Le μ0 μx∧Sq μx w0 w (.blk b1 58 [.int .i64 i66]::rsF)) (by rintro _ _ _ ⟨_,_,_,rfl,_⟩; rfl) _ _ (aK6 (aO1 (aK1 (aO4 (aK5 (aI (aO50 (aO20 (aO6 aZ))))))))) ⟨_,0,n_2,rfl,h,Le.r,hS⟩ ?_
 rintro n_1 _ t w1 ⟨μ1,i65,i66,rfl,h,le125,hS⟩
 rcases n_1 with _|n_1
 cases h
 unfold r2_stats_l1 at h
 refine cnrm (mK6 (mO1 (mK1 (mO4 (mK5 (mi (mO50 (mO20 (mO6 mz))))))))) (nz (st (ny ?_)))
 refine zCd h ?_ ?_
 intro h126 h
 refine cskip (xn (cseq (cblock (nz ?_))))
 obtain ⟨x127,g128,h⟩:=bI h
 obtain ⟨b129,o130,cs131,e132,f133,m134⟩:=SlR.elem (m5.up le125) g128
 obtain ⟨a135,c136,a138,c139,a141,c142,rfl,m137,m140,m143⟩:=TStat.o m134
 refine wl (su (u_iax underlying42 ti69 (et (k10 d5)) (et (k10 d7)) e132) (dt (q10 p9)) (lds (f133 _ hS.a) rfl ?_))
 refine wl (s_alloc ti69 hS ?_); clear hS; intro b144 w2 hb145 hS; refine po ?_
 refine wl (s_storeA ti69 (et d8) (et (k20 d0)) rfl rfl hS d0 rfl p0 dn ?_)
 clear hS; intro w3 hS
 refine ny (nz ?_)
 iterate 2 refine st ?_
 obtain ⟨r146,g147,h⟩:=bI h
 replace hS:=hS.bg Y1
 refine ca (r2_more_w (hg.t le125) g147 hS) ?_
 rintro _ w4 ⟨μ2,rfl,le148,hS⟩
 refine po (st (nw ?_))
 refine zCe h ?_ ?_
 intro h149 h
 refine nz (st (nw (cret ?_)))
 refine (fun h=>xr (br (xr (xr (br (xr h)))))) ?_
 obtain rfl:=oI h
 refine ret1 rfl d6 ?_
 replace hS:=hS.drop (Rm.s Rm.z)
 exact ⟨_,rfl,(le125.t le148),hS⟩
 intro h149 h
 refine cskip (xn (cseq (cseq ?_)))
 refine ccutE (rg 25 7) (by decide) (fun m w=>∃ μx b150,m=(yK20 (yK5 (yO7 25 (.i (.bool b150)::[]))))∧r2_stats_j1 fu self p_3 i65 x127 r146 (r2_stats_l1 fu self p_2 p_3 n_1) b150=some r∧Le μ2 μx∧Sq μx w0 w (.blk b1 58 [.int .i64 r146.2]::.blk b144 69 [.int .i64 x127.Kind,S x127.Name,.int .i64 x127.X.Kind,.int .i64 x127.X.N,S x127.X.Name,.slice a135 x127.X.Kids.length c136,.slice a138 x127.Body.length c139,.slice a141 x127.Else.length c142]::rsF)) (by rintro _ _ ⟨_,_,rfl,_⟩; rfl) ?_ ?_
 refine creg (st (ld ((hS.blk d1).cell d0) ?_))
 iterate 2 refine st ?_
 refine zWd 28 h ?_ ?_
 intro h151 h
 refine sn rfl rfl (sn rfl rfl (sn rfl rfl (st (wnil (xl ?_)))))
 exact ⟨_,_,rfl,(aK20 (aK5 (aO7 (aI aZ)))),_,true,rfl,h,Le.r,hS⟩
 intro h151 h
 refine sy rfl (wy rfl (k20 d8) (s_load ti3 (et (k20 d9)) ((hS.blk d1).cell d0) (dt (q30 p0)) (sy rfl (st (wnil (xl ?_))))))
 exact ⟨_,_,rfl,(aK20 (aK5 (aO7 (aI aZ)))),_,(decide ((9:Int)<x127.Kind)),rfl,h,Le.r,hS⟩
 rintro _ t w5 ⟨μ3,b150,rfl,h,le152,hS⟩
 unfold r2_stats_j1 at h
 refine nrm (mK20 (mK5 (mO7 (mi mz)))) (xn ?_)
 refine zCb h ?_ ?_
 intro h153 h
 refine nz (st (nw (cret ?_)))
 refine (fun h=>xr (br (xr (xr (br (xr h)))))) ?_
 obtain rfl:=oI h
 refine ret1 rfl d6 ?_
 replace hS:=hS.drop (Rm.s Rm.z)
 exact ⟨_,rfl,(le125.t (le148.t le152)),hS⟩
 intro h153 h
 refine cskip (xn (cseq (cseq ?_)))
 refine ccutE (rg 33 18) (by decide) (fun m w=>∃ μx b154,m=(yK20 (yK10 (yK3 (yO10 33 (yO8 43 (.i (.bool b154)::[]))))))∧r2_stats_j2 fu self p_3 i65 x127 r146 (r2_stats_l1 fu self p_2 p_3 n_1) b154=some r∧Le μ3 μx∧Sq μx w0 w (.blk b1 58 [.int .i64 r146.2]::.blk b144 69 [.int .i64 x127.Kind,S x127.Name,.int .i64 x127.X.Kind,.int .i64 x127.X.N,S x127.X.Name,.slice a135 x127.X.Kids.length c136,.slice a138 x127.Body.length c139,.slice a141 x127.Else.length c142]::rsF)) (by rintro _ _ ⟨_,_,rfl,_⟩; rfl) ?_ ?_
 refine creg (st (ld ((hS.blk d1).cell d0) ?_))
 iterate 2 refine st ?_
 refine zWd 36 h ?_ ?_
 intro h155 h
 refine sn rfl rfl (sn rfl rfl (sn rfl rfl ?_))
 iterate 2 refine st ?_
 refine sn rfl rfl (sn rfl rfl (sn rfl rfl ?_))
 iterate 2 refine st ?_
 refine sy rfl (wy rfl (k40 d6) (s_load ti9 (et (k40 d7)) ((hS.blk d1).cell d1) (dt (q40 p8)) ?_))
 obtain ⟨r156,g157,h⟩:=bI h
 refine wy rfl (k40 d6) (s_callv isfn26 ef (e1 (et (k40 d8)) e0) (r1_named_w (hg.t (le125.t (le148.t le152))) g157 hS) ?_)
 rintro _ w6 ⟨μ4,rfl,le158,hS⟩
 refine po (sy rfl (st (wnil (xl ?_))))
 exact ⟨_,_,rfl,(aK20 (aK10 (aK3 (aO10 (aO8 (aI aZ)))))),_,(!r156),rfl,h,le158,hS⟩
 intro h155 h
 refine sy rfl (wy rfl (k30 d6) (s_load ti3 (et (k30 d7)) ((hS.blk d1).cell d0) (dt (q30 p8)) (sy rfl ?_)))
 iterate 2 refine st ?_
 refine zWd 41 h ?_ ?_
 intro h159 h
 refine sn rfl rfl (sn rfl rfl (sn rfl rfl ?_))
 iterate 2 refine st ?_
 refine sy rfl (wy rfl (k40 d6) (s_load ti9 (et (k40 d7)) ((hS.blk d1).cell d1) (dt (q40 p8)) ?_))
 obtain ⟨r160,g161,h⟩:=bI h
 refine wy rfl (k40 d6) (s_callv isfn26 ef (e1 (et (k40 d8)) e0) (r1_named_w (hg.t (le125.t (le148.t le152))) g161 hS) ?_)
 rintro _ w7 ⟨μ5,rfl,le162,hS⟩
 refine po (sy rfl (st (wnil (xl ?_))))
 exact ⟨_,_,rfl,(aK20 (aK10 (aK3 (aO10 (aO8 (aI aZ)))))),_,(!r160),rfl,h,le162,hS⟩
 intro h159 h
 refine sy rfl (wy rfl (k40 d1) (s_load ti3 (et (k40 d2)) ((hS.blk d1).cell d0) (dt (q40 p3)) (sy rfl ?_)))
 iterate 2 refine st ?_
 refine zWd 46 h ?_ ?_
 intro h163 h
 refine sy rfl (wy rfl (k40 d6) (s_load ti9 (et (k40 d7)) ((hS.blk d1).cell d1) (dt (q40 p8)) ?_))
 obtain ⟨r164,g165,h⟩:=bI h
 refine wy rfl (k40 d6) (s_callv isfn26 ef (e1 (et (k40 d8)) e0) (r1_named_w (hg.t (le125.t (le148.t le152))) g165 hS) ?_)
 rintro _ w8 ⟨μ6,rfl,le166,hS⟩
 refine po (sy rfl (st (wnil (xl ?_))))
 exact ⟨_,_,rfl,(aK20 (aK10 (aK3 (aO10 (aO8 (aI aZ)))))),_,(!r164),rfl,h,le166,hS⟩
 intro h163 h
 refine sn rfl rfl (sn rfl rfl (sn rfl rfl (sn rfl rfl (st (wnil (xl ?_))))))
 exact ⟨_,_,rfl,(aK20 (aK10 (aK3 (aO10 (aO8 (aI aZ)))))),_,false,rfl,h,Le.r,hS⟩
 rintro _ t w9 ⟨μ7,b154,rfl,h,le167,hS⟩
 unfold r2_stats_j2 at h
 refine nrm (mK20 (mK10 (mK3 (mO10 (mO8 (mi mz)))))) (xn ?_)
 refine zCb h ?_ ?_
 intro h168 h
 refine nz (st (nw (cret ?_)))
 refine (fun h=>xr (br (xr (xr (br (xr h)))))) ?_
 obtain rfl:=oI h
 refine ret1 rfl d6 ?_
 replace hS:=hS.drop (Rm.s Rm.z)
 exact ⟨_,rfl,(le125.t (le148.t (le152.t le167))),hS⟩
 intro h168 h
 refine cskip (xn (cseq (nz (st (ld ((hS.blk d1).cell d0) (st (nw ?_)))))))
 refine zCd h ?_ ?_
 intro h169 h
 refine cexit ?_
 refine (fun h=>xe (bh h)) ?_
 refine xn (creg ?_)
 obtain ⟨i170,g171,h⟩:=bI h
 refine wl (su (u_addc (et (k10 d7)) ec g171) (dt (q90 p3)) (st (wnil (xl ?_))))
 replace hS:=hS.drop (Rm.s Rm.z)
 exact ⟨n_1,_,_,rfl,(aK6 (aO1 (aK1 (aO4 (aK5 (aI (aO50 (aO20 (aO6 aZ))))))))),⟨_,i170,r146.2,rfl,h,(le125.t (le148.t (le152.t le167))),hS⟩,Nat.lt_succ_self _⟩
 intro h169 h
 refine cskip (xn (cseq (nz ?_)))
 iterate 2 refine st ?_
 refine lds ((hS.blk d1).cellsAt (Sb.s d2 (Sb.s d3 (Sb.s d4 (Sb.s d5 Sb.z))))) rfl (st ?_)
 obtain ⟨i172,g173,h⟩:=bI h
 refine wl (su (u_addc (et (k50 d8)) ec g173) (dt (q50 p9)) ?_)
 obtain ⟨r174,g175,h⟩:=bI h
 refine ca ((R2E_sound fu).r2_expr (hg.t (le125.t (le148.t (le152.t le167)))) (m137.up (le148.t (le152.t le167))) g175 hS) ?_
 rintro _ w10 ⟨μ8,rfl,le176,hS⟩
 refine po (st (nx ?_))
 iterate 2 refine st ?_
 refine nw ?_
 refine zCd h ?_ ?_
 intro h177 h
 refine nz ?_
 iterate 2 refine st ?_
 refine nw (cret ?_)
 refine (fun h=>xr (br (xr (xr (br (xr h)))))) ?_
 obtain rfl:=oI h
 refine ret1 rfl d6 ?_
 replace hS:=hS.drop (Rm.s Rm.z)
 exact ⟨_,rfl,(le125.t (le148.t (le152.t (le167.t le176)))),hS⟩
 intro h177 h
 refine cskip (xn (cseq (cseq ?_)))
 refine ccutE (rg 64 7) (by decide) (fun m w=>∃ μx b178,m=(yK50 (yK10 (yK4 (yO7 64 (.i (.bool b178)::[])))))∧r2_stats_j3 self p_3 i65 x127 r174 (r2_stats_l1 fu self p_2 p_3 n_1) b178=some r∧Le μ8 μx∧Sq μx w0 w (.blk b1 58 [.int .i64 r174.2]::.blk b144 69 [.int .i64 x127.Kind,S x127.Name,.int .i64 x127.X.Kind,.int .i64 x127.X.N,S x127.X.Name,.slice a135 x127.X.Kids.length c136,.slice a138 x127.Body.length c139,.slice a141 x127.Else.length c142]::rsF)) (by rintro _ _ ⟨_,_,rfl,_⟩; rfl) ?_ ?_
 refine creg (st (ld ((hS.blk d1).cell d0) ?_))
 iterate 2 refine st ?_
 refine zWd 67 h ?_ ?_
 intro h179 h
 refine sn rfl rfl (sn rfl rfl (sn rfl rfl (st (wnil (xl ?_)))))
 exact ⟨_,_,rfl,(aK50 (aK10 (aK4 (aO7 (aI aZ))))),_,true,rfl,h,Le.r,hS⟩
 intro h179 h
 refine sy rfl (wy rfl (k60 d7) (s_load ti3 (et (k60 d8)) ((hS.blk d1).cell d0) (dt (q60 p9)) (sy rfl (st (wnil (xl ?_))))))
 exact ⟨_,_,rfl,(aK50 (aK10 (aK4 (aO7 (aI aZ))))),_,(decide (x127.Kind=4)),rfl,h,Le.r,hS⟩
 rintro _ t w11 ⟨μ9,b178,rfl,h,le180,hS⟩
 unfold r2_stats_j3 at h
 refine nrm (mK50 (mK10 (mK4 (mO7 (mi mz))))) (xn ?_)
 refine ccutE ([6]++[10]++rg 72 9) (by decide) (fun m w=>∃ μx i181,m=(yK6 (yO1 6 (yK3 (yO1 10 (yK50 (yK10 (yK1 (yO9 72 []))))))))∧r2_stats_j4 self p_3 i65 x127 (r2_stats_l1 fu self p_2 p_3 n_1) i181=some r∧Le μ9 μx∧Sq μx w0 w (.blk b1 58 [.int .i64 i181]::.blk b144 69 [.int .i64 x127.Kind,S x127.Name,.int .i64 x127.X.Kind,.int .i64 x127.X.N,S x127.X.Name,.slice a135 x127.X.Kids.length c136,.slice a138 x127.Body.length c139,.slice a141 x127.Else.length c142]::rsF)) (by rintro _ _ ⟨_,_,rfl,_⟩; rfl) ?_ ?_
 refine zCb h ?_ ?_
 intro h182 h
 refine nz ?_
 iterate 2 refine st ?_
 refine ld ((hS.blk d1).cell d6) (st ?_)
 obtain ⟨i183,g184,h⟩:=bI h
 refine wl (su (u_addc (et (k70 d5)) ec g184) (dt (q70 p6)) ?_)
 obtain ⟨r185,g186,h⟩:=bI h
 refine ca (IH.r2_stats (hg.t (le125.t (le148.t (le152.t (le167.t (le176.t le180)))))) (m140.up (le148.t (le152.t (le167.t (le176.t le180))))) g186 hS) ?_
 rintro _ w12 ⟨μ10,rfl,le187,hS⟩
 refine po (st (nx ?_))
 iterate 2 refine st ?_
 refine nw ?_
 refine zCd h ?_ ?_
 intro h188 h
 refine nz ?_
 iterate 2 refine st ?_
 refine nw (cret ((fun h=>xr (xr (br (xr (xr (br (xr h))))))) ?_))
 obtain rfl:=oI h
 refine ret1 rfl d6 ?_
 replace hS:=hS.drop (Rm.s Rm.z)
 exact ⟨_,rfl,(le125.t (le148.t (le152.t (le167.t (le176.t (le180.t le187)))))),hS⟩
 intro h188 h
 refine cskip (xl ?_)
 exact ⟨_,_,rfl,(aK6 (aO1 (aK3 (aO1 (aK50 (aK10 (aK1 (aO9 aZ)))))))),_,r185.2,rfl,h,le187,hS⟩
 intro h182 h
 refine cskip (xl ?_)
 exact ⟨_,_,rfl,(aK6 (aO1 (aK3 (aO1 (aK50 (aK10 (aK1 (aO9 aZ)))))))),_,r174.2,rfl,h,Le.r,hS⟩
 rintro _ t w13 ⟨μ11,i181,rfl,h,le189,hS⟩
 unfold r2_stats_j4 at h
 refine nrm (mK6 (mO1 (mK3 (mO1 (mK50 (mK10 (mK1 (mO9 mz)))))))) (xn (nz (st (ld ((hS.blk d1).cell d0) (st (nw ?_))))))
 refine zCd h ?_ ?_
 intro h190 h
 refine nz ?_
 iterate 2 refine st ?_
 refine ld ((hS.blk d1).cell d7) (st ?_)
 obtain ⟨i191,g192,h⟩:=bI h
 refine wl (su (u_addc (et (k80 d7)) ec g192) (dt (q80 p8)) ?_)
 obtain ⟨r193,g194,h⟩:=bI h
 refine ca (IH.r2_stats (hg.t (le125.t (le148.t (le152.t (le167.t (le176.t (le180.t le189))))))) (m143.up (le148.t (le152.t (le167.t (le176.t (le180.t le189)))))) g194 hS) ?_
 rintro _ w14 ⟨μ12,rfl,le195,hS⟩
 refine po (st (nx ?_))
 iterate 2 refine st ?_
 refine nw ?_
 refine zCd h ?_ ?_
 intro h196 h
 refine nz ?_
 iterate 2 refine st ?_
 refine nw (cret ?_)
 refine (fun h=>br (xr (xr (br (xr h))))) ?_
 obtain rfl:=oI h
 refine ret1 rfl d6 ?_
 replace hS:=hS.drop (Rm.s Rm.z)
 exact ⟨_,rfl,(le125.t (le148.t (le152.t (le167.t (le176.t (le180.t (le189.t le195))))))),hS⟩
 intro h196 h
 refine cskip ?_
 refine (fun h=>bn (xn h)) ?_
 refine creg ?_
 obtain ⟨i197,g198,h⟩:=bI h
 refine wl (su (u_addc (et (k10 d7)) ec g198) (dt (q90 p3)) (st (wnil (xl ?_))))
 replace hS:=hS.drop (Rm.s Rm.z)
 exact ⟨n_1,_,_,rfl,(aK6 (aO1 (aK1 (aO4 (aK5 (aI (aO50 (aO20 (aO6 aZ))))))))),⟨_,i197,r193.2,rfl,h,(le125.t (le148.t (le152.t (le167.t (le176.t (le180.t (le189.t le195))))))),hS⟩,Nat.lt_succ_self _⟩
 intro h190 h
 refine cskip ?_
 refine (fun h=>bn (xn h)) ?_
 refine creg ?_
 obtain ⟨i199,g200,h⟩:=bI h
 refine wl (su (u_addc (et (k10 d7)) ec g200) (dt (q90 p3)) (st (wnil (xl ?_))))
 replace hS:=hS.drop (Rm.s Rm.z)
 exact ⟨n_1,_,_,rfl,(aK6 (aO1 (aK1 (aO4 (aK5 (aI (aO50 (aO20 (aO6 aZ))))))))),⟨_,i199,i181,rfl,h,(le125.t (le148.t (le152.t (le167.t (le176.t (le180.t le189)))))),hS⟩,Nat.lt_succ_self _⟩
 intro h126 h
 refine cexit ?_
 refine (fun h=>xe (xe (bh h))) ?_
 refine xn (nz (st (nw (cret ?_))))
 obtain rfl:=oI h
 refine ret1 rfl d6 ?_
 exact ⟨_,rfl,le125,hS⟩
theorem R2S_sound:∀ n,R2SSound (R2S_run n)
  | 0=>⟨(by intro; intros; rename_i h _; cases h)⟩
  | n+1=>⟨r2_stats_w (R2S_sound n)⟩
theorem r2_def_w (hg:Le Gm μ0) {n_2:Int} {p_2:TDef} {r:Int×Int} (m5:Sl μ0 a3 c4 p_2.Params) (m8:Sl μ0 a6 c7 p_2.Body) (h:r2_def fu n_2 p_2=some r) (hS:Sq μ0 w0 w (.blk b1 58 [.int .i64 n_2]::rsF)):CallsV prog 15 [.pointer (some ⟨b1,0,none⟩),.agg ⟨[.int .i64 p_2.Kind,S p_2.Name,.int .i64 p_2.Typ.Kind,S p_2.Typ.Gen,.int .i64 p_2.Takes.Kind,S p_2.Takes.Gen,.int .i64 p_2.Cap,.slice a3 p_2.Params.length c4,.slice a6 p_2.Body.length c7]⟩] w (fun v w'=>∃ (μ':M) ,v=.int .i64 r.1∧Le μ0 μ'∧Sq μ' w0 w' (.blk b1 58 [.int .i64 r.2]::rsF)):=by
 unfold r2_def at h
 refine enter func15 rfl (frm:=_::_::u1 (u20 (u20 (u50 [])))) rfl (nz ?_)
 refine wl (s_box (et d1) rfl hS ?_); clear hS; intro b9 w1 hb10 hS; refine po ?_
 refine st (ny (nz (st ?_)))
 obtain ⟨r11,g12,h⟩:=bI h
 replace hS:=hS.bg Y1
 refine ca (r2_more_w hg g12 hS) ?_
 rintro _ w2 ⟨μ1,rfl,le13,hS⟩
 refine po (st (nw ?_))
 refine zCe h ?_ ?_
 intro h14 h
 refine nz (st (nw (cret (xr ?_))))
 obtain rfl:=oI h
 refine ret1 rfl d4 ?_
 replace hS:=hS.drop (Rm.s Rm.z)
 exact ⟨_,rfl,le13,hS⟩
 intro h14 h
 refine cskip (xn (cseq (cseq ?_)))
 refine ccutE (rg 13 7) (by decide) (fun m w=>∃ μx b15,m=(yK10 (yK3 (yO7 13 (.i (.bool b15)::[]))))∧r2_def_j1 fu p_2 r11 b15=some r∧Le μ1 μx∧Sq μx w0 w (.blk b1 58 [.int .i64 r11.2]::.blk b9 44 [.int .i64 p_2.Kind,S p_2.Name,.int .i64 p_2.Typ.Kind,S p_2.Typ.Gen,.int .i64 p_2.Takes.Kind,S p_2.Takes.Gen,.int .i64 p_2.Cap,.slice a3 p_2.Params.length c4,.slice a6 p_2.Body.length c7]::rsF)) (by rintro _ _ ⟨_,_,rfl,_⟩; rfl) ?_ ?_
 refine creg (st (ld ((hS.blk d1).cell d0) ?_))
 iterate 2 refine st ?_
 refine zWd 16 h ?_ ?_
 intro h16 h
 refine sn rfl rfl (sn rfl rfl (sn rfl rfl (st (wnil (xl ?_)))))
 exact ⟨_,_,rfl,(aK10 (aK3 (aO7 (aI aZ)))),_,true,rfl,h,Le.r,hS⟩
 intro h16 h
 refine sy rfl (wy rfl (k10 d6) (s_load ti3 (et (k10 d7)) ((hS.blk d1).cell d0) (dt (q10 p8)) (sy rfl (st (wnil (xl ?_))))))
 exact ⟨_,_,rfl,(aK10 (aK3 (aO7 (aI aZ)))),_,(decide ((4:Int)<p_2.Kind)),rfl,h,Le.r,hS⟩
 rintro _ t w3 ⟨μ2,b15,rfl,h,le17,hS⟩
 unfold r2_def_j1 at h
 refine nrm (mK10 (mK3 (mO7 (mi mz)))) (xn ?_)
 refine zCb h ?_ ?_
 intro h18 h
 refine nz (st (nw (cret (xr ?_))))
 obtain rfl:=oI h
 refine ret1 rfl d4 ?_
 replace hS:=hS.drop (Rm.s Rm.z)
 exact ⟨_,rfl,(le13.t le17),hS⟩
 intro h18 h
 refine cskip (xn (cseq (nz (st (ld ((hS.blk d1).cell d1) ?_)))))
 obtain ⟨r19,g20,h⟩:=bI h
 refine ca (r1_named_w (hg.t (le13.t le17)) g20 hS) ?_
 rintro _ w4 ⟨μ3,rfl,le21,hS⟩
 refine po (st (nw ?_))
 refine zCe h ?_ ?_
 intro h22 h
 refine nz (st (nw (cret (xr ?_))))
 obtain rfl:=oI h
 refine ret1 rfl d4 ?_
 replace hS:=hS.drop (Rm.s Rm.z)
 exact ⟨_,rfl,(le13.t (le17.t le21)),hS⟩
 intro h22 h
 refine cskip (xn (cseq (cseq ?_)))
 refine ccutE (rg 25 7) (by decide) (fun m w=>∃ μx b23,m=(yK20 (yK5 (yO7 25 (.i (.bool b23)::[]))))∧r2_def_j2 fu p_2 r11 b23=some r∧Le μ3 μx∧Sq μx w0 w (.blk b1 58 [.int .i64 r11.2]::.blk b9 44 [.int .i64 p_2.Kind,S p_2.Name,.int .i64 p_2.Typ.Kind,S p_2.Typ.Gen,.int .i64 p_2.Takes.Kind,S p_2.Takes.Gen,.int .i64 p_2.Cap,.slice a3 p_2.Params.length c4,.slice a6 p_2.Body.length c7]::rsF)) (by rintro _ _ ⟨_,_,rfl,_⟩; rfl) ?_ ?_
 refine creg (st (ld ((hS.blk d1).cell d0) ?_))
 iterate 2 refine st ?_
 refine zWd 28 h ?_ ?_
 intro h24 h
 refine sn rfl rfl (sn rfl rfl (sn rfl rfl (st (wnil (xl ?_)))))
 exact ⟨_,_,rfl,(aK20 (aK5 (aO7 (aI aZ)))),_,true,rfl,h,Le.r,hS⟩
 intro h24 h
 refine sy rfl (wy rfl (k20 d8) (s_load ti3 (et (k20 d9)) ((hS.blk d1).cell d0) (dt (q30 p0)) (sy rfl (st (wnil (xl ?_))))))
 exact ⟨_,_,rfl,(aK20 (aK5 (aO7 (aI aZ)))),_,(decide (p_2.Kind=3)),rfl,h,Le.r,hS⟩
 rintro _ t w5 ⟨μ4,b23,rfl,h,le25,hS⟩
 unfold r2_def_j2 at h
 refine nrm (mK20 (mK5 (mO7 (mi mz)))) (xn ?_)
 refine ccutE ([4]++rg 6 2++rg 33 22) (by decide +kernel) (fun m w=>∃ (μx:M) ,m=(yK4 (yO1 4 (yK1 (yO2 6 (yK20 (yK5 (yO20 33 (yO2 53 []))))))))∧r2_def_j3 fu p_2 r11 =some r∧Le μ4 μx∧Sq μx w0 w (.blk b1 58 [.int .i64 r11.2]::.blk b9 44 [.int .i64 p_2.Kind,S p_2.Name,.int .i64 p_2.Typ.Kind,S p_2.Typ.Gen,.int .i64 p_2.Takes.Kind,S p_2.Takes.Gen,.int .i64 p_2.Cap,.slice a3 p_2.Params.length c4,.slice a6 p_2.Body.length c7]::rsF)) (by rintro _ _ ⟨_,rfl,_⟩; rfl) ?_ ?_
 refine zCb h ?_ ?_
 intro h26 h
 refine cseq (nz (st (ld ((hS.blk d1).cell d7) (wl (su (u_lensl underlying41 (et (k30 d4))) (dt (q30 p5)) (st (nw ?_)))))))
 refine zCd h ?_ ?_
 intro h27 h
 refine nz (st (nw (cret ?_)))
 refine (fun h=>xr (xr (xr h))) ?_
 obtain rfl:=oI h
 refine ret1 rfl d4 ?_
 replace hS:=hS.drop (Rm.s Rm.z)
 exact ⟨_,rfl,(le13.t (le17.t (le21.t le25))),hS⟩
 intro h27 h
 refine cskip (xn (nz (st (ld ((hS.blk d1).cell d7) (wl (su (u_lensl underlying41 (et (k30 d8))) (dt (q30 p9)) (st (nw (cblock ?_)))))))))
 refine cloopE ([4]++rg 6 2++rg 41 14) (by decide) (fun n m w=>∃ μx i46,m=(yK4 (yO1 4 (yK1 (yO2 6 (yK20 (yK10 (yK2 (.i (.int .i64 i46)::(yO10 41 (yO4 51 []))))))))))∧r2_def_l1 fu p_2 r11 n i46=some r∧Le μ4 μx∧Sq μx w0 w (.blk b1 58 [.int .i64 r11.2]::.blk b9 44 [.int .i64 p_2.Kind,S p_2.Name,.int .i64 p_2.Typ.Kind,S p_2.Typ.Gen,.int .i64 p_2.Takes.Kind,S p_2.Takes.Gen,.int .i64 p_2.Cap,.slice a3 p_2.Params.length c4,.slice a6 p_2.Body.length c7]::rsF)) (by rintro _ _ _ ⟨_,_,rfl,_⟩; rfl) _ _ (aK4 (aO1 (aK1 (aO2 (aK20 (aK10 (aK2 (aI (aO10 (aO4 aZ)))))))))) ⟨_,0,rfl,h,Le.r,hS⟩ ?_
 rintro n_1 _ t w6 ⟨μ5,i46,rfl,h,le65,hS⟩
 rcases n_1 with _|n_1
 cases h
 unfold r2_def_l1 at h
 refine cnrm (mK4 (mO1 (mK1 (mO2 (mK20 (mK10 (mK2 (mi (mO10 (mO4 mz)))))))))) (nz (st (ny ?_)))
 refine zCd h ?_ ?_
 intro h66 h
 refine cskip (xn (cseq (cblock (nz ?_))))
 obtain ⟨x67,g68,h⟩:=bI h
 obtain ⟨b69,o70,cs71,e72,f73,m74⟩:=SlR.elem (m5.up (le13.t (le17.t (le21.t (le25.t le65))))) g68
 obtain rfl:=m74
 refine wl (su (u_iax underlying41 ti51 (et (k30 d8)) (et (k40 d0)) e72) (dt (q40 p2)) (lds (f73 _ hS.a) rfl ?_))
 refine wl (s_alloc ti51 hS ?_); clear hS; intro b75 w7 hb76 hS; refine po ?_
 refine wl (s_storeA ti51 (et d6) (et (k40 d3)) rfl rfl hS d0 rfl p0 dn ?_)
 clear hS; intro w8 hS
 refine ny (nz (st (ld ((hS.blk d0).cell d0) ?_)))
 obtain ⟨r77,g78,h⟩:=bI h
 refine ca (r1_named_w (hg.t (le13.t (le17.t (le21.t (le25.t le65))))) g78 hS) ?_
 rintro _ w9 ⟨μ6,rfl,le79,hS⟩
 refine po (st (nw ?_))
 refine zCe h ?_ ?_
 intro h80 h
 refine nz (st (nw (cret ((fun h=>xr (br (xr (xr (br (xr (xr h))))))) ?_))))
 obtain rfl:=oI h
 refine ret1 rfl d4 ?_
 replace hS:=(hS.drop Rm.z).drop (Rm.s Rm.z)
 exact ⟨_,rfl,(le13.t (le17.t (le21.t (le25.t (le65.t le79))))),hS⟩
 intro h80 h
 refine cskip (xn (nz (st (lds ((hS.blk d0).cellsAt (Sb.s d1 (Sb.s d2 Sb.z))) rfl ?_))))
 obtain ⟨r81,g82,h⟩:=bI h
 refine ca (r2_type_w (hg.t (le13.t (le17.t (le21.t (le25.t (le65.t le79)))))) g82 hS) ?_
 rintro _ w10 ⟨μ7,rfl,le83,hS⟩
 refine po (st (nx ?_))
 iterate 2 refine st ?_
 refine nw ?_
 refine zCd h ?_ ?_
 intro h84 h
 refine nz ?_
 iterate 2 refine st ?_
 refine nw (cret ?_)
 refine (fun h=>br (xr (xr (br (xr (xr h)))))) ?_
 obtain rfl:=oI h
 refine ret1 rfl d4 ?_
 replace hS:=(hS.drop Rm.z).drop (Rm.s Rm.z)
 exact ⟨_,rfl,(le13.t (le17.t (le21.t (le25.t (le65.t (le79.t le83)))))),hS⟩
 intro h84 h
 refine cskip ?_
 refine (fun h=>bn (xn h)) ?_
 refine creg ?_
 obtain ⟨i85,g86,h⟩:=bI h
 refine wl (su (u_addc (et (k40 d0)) ec g86) (dt (q50 p4)) (st (wnil (xl ?_))))
 replace hS:=hS.drop Rm.z
 exact ⟨n_1,_,_,rfl,(aK4 (aO1 (aK1 (aO2 (aK20 (aK10 (aK2 (aI (aO10 (aO4 aZ)))))))))),⟨_,i85,rfl,h,(le65.t (le79.t le83)),hS⟩,Nat.lt_succ_self _⟩
 intro h66 h
 refine cexit ?_
 refine (fun h=>xe (xe (bh h))) ?_
 refine xl ?_
 exact ⟨_,_,rfl,(aK4 (aO1 (aK1 (aO2 (aK20 (aK5 (aO20 (aO2 aZ)))))))),_,rfl,h,le65,hS⟩
 intro h26 h
 refine cskip (xl ?_)
 exact ⟨_,_,rfl,(aK4 (aO1 (aK1 (aO2 (aK20 (aK5 (aO20 (aO2 aZ)))))))),_,rfl,h,Le.r,hS⟩
 rintro _ t w11 ⟨μ8,rfl,h,le87,hS⟩
 unfold r2_def_j3 at h
 refine nrm (mK4 (mO1 (mK1 (mO2 (mK20 (mK5 (mO20 (mO2 mz)))))))) (xn (cseq (nz (st (ld ((hS.blk d1).cell d0) (st (nw ?_)))))))
 refine ccutE ([4]++[8]++rg 58 6) (by decide) (fun m w=>∃ (μx:M) ,m=(yK4 (yO1 4 (yK3 (yO1 8 (yK20 (yK20 (yK9 (yO6 58 []))))))))∧r2_def_j4 fu p_2 r11 =some r∧Le μ8 μx∧Sq μx w0 w (.blk b1 58 [.int .i64 r11.2]::.blk b9 44 [.int .i64 p_2.Kind,S p_2.Name,.int .i64 p_2.Typ.Kind,S p_2.Typ.Gen,.int .i64 p_2.Takes.Kind,S p_2.Takes.Gen,.int .i64 p_2.Cap,.slice a3 p_2.Params.length c4,.slice a6 p_2.Body.length c7]::rsF)) (by rintro _ _ ⟨_,rfl,_⟩; rfl) ?_ ?_
 refine zCd h ?_ ?_
 intro h88 h
 refine nz (st (lds ((hS.blk d1).cellsAt (Sb.s d4 (Sb.s d5 Sb.z))) rfl ?_))
 obtain ⟨r89,g90,h⟩:=bI h
 refine ca (r2_type_w (hg.t (le13.t (le17.t (le21.t (le25.t le87))))) g90 hS) ?_
 rintro _ w12 ⟨μ9,rfl,le91,hS⟩
 refine po (st (nx ?_))
 iterate 2 refine st ?_
 refine nw ?_
 refine zCd h ?_ ?_
 intro h92 h
 refine nz ?_
 iterate 2 refine st ?_
 refine nw (cret ?_)
 refine (fun h=>xr (xr h)) ?_
 obtain rfl:=oI h
 refine ret1 rfl d4 ?_
 replace hS:=hS.drop (Rm.s Rm.z)
 exact ⟨_,rfl,(le13.t (le17.t (le21.t (le25.t (le87.t le91))))),hS⟩
 intro h92 h
 refine cskip (xl ?_)
 exact ⟨_,_,rfl,(aK4 (aO1 (aK3 (aO1 (aK20 (aK20 (aK9 (aO6 aZ)))))))),_,rfl,h,le91,hS⟩
 intro h88 h
 refine cskip (xl ?_)
 exact ⟨_,_,rfl,(aK4 (aO1 (aK3 (aO1 (aK20 (aK20 (aK9 (aO6 aZ)))))))),_,rfl,h,Le.r,hS⟩
 rintro _ t w13 ⟨μ10,rfl,h,le93,hS⟩
 unfold r2_def_j4 at h
 refine nrm (mK4 (mO1 (mK3 (mO1 (mK20 (mK20 (mK9 (mO6 mz)))))))) (xn (cseq (nz (st (ld ((hS.blk d1).cell d0) (st (nw ?_)))))))
 refine ccutE ([4]++[9]++rg 67 6) (by decide) (fun m w=>∃ (μx:M) ,m=(yK4 (yO1 4 (yK4 (yO1 9 (yK50 (yK7 (yO6 67 [])))))))∧r2_def_j5 fu p_2 r11 =some r∧Le μ10 μx∧Sq μx w0 w (.blk b1 58 [.int .i64 r11.2]::.blk b9 44 [.int .i64 p_2.Kind,S p_2.Name,.int .i64 p_2.Typ.Kind,S p_2.Typ.Gen,.int .i64 p_2.Takes.Kind,S p_2.Takes.Gen,.int .i64 p_2.Cap,.slice a3 p_2.Params.length c4,.slice a6 p_2.Body.length c7]::rsF)) (by rintro _ _ ⟨_,rfl,_⟩; rfl) ?_ ?_
 refine zCd h ?_ ?_
 intro h94 h
 refine nz (st (lds ((hS.blk d1).cellsAt (Sb.s d2 (Sb.s d3 Sb.z))) rfl ?_))
 obtain ⟨r95,g96,h⟩:=bI h
 refine ca (r2_type_w (hg.t (le13.t (le17.t (le21.t (le25.t (le87.t le93)))))) g96 hS) ?_
 rintro _ w14 ⟨μ11,rfl,le97,hS⟩
 refine po (st (nx ?_))
 iterate 2 refine st ?_
 refine nw ?_
 refine zCd h ?_ ?_
 intro h98 h
 refine nz ?_
 iterate 2 refine st ?_
 refine nw (cret ?_)
 refine (fun h=>xr (xr h)) ?_
 obtain rfl:=oI h
 refine ret1 rfl d4 ?_
 replace hS:=hS.drop (Rm.s Rm.z)
 exact ⟨_,rfl,(le13.t (le17.t (le21.t (le25.t (le87.t (le93.t le97)))))),hS⟩
 intro h98 h
 refine cskip (xl ?_)
 exact ⟨_,_,rfl,(aK4 (aO1 (aK4 (aO1 (aK50 (aK7 (aO6 aZ))))))),_,rfl,h,le97,hS⟩
 intro h94 h
 refine cskip (xl ?_)
 exact ⟨_,_,rfl,(aK4 (aO1 (aK4 (aO1 (aK50 (aK7 (aO6 aZ))))))),_,rfl,h,Le.r,hS⟩
 rintro _ t w15 ⟨μ12,rfl,h,le99,hS⟩
 unfold r2_def_j5 at h
 refine nrm (mK4 (mO1 (mK4 (mO1 (mK50 (mK7 (mO6 mz))))))) (xn (cseq (cseq ?_)))
 refine ccutE (rg 73 12) (by decide) (fun m w=>∃ μx b100,m=(yK50 (yK20 (yK3 (yO10 73 (yO2 83 (.i (.bool b100)::[]))))))∧r2_def_j6 fu p_2 r11 b100=some r∧Le μ12 μx∧Sq μx w0 w (.blk b1 58 [.int .i64 r11.2]::.blk b9 44 [.int .i64 p_2.Kind,S p_2.Name,.int .i64 p_2.Typ.Kind,S p_2.Typ.Gen,.int .i64 p_2.Takes.Kind,S p_2.Takes.Gen,.int .i64 p_2.Cap,.slice a3 p_2.Params.length c4,.slice a6 p_2.Body.length c7]::rsF)) (by rintro _ _ ⟨_,_,rfl,_⟩; rfl) ?_ ?_
 refine creg (st (ld ((hS.blk d1).cell d0) ?_))
 iterate 2 refine st ?_
 refine zWd 76 h ?_ ?_
 intro h101 h
 refine sy rfl (wy rfl (k70 d6) (s_load ti3 (et (k70 d7)) ((hS.blk d1).cell d6) (dt (q70 p8)) (sy rfl (sy rfl ?_))))
 refine zWd 80 h ?_ ?_
 intro h102 h
 refine sn rfl rfl (sn rfl rfl (sn rfl rfl (sy rfl (st (wnil (xl ?_))))))
 exact ⟨_,_,rfl,(aK50 (aK20 (aK3 (aO10 (aO2 (aI aZ)))))),_,true,rfl,h,Le.r,hS⟩
 intro h102 h
 refine sy rfl (wy rfl (k80 d0) (s_load ti3 (et (k80 d1)) ((hS.blk d1).cell d6) (dt (q80 p2)) (sy rfl (sy rfl (st (wnil (xl ?_)))))))
 exact ⟨_,_,rfl,(aK50 (aK20 (aK3 (aO10 (aO2 (aI aZ)))))),_,(decide ((20:Int)<p_2.Cap)),rfl,h,Le.r,hS⟩
 intro h101 h
 refine sn rfl rfl (sn rfl rfl (sn rfl rfl (sn rfl rfl (wu rfl (k80 d0) (dt (q80 p1)) (wu rfl (k80 d0) (dt (q80 p2)) (wu rfl (k80 d0) (dt (q80 p3)) (sn rfl rfl (st (wnil (xl ?_))))))))))
 exact ⟨_,_,rfl,(aK50 (aK20 (aK3 (aO10 (aO2 (aI aZ)))))),_,false,rfl,h,Le.r,hS⟩
 rintro _ t w16 ⟨μ13,b100,rfl,h,le103,hS⟩
 unfold r2_def_j6 at h
 refine nrm (mK50 (mK20 (mK3 (mO10 (mO2 (mi mz)))))) (xn ?_)
 refine zCb h ?_ ?_
 intro h104 h
 refine nz (st (nw (cret (xr ?_))))
 obtain rfl:=oI h
 refine ret1 rfl d4 ?_
 replace hS:=hS.drop (Rm.s Rm.z)
 exact ⟨_,rfl,(le13.t (le17.t (le21.t (le25.t (le87.t (le93.t (le99.t le103))))))),hS⟩
 intro h104 h
 refine cskip (xn (cseq (nz (st (ld ((hS.blk d1).cell d0) (st (nw ?_)))))))
 refine zCd h ?_ ?_
 intro h105 h
 refine nz (st (nw (cret (xr ?_))))
 obtain rfl:=oI h
 refine ret1 rfl d4 ?_
 replace hS:=hS.drop (Rm.s Rm.z)
 exact ⟨_,rfl,(le13.t (le17.t (le21.t (le25.t (le87.t (le93.t (le99.t le103))))))),hS⟩
 intro h105 h
 refine cskip (xn (nz ?_))
 iterate 2 refine st ?_
 refine ld ((hS.blk d1).cell d8) ?_
 obtain ⟨r106,g107,h⟩:=bI h
 refine ca ((R2S_sound fu).r2_stats (hg.t (le13.t (le17.t (le21.t (le25.t (le87.t (le93.t (le99.t le103)))))))) (m8.up (le13.t (le17.t (le21.t (le25.t (le87.t (le93.t (le99.t le103)))))))) g107 hS) ?_
 rintro _ w17 ⟨μ14,rfl,le108,hS⟩
 refine po (st (nw (cret ?_)))
 obtain rfl:=oI h
 refine ret1 rfl d4 ?_
 replace hS:=hS.drop (Rm.s Rm.z)
 exact ⟨_,rfl,(le13.t (le17.t (le21.t (le25.t (le87.t (le93.t (le99.t (le103.t le108)))))))),hS⟩
theorem r2_wrong_w (hg:Le Gm μ0) {p_1:List TDef} {r:TFault} (m3:Sl μ0 a1 c2 p_1) (h:r2_wrong fu p_1=some r) (hS:Sq μ0 w0 w (rsF)):CallsV prog 7 [.slice a1 p_1.length c2] w (fun v w'=>∃ (μ':M) ,v=.agg ⟨[.int .i64 r.Err,.int .i64 r.At]⟩∧Le μ0 μ'∧Sq μ' w0 w' (rsF)):=by
 unfold r2_wrong at h
 refine enter func7 rfl (frm:=_::u2 (u2 (u5 (u20 [])))) rfl (nz ?_)
 refine wl (s_alloc ti25 hS ?_); clear hS; intro b4 w1 hb5 hS; refine po ?_
 refine ny (nz (st (wl (su (u_lensl underlying22 (et d6)) (dt p7) (st (nw ?_))))))
 refine zCd h ?_ ?_
 intro h6 h
 refine nz (wl (s_build ti25 pl25 (Fl.o rfl ec rfl rfl p0 Fl.z) (dt p9) (wl (s_storeA ti25 (et d2) (et d9) rfl rfl hS d0 rfl p0 dn ?_))))
 clear hS; intro w2 hS
 refine nw (cret (xr ?_))
 obtain rfl:=oI h
 refine retN rfl (RVs.s (.a d2 ti25 (hS.blk d0).cells rfl) RVs.z) ?_
 replace hS:=hS.drop Rm.z
 exact ⟨_,rfl,Le.r,hS⟩
 intro h6 h
 refine cskip (xn (nz (wl (s_build ti58 pl58 Fl.z (dt (q10 p0)) ?_))))
 refine wl (s_box (et (k10 d0)) rfl hS ?_); clear hS; intro b7 w3 hb8 hS; refine po ?_
 refine st (ny (nz (st (wl (su (u_lensl underlying22 (et (k10 d2))) (dt (q10 p3)) (st (nw (cblock ?_))))))))
 replace hS:=hS.bg Y1
 refine cloopE (rg 4 2++rg 15 14) (by decide) (fun n m w=>∃ μx i28 i29,m=(yK4 (yO2 4 (yK8 (.i (.int .i64 i28)::(yO10 15 (yO4 25 []))))))∧r2_wrong_l1 fu p_1 n i28 i29=some r∧Le μ0 μx∧Sq μx w0 w (.blk b4 25 [.int .i64 0,.int .i64 0]::.blk b7 58 [.int .i64 i29]::rsF)) (by rintro _ _ _ ⟨_,_,_,rfl,_⟩; rfl) _ _ (aK4 (aO2 (aK8 (aI (aO10 (aO4 aZ)))))) ⟨_,0,0,rfl,h,Le.r,hS⟩ ?_
 rintro n_1 _ t w4 ⟨μ1,i28,i29,rfl,h,le49,hS⟩
 rcases n_1 with _|n_1
 cases h
 unfold r2_wrong_l1 at h
 refine cnrm (mK4 (mO2 (mK8 (mi (mO10 (mO4 mz)))))) (nz (st (ny ?_)))
 refine zCd h ?_ ?_
 intro h50 h
 refine cskip (xn (cseq (cblock (nz ?_))))
 iterate 2 refine st ?_
 refine nx ?_
 iterate 3 refine st ?_
 obtain ⟨x51,g52,h⟩:=bI h
 obtain ⟨b53,o54,cs55,e56,f57,m58⟩:=SlR.elem (m3.up le49) g52
 obtain ⟨a59,c60,a62,c63,rfl,m61,m64⟩:=m58
 refine wl (su (u_iax underlying22 ti44 (et (k10 d8)) (et (k10 d9)) e56) (dt (q20 p0)) (lds (f57 _ hS.a) rfl ?_))
 obtain ⟨r65,g66,h⟩:=bI h
 replace hS:=hS.bg Y1
 refine ca (r2_def_w (hg.t le49) m61 m64 g66 hS) ?_
 rintro _ w5 ⟨μ2,rfl,le67,hS⟩
 refine po (st (nx ?_))
 iterate 2 refine st ?_
 refine nw ?_
 refine zCd h ?_ ?_
 intro h68 h
 refine nz ?_
 iterate 2 refine st ?_
 refine wl (s_build ti25 pl25 (Fl.o rfl (et (k20 d5)) rfl rfl p0 (Fl.o rfl (et (k20 d6)) rfl rfl p1 Fl.z)) (dt (q20 p7)) (wl (s_storeA ti25 (et d2) (et (k20 d7)) rfl rfl hS d1 rfl p1 dn ?_)))
 clear hS; intro w6 hS
 refine nw (cret ?_)
 refine (fun h=>br (xr (xr (br (xr h))))) ?_
 obtain rfl:=oI h
 refine retN rfl (RVs.s (.a d2 ti25 (hS.blk d1).cells rfl) RVs.z) ?_
 replace hS:=(hS.drop Rm.z).drop Rm.z
 exact ⟨_,rfl,(le49.t le67),hS⟩
 intro h68 h
 refine cskip ?_
 refine (fun h=>bn (xn h)) ?_
 refine creg ?_
 obtain ⟨i69,g70,h⟩:=bI h
 refine wl (su (u_addc (et (k10 d4)) ec g70) (dt (q20 p8)) (st (wnil (xl ?_))))
 replace hS:=hS.bg Y1
 exact ⟨n_1,_,_,rfl,(aK4 (aO2 (aK8 (aI (aO10 (aO4 aZ)))))),⟨_,i69,r65.2,rfl,h,(le49.t le67),hS⟩,Nat.lt_succ_self _⟩
 intro h50 h
 refine cexit ?_
 refine (fun h=>xe (xe (bh h))) ?_
 refine xn (nz (wl (s_build ti25 pl25 Fl.z (dt (q20 p9)) (wl (s_storeA ti25 (et d2) (et (k20 d9)) rfl rfl hS d0 rfl p0 dn ?_)))))
 clear hS; intro w7 hS
 refine nw (cret ?_)
 obtain rfl:=oI h
 refine retN rfl (RVs.s (.a d2 ti25 (hS.blk d0).cells rfl) RVs.z) ?_
 replace hS:=(hS.drop Rm.z).drop Rm.z
 exact ⟨_,rfl,le49,hS⟩
end Go.Proofs.YteiemedhecjgiaaDoor
set_option maxRecDepth 100000
set_option maxHeartbeats 20000000
namespace Go.Proofs.YteiemedhecjgiaaDoor
open Go.Wk Go.Xt Go.Y Tryd
variable {c2 fu:Nat} {a1:Option Addr} {μ0:M} {w0 w:World} {rsF:List Res}
theorem r2_tyt_w (hg:Le Gm μ0) {p_1:TType} {r:List UInt8}  (h:r2_tyt p_1=some r) (hS:Sq μ0 w0 w (rsF)):CallsV prog 11 [.agg ⟨[.int .i64 p_1.Kind,S p_1.Gen]⟩] w (fun v w'=>∃ (μ':M) ,v=S r∧Le μ0 μ'∧Sq μ' w0 w' (rsF)):=by
 unfold r2_tyt at h
 refine enter func11 rfl (frm:=_::u10 []) rfl (nz ?_)
 refine wl (s_box (et d0) rfl hS ?_); clear hS; intro b1 w1 hb2 hS; refine po ?_
 refine st (nx (st (ld ((hS.blk d0).cell d1) ?_)))
 obtain ⟨s3,g4,h⟩:=bI h
 refine wl (su (u_catc (et d4) ec g4) (dt p5) ?_)
 refine wl (s_bsl underlying64 ti9 (Parts.s ec rfl (Parts.s ec rfl (Parts.s ec rfl (Parts.s (et d5) rfl Parts.z)))) rfl rfl hS ?_); clear hS; intro b5 w2 hb6 hS; refine po ?_
 refine st (ld ((hS.blk d1).cell d0) ?_)
 obtain ⟨μ1,le8,m7,hS⟩:=Sep.frzBlk (l:=([[],[110,117,109,32],[98,111,111,108,32],s3]:List (List UInt8))) hS (Rw.cons (α:=List UInt8) (cs:=[S []]) rfl (Rw.cons (α:=List UInt8) (cs:=[S [110,117,109,32]]) rfl (Rw.cons (α:=List UInt8) (cs:=[S [98,111,111,108,32]]) rfl (Rw.cons (α:=List UInt8) (cs:=[S s3]) rfl Rw.nil)))) (Nat.le_of_ble_eq_true rfl)
 obtain ⟨x9,g10,h⟩:=bI h
 obtain ⟨b11,o12,cs13,e14,f15,m16⟩:=SlR.elem m7 g10
 obtain rfl:=m16
 refine wl (su (u_iax underlying64 ti9 (et d6) (et d8) e14) (dt p9) (ld ((f15 _ hS.a).one d0) (st (nw (cret ?_)))))
 obtain rfl:=oI h
 refine ret1 rfl d2 ?_
 replace hS:=hS.drop Rm.z
 exact ⟨_,rfl,le8,hS⟩
theorem r2_sign_w (hg:Le Gm μ0) {p_1:Int} {p_2:List UInt8} {r:Int}  (h:r2_sign p_1 p_2=some r) (hS:Sq μ0 w0 w (rsF)):CallsV prog 35 [.int .i64 p_1,S p_2] w (fun v w'=>∃ (μ':M) ,v=.int .i64 r∧Le μ0 μ'∧Sq μ' w0 w' (rsF)):=by
 unfold r2_sign at h
 refine enter func35 rfl (frm:=_::_::u1 (u5 (u10 (u20 [])))) rfl (nz (st (nx ?_)))
 refine wl (s_bsl underlying64 ti9 (Parts.s ec rfl Parts.z) rfl rfl hS ?_); clear hS; intro b1 w1 hb2 hS; refine po ?_
 refine wl (s_bsl underlying64 ti9 (Parts.s ec rfl Parts.z) rfl rfl hS ?_); clear hS; intro b3 w2 hb4 hS; refine po ?_
 refine wl (s_bsl underlying64 ti9 (Parts.s ec rfl (Parts.s ec rfl (Parts.s ec rfl (Parts.s ec rfl (Parts.s ec rfl (Parts.s ec rfl Parts.z)))))) rfl rfl hS ?_); clear hS; intro b5 w3 hb6 hS; refine po ?_
 refine wl (s_bsl underlying64 ti9 (Parts.s ec rfl (Parts.s ec rfl Parts.z)) rfl rfl hS ?_); clear hS; intro b7 w4 hb8 hS; refine po ?_
 refine wl (s_bsl underlying64 ti9 (Parts.s ec rfl (Parts.s ec rfl (Parts.s ec rfl Parts.z))) rfl rfl hS ?_); clear hS; intro b9 w5 hb10 hS; refine po ?_
 replace hS:=hS.bg Y4
 obtain ⟨μ1,le12,m11,hS⟩:=Sep.frzBlk (l:=([[111,114]]:List (List UInt8))) hS (Rw.one (α:=List UInt8) rfl) (Nat.le_of_ble_eq_true rfl)
 replace hS:=hS.bg Y3
 obtain ⟨μ2,le14,m13,hS⟩:=Sep.frzBlk (l:=([[97,110,100]]:List (List UInt8))) hS (Rw.one (α:=List UInt8) rfl) (Nat.le_of_ble_eq_true rfl)
 replace hS:=hS.bg Y2
 obtain ⟨μ3,le16,m15,hS⟩:=Sep.frzBlk (l:=([[61,61],[33,61],[60],[60,61],[62],[62,61]]:List (List UInt8))) hS (Rw.cons (α:=List UInt8) (cs:=[S [61,61]]) rfl (Rw.cons (α:=List UInt8) (cs:=[S [33,61]]) rfl (Rw.cons (α:=List UInt8) (cs:=[S [60]]) rfl (Rw.cons (α:=List UInt8) (cs:=[S [60,61]]) rfl (Rw.cons (α:=List UInt8) (cs:=[S [62]]) rfl (Rw.cons (α:=List UInt8) (cs:=[S [62,61]]) rfl Rw.nil)))))) (Nat.le_of_ble_eq_true rfl)
 replace hS:=hS.bg Y1
 obtain ⟨μ4,le18,m17,hS⟩:=Sep.frzBlk (l:=([[43],[45]]:List (List UInt8))) hS (Rw.cons (α:=List UInt8) (cs:=[S [43]]) rfl (Rw.cons (α:=List UInt8) (cs:=[S [45]]) rfl Rw.nil)) (Nat.le_of_ble_eq_true rfl)
 obtain ⟨μ5,le20,m19,hS⟩:=Sep.frzBlk (l:=([[42],[47],[37]]:List (List UInt8))) hS (Rw.cons (α:=List UInt8) (cs:=[S [42]]) rfl (Rw.cons (α:=List UInt8) (cs:=[S [47]]) rfl (Rw.cons (α:=List UInt8) (cs:=[S [37]]) rfl Rw.nil))) (Nat.le_of_ble_eq_true rfl)
 refine wl (s_bsl underlying100 ti64 (Parts.s (et d9) rfl (Parts.s (et (k10 d0)) rfl (Parts.s (et (k10 d1)) rfl (Parts.s (et (k10 d2)) rfl (Parts.s (et (k10 d3)) rfl Parts.z))))) rfl rfl hS ?_); clear hS; intro b21 w6 hb22 hS; refine po ?_
 refine st (nx ?_)
 refine wl (s_bsl underlying101 ti3 (Parts.s ec rfl (Parts.s ec rfl (Parts.s ec rfl (Parts.s ec rfl (Parts.s ec rfl Parts.z))))) rfl rfl hS ?_); clear hS; intro b23 w7 hb24 hS; refine po ?_
 refine st (ny (nz ?_))
 iterate 2 refine st ?_
 obtain ⟨i25,g26,h⟩:=bI h
 refine wl (su (u_subc (et (k10 d7)) ec g26) (dt (q10 p8)) ?_)
 replace hS:=hS.bg Y1
 obtain ⟨μ6,le28,m27,hS⟩:=Sep.frzBlk (l:=([[[111,114]],[[97,110,100]],[[61,61],[33,61],[60],[60,61],[62],[62,61]],[[43],[45]],[[42],[47],[37]]]:List (List (List UInt8)))) hS (Rw.cons (α:=List (List UInt8)) (cs:=[.slice (some ⟨b1,0,none⟩) 1 1]) ⟨(some ⟨b1,0,none⟩),1,rfl,(m11.up (le14.t (le16.t (le18.t le20))))⟩ (Rw.cons (α:=List (List UInt8)) (cs:=[.slice (some ⟨b3,0,none⟩) 1 1]) ⟨(some ⟨b3,0,none⟩),1,rfl,(m13.up (le16.t (le18.t le20)))⟩ (Rw.cons (α:=List (List UInt8)) (cs:=[.slice (some ⟨b5,0,none⟩) 6 6]) ⟨(some ⟨b5,0,none⟩),6,rfl,(m15.up (le18.t le20))⟩ (Rw.cons (α:=List (List UInt8)) (cs:=[.slice (some ⟨b7,0,none⟩) 2 2]) ⟨(some ⟨b7,0,none⟩),2,rfl,(m17.up le20)⟩ (Rw.cons (α:=List (List UInt8)) (cs:=[.slice (some ⟨b9,0,none⟩) 3 3]) ⟨(some ⟨b9,0,none⟩),3,rfl,m19⟩ Rw.nil))))) (Nat.le_of_ble_eq_true rfl)
 obtain ⟨x29,g30,h⟩:=bI h
 obtain ⟨b31,o32,cs33,e34,f35,m36⟩:=SlR.elem m27 g30
 obtain ⟨a37,c38,rfl,m39⟩:=m36
 refine wl (su (u_iax underlying100 ti64 (et (k10 d6)) (et (k10 d8)) e34) (dt (q10 p9)) (ld ((f35 _ hS.a).one d0) (wl (su (u_lensl underlying64 (et (k20 d0))) (dt (q20 p1)) (st (nw (cblock ?_)))))))
 obtain ⟨μ7,le41,m40,hS⟩:=Sep.frzBlk (l:=([18,17,11,6,8]:List Int)) hS (Rw.cons (α:=Int) (cs:=[.int .i64 18]) rfl (Rw.cons (α:=Int) (cs:=[.int .i64 17]) rfl (Rw.cons (α:=Int) (cs:=[.int .i64 11]) rfl (Rw.cons (α:=Int) (cs:=[.int .i64 6]) rfl (Rw.cons (α:=Int) (cs:=[.int .i64 8]) rfl Rw.nil))))) (Nat.le_of_ble_eq_true rfl)
 refine cloopE ([4]++rg 7 2++rg 23 15) (by decide) (fun n m w=>∃ μx i65,m=(yK4 (yO1 4 (yK2 (yO2 7 (yK10 (yK3 (.i (.int .i64 i65)::(yO10 23 (yO5 33 [])))))))))∧r2_sign_l1 p_1 p_2 x29 n i65=some r∧Le μ7 μx∧Sq μx w0 w (rsF)) (by rintro _ _ _ ⟨_,_,rfl,_⟩; rfl) _ _ (aK4 (aO1 (aK2 (aO2 (aK10 (aK3 (aI (aO10 (aO5 aZ))))))))) ⟨_,0,rfl,h,Le.r,hS⟩ ?_
 rintro n_1 _ t w8 ⟨μ8,i65,rfl,h,le88,hS⟩
 rcases n_1 with _|n_1
 cases h
 unfold r2_sign_l1 at h
 refine cnrm (mK4 (mO1 (mK2 (mO2 (mK10 (mK3 (mi (mO10 (mO5 mz))))))))) (nz (st (ny ?_)))
 refine zCd h ?_ ?_
 intro h89 h
 refine cskip (xn (cseq (cblock (nz (st ?_)))))
 obtain ⟨x90,g91,h⟩:=bI h
 obtain ⟨b92,o93,cs94,e95,f96,m97⟩:=SlR.elem (m39.up (le41.t le88)) g91
 obtain rfl:=m97
 refine wl (su (u_iax underlying64 ti9 (et (k20 d0)) (et (k20 d2)) e95) (dt (q20 p5)) (ld ((f96 _ hS.a).one d0) ?_))
 iterate 2 refine st ?_
 refine nx ?_
 iterate 2 refine st ?_
 refine wl (su (u_eqs (et (k20 d7)) (et (k20 d8))) (dt (q20 p9)) (nw ?_))
 refine zCd h ?_ ?_
 intro h98 h
 refine nz ?_
 iterate 2 refine st ?_
 obtain ⟨i99,g100,h⟩:=bI h
 refine wl (su (u_subc (et (k30 d1)) ec g100) (dt (q30 p2)) ?_)
 obtain ⟨x101,g102,h⟩:=bI h
 obtain ⟨b103,o104,cs105,e106,f107,m108⟩:=SlR.elem (m40.up le88) g102
 obtain rfl:=m108
 refine wl (su (u_iax underlying101 ti3 (et (k30 d0)) (et (k30 d2)) e106) (dt (q30 p3)) (ld ((f107 _ hS.a).one d0) (st ?_)))
 obtain ⟨i109,g110,h⟩:=bI h
 refine wl (su (u_addc (et (k30 d4)) (et (k30 d5)) g110) (dt (q30 p6)) (st (nw (cret ?_))))
 refine (fun h=>br (xr (xr (br (xr h))))) ?_
 obtain rfl:=oI h
 refine ret1 rfl d4 ?_
 exact ⟨_,rfl,(le12.t (le14.t (le16.t (le18.t (le20.t (le28.t (le41.t le88))))))),hS⟩
 intro h98 h
 refine cskip ?_
 refine (fun h=>bn (xn h)) ?_
 refine creg ?_
 obtain ⟨i111,g112,h⟩:=bI h
 refine wl (su (u_addc (et (k20 d2)) ec g112) (dt (q30 p7)) (st (wnil (xl ?_))))
 exact ⟨n_1,_,_,rfl,(aK4 (aO1 (aK2 (aO2 (aK10 (aK3 (aI (aO10 (aO5 aZ))))))))),⟨_,i111,rfl,h,le88,hS⟩,Nat.lt_succ_self _⟩
 intro h89 h
 refine cexit ?_
 refine (fun h=>xe (xe (bh h))) ?_
 refine xn (nz (st (nw (cret ?_))))
 obtain rfl:=oI h
 refine ret1 rfl d4 ?_
 exact ⟨_,rfl,(le12.t (le14.t (le16.t (le18.t (le20.t (le28.t (le41.t le88))))))),hS⟩
def r2_text_S (q:TExpr→Int→Option (List UInt8)):Prop:=∀ {μ0:M} {w0 w:World} {rsF:List Res} (hg:Le Gm μ0) {p_1:TExpr} {a1:Option Addr} {c2:Nat} {p_2:Int} {r:List UInt8} (m3:Sl μ0 a1 c2 p_1.Kids) (h:q p_1 p_2=some r) (hS:Sq μ0 w0 w (rsF)),CallsV prog 20 [.agg ⟨[.int .i64 p_1.Kind,.int .i64 p_1.N,S p_1.Name,.slice a1 p_1.Kids.length c2]⟩,.int .i64 p_2] w (fun v w'=>∃ (μ':M) ,v=S r∧Le μ0 μ'∧Sq μ' w0 w' (rsF))
def r2_args_S (q:(List TExpr)→Option (List UInt8)):Prop:=∀ {μ0:M} {w0 w:World} {rsF:List Res} (hg:Le Gm μ0) {p_1:List TExpr} {a1:Option Addr} {c2:Nat} {r:List UInt8} (m3:Sl μ0 a1 c2 p_1) (h:q p_1=some r) (hS:Sq μ0 w0 w (rsF)),CallsV prog 34 [.slice a1 p_1.length c2] w (fun v w'=>∃ (μ':M) ,v=S r∧Le μ0 μ'∧Sq μ' w0 w' (rsF))
structure R2TSound (sf:R2T):Prop where
  r2_text:r2_text_S sf.r2_text
  r2_args:r2_args_S sf.r2_args
theorem r2_text_w {fu:Nat} {self:R2T} (IH:R2TSound self):r2_text_S (r2_text fu self):=by
 intro μ0 w0 w rsF hg p_1 a1 c2 p_2 r m3 h hS
 unfold r2_text at h
 refine enter func20 rfl (frm:=_::_::u1 (u10 (u20 (u50 (u50 []))))) rfl (nz ?_)
 refine wl (s_box (et d0) rfl hS ?_); clear hS; intro b4 w1 hb5 hS; refine po ?_
 refine st (nx ?_)
 iterate 2 refine st ?_
 refine ny (nz (st (ld ((hS.blk d0).cell d0) (nw ?_))))
 refine ccutE ([7]++rg 9 2++rg 13 113) (by decide +kernel) (fun m w=>∃ μx s6 i7,m=(yK5 (.i (S s6)::(.i (.int .i64 i7)::(yO1 7 (yK1 (yO2 9 (yK2 (yO50 13 (yO50 63 (yO10 113 (yO3 123 [])))))))))))∧r2_text_j1 p_2 s6 i7=some r∧Le μ0 μx∧Sq μx w0 w (rsF)) (by rintro _ _ ⟨_,_,_,rfl,_⟩; rfl) ?_ ?_
 refine cblock (nz ?_)
 iterate 2 refine st ?_
 refine nw ?_
 refine zCd h ?_ ?_
 intro h8 h
 refine creg (st (ld ((hS.blk d0).cell d1) ?_))
 obtain ⟨s9,g10,h⟩:=bI h
 refine wl (s_callv isfn33 ef (e1 (et (k50 d4)) (e1 ec e0)) (fmt_w hg g10 hS) ?_); clear hS; rintro _ w2 ⟨rfl,hS⟩; refine po ?_
 obtain ⟨s11,g12,h⟩:=bI h
 refine wl (su (u_catc (et (k50 d5)) ec g12) (dt (q50 p6)) (st (wnil ?_)))
 refine (fun h=>bn (xl h)) ?_
 replace hS:=hS.drop Rm.z
 exact ⟨_,_,rfl,(aK5 (aI (aI (aO1 (aK1 (aO2 (aK2 (aO50 (aO50 (aO10 (aO3 aZ))))))))))),_,_,7,rfl,h,Le.r,hS⟩
 intro h8 h
 refine nz ?_
 iterate 2 refine st ?_
 refine nw ?_
 refine zCd h ?_ ?_
 intro h13 h
 refine nz (st (nx (st (ld ((hS.blk d0).cell d1) (st (nw ?_))))))
 refine zCd h ?_ ?_
 intro h14 h
 refine creg (st (wnil ?_))
 refine (fun h=>bn (xl h)) ?_
 replace hS:=hS.drop Rm.z
 exact ⟨_,_,rfl,(aK5 (aI (aI (aO1 (aK1 (aO2 (aK2 (aO50 (aO50 (aO10 (aO3 aZ))))))))))),_,[116,114,117,101,32],7,rfl,h,Le.r,hS⟩
 intro h14 h
 refine cskip ?_
 refine (fun h=>bn (xl h)) ?_
 replace hS:=hS.drop Rm.z
 exact ⟨_,_,rfl,(aK5 (aI (aI (aO1 (aK1 (aO2 (aK2 (aO50 (aO50 (aO10 (aO3 aZ))))))))))),_,[102,97,108,115,101,32],7,rfl,h,Le.r,hS⟩
 intro h13 h
 refine nz ?_
 iterate 2 refine st ?_
 refine nw ?_
 refine zCd h ?_ ?_
 intro h15 h
 refine creg (st (ld ((hS.blk d0).cell d2) ?_))
 obtain ⟨s16,g17,h⟩:=bI h
 refine wl (su (u_catc (et (k60 d5)) ec g17) (dt (q60 p6)) (st (wnil ?_)))
 refine (fun h=>bn (xl h)) ?_
 replace hS:=hS.drop Rm.z
 exact ⟨_,_,rfl,(aK5 (aI (aI (aO1 (aK1 (aO2 (aK2 (aO50 (aO50 (aO10 (aO3 aZ))))))))))),_,_,7,rfl,h,Le.r,hS⟩
 intro h15 h
 refine nz ?_
 iterate 2 refine st ?_
 refine nw ?_
 refine zCd h ?_ ?_
 intro h18 h
 refine creg (st (ld ((hS.blk d0).cell d3) ?_))
 obtain ⟨x19,g20,h⟩:=bI h
 obtain ⟨b21,o22,cs23,e24,f25,m26⟩:=SlR.elem m3 g20
 obtain ⟨a27,c28,rfl,m29⟩:=TExpr.o m26
 refine wl (su (u_iax underlying65 ti67 (et (k70 d0)) ec e24) (dt (q70 p1)) (lds (f25 _ hS.a) rfl ?_))
 obtain ⟨r30,g31,h⟩:=bI h
 refine ca (IH.r2_text hg m29 g31 hS) ?_
 rintro _ w3 ⟨μ1,rfl,le32,hS⟩
 refine po ?_
 obtain ⟨s33,g34,h⟩:=bI h
 refine wl (su (u_catc ec (et (k70 d3)) g34) (dt (q70 p4)) ?_)
 iterate 2 refine st ?_
 refine wnil ?_
 refine (fun h=>bn (xl h)) ?_
 replace hS:=hS.drop Rm.z
 exact ⟨_,_,rfl,(aK5 (aI (aI (aO1 (aK1 (aO2 (aK2 (aO50 (aO50 (aO10 (aO3 aZ))))))))))),_,_,6,rfl,h,le32,hS⟩
 intro h18 h
 refine nz ?_
 iterate 2 refine st ?_
 refine nw ?_
 refine zCd h ?_ ?_
 intro h35 h
 refine creg (st (ld ((hS.blk d0).cell d3) ?_))
 obtain ⟨x36,g37,h⟩:=bI h
 obtain ⟨b38,o39,cs40,e41,f42,m43⟩:=SlR.elem m3 g37
 obtain ⟨a44,c45,rfl,m46⟩:=TExpr.o m43
 refine wl (su (u_iax underlying65 ti67 (et (k70 d8)) ec e41) (dt (q70 p9)) (lds (f42 _ hS.a) rfl ?_))
 obtain ⟨r47,g48,h⟩:=bI h
 refine ca (IH.r2_text hg m46 g48 hS) ?_
 rintro _ w4 ⟨μ2,rfl,le49,hS⟩
 refine po ?_
 obtain ⟨s50,g51,h⟩:=bI h
 refine wl (su (u_catc ec (et (k80 d1)) g51) (dt (q80 p2)) ?_)
 iterate 2 refine st ?_
 refine wnil ?_
 refine (fun h=>bn (xl h)) ?_
 replace hS:=hS.drop Rm.z
 exact ⟨_,_,rfl,(aK5 (aI (aI (aO1 (aK1 (aO2 (aK2 (aO50 (aO50 (aO10 (aO3 aZ))))))))))),_,_,6,rfl,h,le49,hS⟩
 intro h35 h
 refine nz ?_
 iterate 2 refine st ?_
 refine nw ?_
 refine zCd h ?_ ?_
 intro h52 h
 refine ccutE (rg 85 7) (by decide) (fun m w=>∃ μx s53,m=(yK5 (.i (S s53)::(yK50 (yK20 (yK9 (yO7 85 []))))))∧r2_text_j2 p_2 s53=some r∧Le μ0 μx∧Sq μx w0 w (rsF)) (by rintro _ _ ⟨_,_,rfl,_⟩; rfl) ?_ ?_
 refine cdw hS ?_; clear hS; intro w5 hS
 refine sf_start (fpi 0 [0,1,2,6,7] rfl (fr_ 1 [1,2,6,7] rfl (u_load ti9 (et (k80 d5)) ((hS.blk d0).cell d2)) (q80 p6) ?_))
 obtain ⟨s54,g55,h⟩:=bI h
 refine fp 2 [2,6,7] rfl (u_catc (et (k80 d6)) ec g55) (q80 p7) (fpi 3 [3,4,5,6,7] rfl (fr_ 4 [4,5,6,7] rfl (u_load ti65 (et (k80 d8)) ((hS.blk d0).cell d3)) (q80 p9) ?_))
 obtain ⟨r56,g57,h⟩:=bI h
 refine sf1 rfl rfl rfl rfl (wn0 rfl) (s_callv isfn34 ef (e1 (et (k80 d9)) e0) (IH.r2_args hg m3 g57 hS) ?_)
 rintro _ w6 ⟨μ3,rfl,le58,hS⟩
 refine po ?_
 refine ⟨(Mons.s (u_load ti9 (et (k80 d5)) ((hS.blk d0).cell d2)) Mons.z),?_⟩
 obtain ⟨s59,g60,h⟩:=bI h
 refine fp 6 [6,7] rfl (u_catc (et (k80 d7)) (et (k90 d0)) g60) (q90 p1) (fpi 7 [7] rfl (sf_nil (xl ?_)))
 replace hS:=hS.drop Rm.z
 exact ⟨_,_,rfl,(aK5 (aI (aK50 (aK20 (aK9 (aO7 aZ)))))),_,_,rfl,h,le58,hS⟩
 rintro _ t w7 ⟨μ4,s53,rfl,h,le61,hS⟩
 unfold r2_text_j2 at h
 refine nrm (mK5 (mi (mK50 (mK20 (mK9 (mO7 mz)))))) ?_
 refine (fun h=>bn (xl h)) ?_
 exact ⟨_,_,rfl,(aK5 (aI (aI (aO1 (aK1 (aO2 (aK2 (aO50 (aO50 (aO10 (aO3 aZ))))))))))),_,_,7,rfl,h,le61,hS⟩
 intro h52 h
 refine nz ?_
 iterate 2 refine st ?_
 refine nw ?_
 refine zCd h ?_ ?_
 intro h62 h
 refine creg (st (ld ((hS.blk d0).cell d2) ?_))
 obtain ⟨s63,g64,h⟩:=bI h
 refine wl (su (u_catc ec (et (k90 d5)) g64) (dt (q90 p6)) ?_)
 obtain ⟨s65,g66,h⟩:=bI h
 refine wl (su (u_catc (et (k90 d6)) ec g66) (dt (q90 p7)) (st (wnil ?_)))
 refine (fun h=>bn (xl h)) ?_
 replace hS:=hS.drop Rm.z
 exact ⟨_,_,rfl,(aK5 (aI (aI (aO1 (aK1 (aO2 (aK2 (aO50 (aO50 (aO10 (aO3 aZ))))))))))),_,_,7,rfl,h,Le.r,hS⟩
 intro h62 h
 refine nz ?_
 iterate 2 refine st ?_
 refine nw ?_
 refine zCd h ?_ ?_
 intro h67 h
 refine creg (st (ld ((hS.blk d0).cell d3) ?_))
 obtain ⟨r68,g69,h⟩:=bI h
 refine ca (IH.r2_args hg m3 g69 hS) ?_
 rintro _ w8 ⟨μ5,rfl,le70,hS⟩
 refine po ?_
 obtain ⟨s71,g72,h⟩:=bI h
 refine wl (su (u_catc ec (et (k100 d2)) g72) (dt (q100 p3)) (st (wnil ?_)))
 refine (fun h=>bn (xl h)) ?_
 replace hS:=hS.drop Rm.z
 exact ⟨_,_,rfl,(aK5 (aI (aI (aO1 (aK1 (aO2 (aK2 (aO50 (aO50 (aO10 (aO3 aZ))))))))))),_,_,7,rfl,h,le70,hS⟩
 intro h67 h
 refine nz ?_
 iterate 2 refine st ?_
 refine nw ?_
 refine zCd h ?_ ?_
 intro h73 h
 refine ccutE (rg 106 8) (by decide) (fun m w=>∃ μx s74,m=(yK5 (.i (S s74)::(yK50 (yK50 (yO8 106 [])))))∧r2_text_j3 p_2 s74=some r∧Le μ0 μx∧Sq μx w0 w (rsF)) (by rintro _ _ ⟨_,_,rfl,_⟩; rfl) ?_ ?_
 refine cdw hS ?_; clear hS; intro w9 hS
 refine sf_start (fpi 0 [0,1,2,3,7,8] rfl (fr_ 1 [1,2,3,7,8] rfl (u_load ti9 (et (k100 d6)) ((hS.blk d0).cell d2)) (q100 p7) ?_))
 obtain ⟨s75,g76,h⟩:=bI h
 refine fp 2 [2,3,7,8] rfl (u_catc ec (et (k100 d7)) g76) (q100 p8) ?_
 obtain ⟨s77,g78,h⟩:=bI h
 refine fp 3 [3,7,8] rfl (u_catc (et (k100 d8)) ec g78) (q100 p9) (fpi 4 [4,5,6,7,8] rfl (fr_ 5 [5,6,7,8] rfl (u_load ti65 (et (k100 (k10 d0))) ((hS.blk d0).cell d3)) (q100 (q10 p1)) ?_))
 obtain ⟨r79,g80,h⟩:=bI h
 refine sf1 rfl rfl rfl rfl (wn0 rfl) (s_callv isfn34 ef (e1 (et (k100 (k10 d1))) e0) (IH.r2_args hg m3 g80 hS) ?_)
 rintro _ w10 ⟨μ6,rfl,le81,hS⟩
 refine po ?_
 refine ⟨(Mons.s (u_load ti9 (et (k100 d6)) ((hS.blk d0).cell d2)) Mons.z),?_⟩
 obtain ⟨s82,g83,h⟩:=bI h
 refine fp 7 [7,8] rfl (u_catc (et (k100 d9)) (et (k100 (k10 d2))) g83) (q100 (q10 p3)) (fpi 8 [8] rfl (sf_nil (xl ?_)))
 replace hS:=hS.drop Rm.z
 exact ⟨_,_,rfl,(aK5 (aI (aK50 (aK50 (aO8 aZ))))),_,_,rfl,h,le81,hS⟩
 rintro _ t w11 ⟨μ7,s74,rfl,h,le84,hS⟩
 unfold r2_text_j3 at h
 refine nrm (mK5 (mi (mK50 (mK50 (mO8 mz))))) ?_
 refine (fun h=>bn (xl h)) ?_
 exact ⟨_,_,rfl,(aK5 (aI (aI (aO1 (aK1 (aO2 (aK2 (aO50 (aO50 (aO10 (aO3 aZ))))))))))),_,_,7,rfl,h,le84,hS⟩
 intro h73 h
 refine nz ?_
 iterate 2 refine st ?_
 refine nw ?_
 refine zCd h ?_ ?_
 intro h85 h
 refine creg (st (ld ((hS.blk d0).cell d3) ?_))
 obtain ⟨r86,g87,h⟩:=bI h
 refine ca (IH.r2_args hg m3 g87 hS) ?_
 rintro _ w12 ⟨μ8,rfl,le88,hS⟩
 refine po ?_
 obtain ⟨s89,g90,h⟩:=bI h
 refine wl (su (u_catc ec (et (k100 (k10 d8))) g90) (dt (q100 (q10 p9))) (st (wnil ?_)))
 refine (fun h=>bn (xl h)) ?_
 replace hS:=hS.drop Rm.z
 exact ⟨_,_,rfl,(aK5 (aI (aI (aO1 (aK1 (aO2 (aK2 (aO50 (aO50 (aO10 (aO3 aZ))))))))))),_,_,7,rfl,h,le88,hS⟩
 intro h85 h
 refine nz ?_
 iterate 2 refine st ?_
 refine nw ?_
 refine zCd h ?_ ?_
 intro h91 h
 refine creg (st (ld ((hS.blk d0).cell d3) ?_))
 obtain ⟨r92,g93,h⟩:=bI h
 refine ca (IH.r2_args hg m3 g93 hS) ?_
 rintro _ w13 ⟨μ9,rfl,le94,hS⟩
 refine po ?_
 obtain ⟨s95,g96,h⟩:=bI h
 refine wl (su (u_catc ec (et (k100 (k20 d4))) g96) (dt (q100 (q20 p5))) (st (wnil ?_)))
 refine (fun h=>bn (xl h)) ?_
 replace hS:=hS.drop Rm.z
 exact ⟨_,_,rfl,(aK5 (aI (aI (aO1 (aK1 (aO2 (aK2 (aO50 (aO50 (aO10 (aO3 aZ))))))))))),_,_,7,rfl,h,le94,hS⟩
 intro h91 h
 refine nz (st (nw (cblock ?_)))
 refine cloopE (rg 9 2++rg 13 38) (by decide +kernel) (fun n m w=>∃ μx s262 i263 i264,m=(yK5 (.i (S s262)::(.i (.int .i64 i263)::(.i (.int .i64 i264)::(yK1 (yO2 9 (yK2 (yO20 13 (yO10 33 (yO8 43 []))))))))))∧r2_text_l1 self p_1 p_2 n s262 i263 i264=some r∧Le μ0 μx∧Sq μx w0 w (.blk b4 67 [.int .i64 p_1.Kind,.int .i64 p_1.N,S p_1.Name,.slice a1 p_1.Kids.length c2]::rsF)) (by rintro _ _ _ ⟨_,_,_,_,rfl,_⟩; rfl) _ _ (aK5 (aI (aI (aI (aK1 (aO2 (aK2 (aO20 (aO10 (aO8 aZ)))))))))) ⟨_,[],7,1,rfl,h,Le.r,hS⟩ ?_
 rintro n_1 _ t w14 ⟨μ10,s262,i263,i264,rfl,h,le430,hS⟩
 rcases n_1 with _|n_1
 cases h
 unfold r2_text_l1 at h
 refine cnrm (mK5 (mi (mi (mi (mK1 (mO2 (mK2 (mO20 (mO10 (mO8 mz)))))))))) (cseq (nz ?_))
 iterate 2 refine st ?_
 refine nw ?_
 refine zCd h ?_ ?_
 intro h431 h
 refine cskip (xn (cseq (cblock (nz ?_))))
 refine wl (s_bsl underlying64 ti9 (Parts.s ec rfl (Parts.s ec rfl (Parts.s ec rfl (Parts.s ec rfl (Parts.s ec rfl (Parts.s ec rfl (Parts.s ec rfl (Parts.s ec rfl (Parts.s ec rfl (Parts.s ec rfl (Parts.s ec rfl (Parts.s ec rfl (Parts.s ec rfl Parts.z))))))))))))) rfl rfl hS ?_); clear hS; intro b432 w15 hb433 hS; refine po ?_
 refine wl (su (u_lensl underlying64 (et (k10 d7))) (dt (q10 p8)) (st (nw (cblock ?_))))
 obtain ⟨μ11,le435,m434,hS⟩:=Sep.frzBlk (l:=([[111,114],[97,110,100],[61,61],[33,61],[60],[60,61],[62],[62,61],[43],[45],[42],[47],[37]]:List (List UInt8))) hS (Rw.cons (α:=List UInt8) (cs:=[S [111,114]]) rfl (Rw.cons (α:=List UInt8) (cs:=[S [97,110,100]]) rfl (Rw.cons (α:=List UInt8) (cs:=[S [61,61]]) rfl (Rw.cons (α:=List UInt8) (cs:=[S [33,61]]) rfl (Rw.cons (α:=List UInt8) (cs:=[S [60]]) rfl (Rw.cons (α:=List UInt8) (cs:=[S [60,61]]) rfl (Rw.cons (α:=List UInt8) (cs:=[S [62]]) rfl (Rw.cons (α:=List UInt8) (cs:=[S [62,61]]) rfl (Rw.cons (α:=List UInt8) (cs:=[S [43]]) rfl (Rw.cons (α:=List UInt8) (cs:=[S [45]]) rfl (Rw.cons (α:=List UInt8) (cs:=[S [42]]) rfl (Rw.cons (α:=List UInt8) (cs:=[S [47]]) rfl (Rw.cons (α:=List UInt8) (cs:=[S [37]]) rfl Rw.nil))))))))))))) (Nat.le_of_ble_eq_true rfl)
 refine cloopE (rg 9 2++rg 20 31) (by decide +kernel) (fun n m w=>∃ μx s488 i489 i490,m=(yK5 (.i (S s488)::(.i (.int .i64 i489)::(yK2 (yO2 9 (yK8 (.i (.int .i64 i490)::(yO20 20 (yO10 40 (yO1 50 []))))))))))∧r2_text_l2 self p_1 i264 (r2_text_l1 self p_1 p_2 n_1) n s488 i489 i490=some r∧Le μ11 μx∧Sq μx w0 w (.blk b4 67 [.int .i64 p_1.Kind,.int .i64 p_1.N,S p_1.Name,.slice a1 p_1.Kids.length c2]::rsF)) (by rintro _ _ _ ⟨_,_,_,_,rfl,_⟩; rfl) _ _ (aK5 (aI (aI (aK2 (aO2 (aK8 (aI (aO20 (aO10 (aO1 aZ)))))))))) ⟨_,s262,i263,0,rfl,h,Le.r,hS⟩ ?_
 rintro n_2 _ t w16 ⟨μ12,s488,i489,i490,rfl,h,le543,hS⟩
 rcases n_2 with _|n_2
 cases h
 unfold r2_text_l2 at h
 refine cnrm (mK5 (mi (mi (mK2 (mO2 (mK8 (mi (mO20 (mO10 (mO1 mz)))))))))) (nz (st (ny ?_)))
 refine zCd h ?_ ?_
 intro h544 h
 refine cskip (xn (cseq (cblock (nz ?_))))
 obtain ⟨x545,g546,h⟩:=bI h
 obtain ⟨b547,o548,cs549,e550,f551,m552⟩:=SlR.elem (m434.up le543) g546
 obtain rfl:=m552
 refine wl (su (u_iax underlying64 ti9 (et (k10 d7)) (et (k10 d9)) e550) (dt (q20 p1)) (ld ((f551 _ hS.a).one d0) (st (ny ?_))))
 refine ccutE (rg 23 5) (by decide) (fun m w=>∃ μx b553,m=(yK20 (yK3 (yO5 23 (.i (.bool b553)::[]))))∧r2_text_j4 self p_1 i264 s488 i489 i490 x545 (r2_text_l2 self p_1 i264 (r2_text_l1 self p_1 p_2 n_1) n_2) b553=some r∧Le μ12 μx∧Sq μx w0 w (.blk b4 67 [.int .i64 p_1.Kind,.int .i64 p_1.N,S p_1.Name,.slice a1 p_1.Kids.length c2]::rsF)) (by rintro _ _ ⟨_,_,rfl,_⟩; rfl) ?_ ?_
 refine cdw hS ?_; clear hS; intro w17 hS
 refine sf_start (fpi 0 [0,2,5] rfl (fpi 1 [1,2,5] rfl (fpi 3 [3,4,5] rfl (fr_ 4 [4,5] rfl (u_load ti3 (et (k20 d6)) ((hS.blk d0).cell d0)) (q20 p7) ?_))))
 obtain ⟨r554,g555,h⟩:=bI h
 refine sf1 rfl rfl rfl rfl (wn0 rfl) (s_callv isfn35 ef (e1 (et (k20 d3)) (e1 (et (k20 d4)) e0)) (r2_sign_w (hg.t (le430.t (le435.t le543))) g555 hS) ?_)
 rintro _ w18 ⟨μ13,rfl,le556,hS⟩
 refine po ?_
 refine ⟨(Mons.s (u_load ti3 (et (k20 d6)) ((hS.blk d0).cell d0)) Mons.z),?_⟩
 refine fpi 5 [5] rfl (sf_nil (xl ?_))
 exact ⟨_,_,rfl,(aK20 (aK3 (aO5 (aI aZ)))),_,(decide (r554=p_1.Kind)),rfl,h,le556,hS⟩
 rintro _ t w19 ⟨μ14,b553,rfl,h,le557,hS⟩
 unfold r2_text_j4 at h
 refine nrm (mK20 (mK3 (mO5 (mi mz)))) (xn ?_)
 refine zCb h ?_ ?_
 intro h558 h
 refine nz ?_
 iterate 2 refine st ?_
 refine nx ?_
 iterate 2 refine st ?_
 refine ny (nz ?_)
 iterate 2 refine st ?_
 refine nw ?_
 refine ccutE ([]) (by decide) (fun m w=>∃ μx i559,m=(yK10 (.i (.int .i64 i559)::[]))∧r2_text_j5 self p_1 i264 i490 x545 (r2_text_l2 self p_1 i264 (r2_text_l1 self p_1 p_2 n_1) n_2) i559=some r∧Le μ14 μx∧Sq μx w0 w (.blk b4 67 [.int .i64 p_1.Kind,.int .i64 p_1.N,S p_1.Name,.slice a1 p_1.Kids.length c2]::rsF)) (by rintro _ _ ⟨_,_,rfl,_⟩; rfl) ?_ ?_
 refine zCd h ?_ ?_
 intro h560 h
 refine creg (st (wnil (xl ?_)))
 exact ⟨_,_,rfl,(aK10 (aI aZ)),_,4,rfl,h,Le.r,hS⟩
 intro h560 h
 refine cskip (xl ?_)
 exact ⟨_,_,rfl,(aK10 (aI aZ)),_,_,rfl,h,Le.r,hS⟩
 rintro _ t w20 ⟨μ15,i559,rfl,h,le561,hS⟩
 unfold r2_text_j5 at h
 refine nrm (mK10 (mi mz)) (xn ?_)
 refine ccutE (rg 33 17) (by decide) (fun m w=>∃ μx s562,m=(yK5 (.i (S s562)::(yK20 (yK7 (yO10 33 (yO7 43 []))))))∧r2_text_j6 i264 i490 (r2_text_l2 self p_1 i264 (r2_text_l1 self p_1 p_2 n_1) n_2) s562=some r∧Le μ15 μx∧Sq μx w0 w (.blk b4 67 [.int .i64 p_1.Kind,.int .i64 p_1.N,S p_1.Name,.slice a1 p_1.Kids.length c2]::rsF)) (by rintro _ _ ⟨_,_,rfl,_⟩; rfl) ?_ ?_
 refine cdw hS ?_; clear hS; intro w21 hS
 refine sf_start (fpi 0 [0,1,2,3,5,7,8,15,16,17] rfl (fr_ 1 [1,2,3,5,7,8,15,16,17] rfl (u_load ti65 (et (k30 d3)) ((hS.blk d0).cell d3)) (q30 p4) ?_))
 obtain ⟨x563,g564,h⟩:=bI h
 obtain ⟨b565,o566,cs567,e568,f569,m570⟩:=SlR.elem (m3.up (le430.t (le435.t (le543.t (le557.t le561))))) g564
 obtain ⟨a571,c572,rfl,m573⟩:=TExpr.o m570
 refine fp 2 [2,3,5,7,8,15,16,17] rfl (u_iax underlying65 ti67 (et (k30 d4)) ec e568) (q30 p5) (fr_ 3 [3,5,7,8,15,16,17] rfl (u_loads ti67 (et (k30 d5)) (f569 _ hS.a) rfl) (q30 p6) (fpi 4 [4,5,7,8,15,16,17] rfl (fpi 6 [6,7,8,16,17] rfl (fpi 9 [9,10,11,12,15,16,17] rfl (fr_ 10 [10,11,12,15,16,17] rfl (u_load ti65 (et (k40 d2)) ((hS.blk d0).cell d3)) (q40 p3) ?_)))))
 obtain ⟨x574,g575,h⟩:=bI h
 obtain ⟨b576,o577,cs578,e579,f580,m581⟩:=SlR.elem (m3.up (le430.t (le435.t (le543.t (le557.t le561))))) g575
 obtain ⟨a582,c583,rfl,m584⟩:=TExpr.o m581
 refine fp 11 [11,12,15,16,17] rfl (u_iax underlying65 ti67 (et (k40 d3)) ec e579) (q40 p4) (fr_ 12 [12,15,16,17] rfl (u_loads ti67 (et (k40 d4)) (f580 _ hS.a) rfl) (q40 p5) (fpi 13 [13,14,15,16,17] rfl ?_))
 obtain ⟨i585,g586,h⟩:=bI h
 refine fp 14 [14,15,16,17] rfl (u_addc (et (k40 d6)) ec g586) (q40 p7) ?_
 obtain ⟨r587,g588,h⟩:=bI h
 refine sf1 rfl rfl rfl rfl (wn0 rfl) (s_callv isfn20 ef (e1 (et (k30 d6)) (e1 (et (k30 d7)) e0)) (IH.r2_text (hg.t (le430.t (le435.t (le543.t (le557.t le561))))) m573 g588 hS) ?_)
 rintro _ w22 ⟨μ16,rfl,le589,hS⟩
 refine po ?_
 refine ⟨(Mons.s (u_loads ti67 (et (k40 d4)) (f580 _ (le589 _ hS.a)) rfl) (Mons.s (u_load ti65 (et (k40 d2)) ((hS.blk d0).cell d3)) Mons.z)),?_⟩
 obtain ⟨s590,g591,h⟩:=bI h
 refine fp 7 [7,8,16,17] rfl (u_catc (et (k30 d8)) (et (k30 d9)) g591) (q40 p0) ?_
 obtain ⟨s592,g593,h⟩:=bI h
 refine fp 8 [8,16,17] rfl (u_catc (et (k40 d0)) ec g593) (q40 p1) ?_
 obtain ⟨r594,g595,h⟩:=bI h
 refine sf1 rfl rfl rfl rfl (wn0 rfl) (s_callv isfn20 ef (e1 (et (k40 d5)) (e1 (et (k40 d7)) e0)) (IH.r2_text (hg.t (le430.t (le435.t (le543.t (le557.t (le561.t le589)))))) (m584.up le589) g595 hS) ?_)
 rintro _ w23 ⟨μ17,rfl,le596,hS⟩
 refine po ?_
 refine ⟨Mons.z,?_⟩
 obtain ⟨s597,g598,h⟩:=bI h
 refine fp 16 [16,17] rfl (u_catc (et (k40 d1)) (et (k40 d8)) g598) (q40 p9) (fpi 17 [17] rfl (sf_nil (xl ?_)))
 exact ⟨_,_,rfl,(aK5 (aI (aK20 (aK7 (aO10 (aO7 aZ)))))),_,_,rfl,h,(le589.t le596),hS⟩
 rintro _ t w24 ⟨μ18,s562,rfl,h,le599,hS⟩
 unfold r2_text_j6 at h
 refine nrm (mK5 (mi (mK20 (mK7 (mO10 (mO7 mz)))))) ?_
 refine (fun h=>bn (xn h)) ?_
 refine creg ?_
 obtain ⟨i600,g601,h⟩:=bI h
 refine wl (su (u_addc (et (k10 d9)) ec g601) (dt (q50 p0)) (st (wnil (xl ?_))))
 exact ⟨n_2,_,_,rfl,(aK5 (aI (aI (aK2 (aO2 (aK8 (aI (aO20 (aO10 (aO1 aZ)))))))))),⟨_,s562,i264,i600,rfl,h,(le543.t (le557.t (le561.t le599))),hS⟩,Nat.lt_succ_self _⟩
 intro h558 h
 refine cskip ?_
 refine (fun h=>bn (xn h)) ?_
 refine creg ?_
 obtain ⟨i602,g603,h⟩:=bI h
 refine wl (su (u_addc (et (k10 d9)) ec g603) (dt (q50 p0)) (st (wnil (xl ?_))))
 exact ⟨n_2,_,_,rfl,(aK5 (aI (aI (aK2 (aO2 (aK8 (aI (aO20 (aO10 (aO1 aZ)))))))))),⟨_,s488,i489,i602,rfl,h,(le543.t le557),hS⟩,Nat.lt_succ_self _⟩
 intro h544 h
 refine cexit ?_
 refine (fun h=>xe (xe (bh h))) ?_
 refine (fun h=>bn (xn h)) ?_
 refine creg (st ?_)
 obtain ⟨i604,g605,h⟩:=bI h
 refine wl (su (u_addc (et (k10 d5)) ec g605) (dt (q10 p6)) (st (wnil (xl ?_))))
 exact ⟨n_1,_,_,rfl,(aK5 (aI (aI (aI (aK1 (aO2 (aK2 (aO20 (aO10 (aO8 aZ)))))))))),⟨_,s488,i489,i604,rfl,h,(le430.t (le435.t le543)),hS⟩,Nat.lt_succ_self _⟩
 intro h431 h
 refine cexit ?_
 refine (fun h=>xe (xe (bh h))) ?_
 refine (fun h=>bn (xl h)) ?_
 replace hS:=hS.drop Rm.z
 exact ⟨_,_,rfl,(aK5 (aI (aI (aO1 (aK1 (aO2 (aK2 (aO50 (aO50 (aO10 (aO3 aZ))))))))))),_,_,_,rfl,h,le430,hS⟩
 rintro _ t w25 ⟨μ19,s6,i7,rfl,h,le606,hS⟩
 unfold r2_text_j1 at h
 refine nrm (mK5 (mi (mi (mO1 (mK1 (mO2 (mK2 (mO50 (mO50 (mO10 (mO3 mz))))))))))) (xn (cseq (nz ?_)))
 iterate 3 refine st ?_
 refine nw ?_
 refine zCd h ?_ ?_
 intro h607 h
 refine nz (st ?_)
 obtain ⟨s608,g609,h⟩:=bI h
 refine wl (su (u_catc ec (et (k100 (k20 d9))) g609) (dt (q100 (q30 p0))) ?_)
 obtain ⟨s610,g611,h⟩:=bI h
 refine wl (su (u_catc (et (k100 (k30 d0))) ec g611) (dt (q100 (q30 p1))) (st (nw (cret (xr ?_)))))
 obtain rfl:=oI h
 refine ret1 rfl d4 ?_
 exact ⟨_,rfl,le606,hS⟩
 intro h607 h
 refine cskip (xn (nz ?_))
 iterate 2 refine st ?_
 refine nw (cret ?_)
 obtain rfl:=oI h
 refine ret1 rfl d4 ?_
 exact ⟨_,rfl,le606,hS⟩
theorem r2_args_w {self:R2T} (IH:R2TSound self):r2_args_S (r2_args self):=by
 intro μ0 w0 w rsF hg p_1 a1 c2 r m3 h hS
 unfold r2_args at h
 refine enter func34 rfl (frm:=_::u1 (u2 (u20 []))) rfl (nz (st (nx (st (ny (nz (st (wl (su (u_lensl underlying65 (et d6)) (dt p7) (st (nw (cblock ?_))))))))))))
 refine cloopE (rg 4 2++rg 9 13) (by decide) (fun n m w=>∃ μx s27 i28,m=(yK3 (.i (S s27)::(yO2 4 (yK2 (.i (.int .i64 i28)::(yO10 9 (yO3 19 [])))))))∧r2_args_l1 self p_1 n s27 i28=some r∧Le μ0 μx∧Sq μx w0 w (rsF)) (by rintro _ _ _ ⟨_,_,_,rfl,_⟩; rfl) _ _ (aK3 (aI (aO2 (aK2 (aI (aO10 (aO3 aZ))))))) ⟨_,[40,32],0,rfl,h,Le.r,hS⟩ ?_
 rintro n_1 _ t w1 ⟨μ1,s27,i28,rfl,h,le52,hS⟩
 rcases n_1 with _|n_1
 cases h
 unfold r2_args_l1 at h
 refine cnrm (mK3 (mi (mO2 (mK2 (mi (mO10 (mO3 mz))))))) (nz (st (ny ?_)))
 refine zCd h ?_ ?_
 intro h53 h
 refine cskip (xn (cseq (cblock (nz (st ?_)))))
 obtain ⟨x54,g55,h⟩:=bI h
 obtain ⟨b56,o57,cs58,e59,f60,m61⟩:=SlR.elem (m3.up le52) g55
 obtain ⟨a62,c63,rfl,m64⟩:=TExpr.o m61
 refine wl (su (u_iax underlying65 ti67 (et d6) (et d8) e59) (dt (q10 p1)) (lds (f60 _ hS.a) rfl ?_))
 refine wl (s_alloc ti67 hS ?_); clear hS; intro b65 w2 hb66 hS; refine po ?_
 refine st (wl (s_storeA ti67 (et d5) (et (k10 d2)) rfl rfl hS d0 rfl p0 dn ?_))
 clear hS; intro w3 hS
 refine ny (nz ?_)
 iterate 2 refine st ?_
 refine nw ?_
 refine ccutE (rg 15 2) (by decide) (fun m w=>∃ μx s67,m=(yK3 (.i (S s67)::(yK10 (yK1 (yO2 15 [])))))∧r2_args_j1 self i28 x54 (r2_args_l1 self p_1 n_1) s67=some r∧Le μ1 μx∧Sq μx w0 w (.blk b65 67 [.int .i64 x54.Kind,.int .i64 x54.N,S x54.Name,.slice a62 x54.Kids.length c63]::rsF)) (by rintro _ _ ⟨_,_,rfl,_⟩; rfl) ?_ ?_
 refine zCd h ?_ ?_
 intro h68 h
 refine creg (st ?_)
 obtain ⟨s69,g70,h⟩:=bI h
 refine wl (su (u_catc (et (k10 d5)) ec g70) (dt (q10 p6)) (st (wnil (xl ?_))))
 exact ⟨_,_,rfl,(aK3 (aI (aK10 (aK1 (aO2 aZ))))),_,_,rfl,h,Le.r,hS⟩
 intro h68 h
 refine cskip (xl ?_)
 exact ⟨_,_,rfl,(aK3 (aI (aK10 (aK1 (aO2 aZ))))),_,_,rfl,h,Le.r,hS⟩
 rintro _ t w4 ⟨μ2,s67,rfl,h,le71,hS⟩
 unfold r2_args_j1 at h
 refine nrm (mK3 (mi (mK10 (mK1 (mO2 mz))))) (xn (creg (st (lds (hS.blk d0).cells rfl ?_))))
 obtain ⟨r72,g73,h⟩:=bI h
 refine ca (IH.r2_text (hg.t (le52.t le71)) (m64.up le71) g73 hS) ?_
 rintro _ w5 ⟨μ3,rfl,le74,hS⟩
 refine po ?_
 obtain ⟨s75,g76,h⟩:=bI h
 refine wl (su (u_catc (et (k10 d7)) (et (k10 d9)) g76) (dt (q20 p0)) (st (wnil ?_)))
 refine (fun h=>bn (xn h)) ?_
 refine creg ?_
 obtain ⟨i77,g78,h⟩:=bI h
 refine wl (su (u_addc (et d8) ec g78) (dt (q20 p1)) (st (wnil (xl ?_))))
 replace hS:=hS.drop Rm.z
 exact ⟨n_1,_,_,rfl,(aK3 (aI (aO2 (aK2 (aI (aO10 (aO3 aZ))))))),⟨_,s75,i77,rfl,h,(le52.t (le71.t le74)),hS⟩,Nat.lt_succ_self _⟩
 intro h53 h
 refine cexit ?_
 refine (fun h=>xe (xe (bh h))) ?_
 refine xn (nz (st ?_))
 obtain ⟨s79,g80,h⟩:=bI h
 refine wl (su (u_catc (et (k20 d2)) ec g80) (dt (q20 p3)) (st (nw (cret ?_))))
 obtain rfl:=oI h
 refine ret1 rfl d2 ?_
 exact ⟨_,rfl,le52,hS⟩
theorem R2T_sound:∀ n,R2TSound (R2T_run n)
  | 0=>⟨(by intro; intros; rename_i h _; cases h),(by intro; intros; rename_i h _; cases h)⟩
  | n+1=>⟨r2_text_w (R2T_sound n),r2_args_w (R2T_sound n)⟩
def r2_body_S (q:(List TStat)→Option (List UInt8)):Prop:=∀ {μ0:M} {w0 w:World} {rsF:List Res} (hg:Le Gm μ0) {p_1:List TStat} {a1:Option Addr} {c2:Nat} {r:List UInt8} (m3:Sl μ0 a1 c2 p_1) (h:q p_1=some r) (hS:Sq μ0 w0 w (rsF)),CallsV prog 13 [.slice a1 p_1.length c2] w (fun v w'=>∃ (μ':M) ,v=S r∧Le μ0 μ'∧Sq μ' w0 w' (rsF))
structure R2BSound (sf:R2B):Prop where
  r2_body:r2_body_S sf.r2_body
theorem r2_body_w {fu:Nat} {self:R2B} (IH:R2BSound self):r2_body_S (r2_body fu self):=by
 intro μ0 w0 w rsF hg p_1 a1 c2 r m3 h hS
 unfold r2_body at h
 refine enter func13 rfl (frm:=_::u1 (u50 (u50 []))) rfl (nz (st (nx (st (ny (nz (st (wl (su (u_lensl underlying42 (et d6)) (dt p7) (st (nw (cblock ?_))))))))))))
 refine cloopE ([5]++rg 9 91) (by decide +kernel) (fun n m w=>∃ μx s79 i80,m=(yK3 (.i (S s79)::(yK1 (yO1 5 (yK2 (.i (.int .i64 i80)::(yO50 9 (yO20 59 (yO20 79 (yO1 99 []))))))))))∧r2_body_l1 fu self p_1 n s79 i80=some r∧Le μ0 μx∧Sq μx w0 w (rsF)) (by rintro _ _ _ ⟨_,_,_,rfl,_⟩; rfl) _ _ (aK3 (aI (aK1 (aO1 (aK2 (aI (aO50 (aO20 (aO20 (aO1 aZ)))))))))) ⟨_,[123,32],0,rfl,h,Le.r,hS⟩ ?_
 rintro n_1 _ t w1 ⟨μ1,s79,i80,rfl,h,le156,hS⟩
 rcases n_1 with _|n_1
 cases h
 unfold r2_body_l1 at h
 refine cnrm (mK3 (mi (mK1 (mO1 (mK2 (mi (mO50 (mO20 (mO20 (mO1 mz)))))))))) (nz (st (ny ?_)))
 refine zCd h ?_ ?_
 intro h157 h
 refine cskip (xn (cseq (cblock (nz ?_))))
 obtain ⟨x158,g159,h⟩:=bI h
 obtain ⟨b160,o161,cs162,e163,f164,m165⟩:=SlR.elem (m3.up le156) g159
 obtain ⟨a166,c167,a169,c170,a172,c173,rfl,m168,m171,m174⟩:=TStat.o m165
 refine wl (su (u_iax underlying42 ti69 (et d6) (et d8) e163) (dt (q10 p0)) (lds (f164 _ hS.a) rfl ?_))
 refine wl (s_alloc ti69 hS ?_); clear hS; intro b175 w2 hb176 hS; refine po ?_
 refine wl (s_storeA ti69 (et d5) (et (k10 d1)) rfl rfl hS d0 rfl p0 dn ?_)
 clear hS; intro w3 hS
 refine ny (nz (st (ld ((hS.blk d0).cell d0) (nw ?_))))
 refine ccutE (rg 14 47) (by decide +kernel) (fun m w=>∃ μx s177,m=(yK3 (.i (S s177)::(yK10 (yO20 14 (yO20 34 (yO7 54 []))))))∧r2_body_j1 fu self i80 x158 (r2_body_l1 fu self p_1 n_1) s177=some r∧Le μ1 μx∧Sq μx w0 w (.blk b175 69 [.int .i64 x158.Kind,S x158.Name,.int .i64 x158.X.Kind,.int .i64 x158.X.N,S x158.X.Name,.slice a166 x158.X.Kids.length c167,.slice a169 x158.Body.length c170,.slice a172 x158.Else.length c173]::rsF)) (by rintro _ _ ⟨_,_,rfl,_⟩; rfl) ?_ ?_
 refine cblock (nz ?_)
 iterate 2 refine st ?_
 refine nw ?_
 refine zCd h ?_ ?_
 intro h178 h
 refine creg (st ?_)
 obtain ⟨s179,g180,h⟩:=bI h
 refine wl (su (u_catc (et (k10 d6)) ec g180) (dt (q10 p7)) (st (ld ((hS.blk d0).cell d1) ?_)))
 obtain ⟨s181,g182,h⟩:=bI h
 refine wl (su (u_catc (et (k10 d7)) (et (k10 d9)) g182) (dt (q20 p0)) ?_)
 obtain ⟨s183,g184,h⟩:=bI h
 refine wl (su (u_catc (et (k20 d0)) ec g184) (dt (q20 p1)) (st (wnil ?_)))
 refine (fun h=>bn (xl h)) ?_
 exact ⟨_,_,rfl,(aK3 (aI (aK10 (aO20 (aO20 (aO7 aZ)))))),_,_,rfl,h,Le.r,hS⟩
 intro h178 h
 refine nz ?_
 iterate 2 refine st ?_
 refine nw ?_
 refine zCd h ?_ ?_
 intro h185 h
 refine creg ?_
 iterate 2 refine st ?_
 refine ld ((hS.blk d0).cell d1) ?_
 obtain ⟨s186,g187,h⟩:=bI h
 refine wl (su (u_catc (et (k20 d4)) (et (k20 d6)) g187) (dt (q20 p7)) ?_)
 obtain ⟨s188,g189,h⟩:=bI h
 refine wl (su (u_catc (et (k20 d7)) ec g189) (dt (q20 p8)) (st (wnil ?_)))
 refine (fun h=>bn (xl h)) ?_
 exact ⟨_,_,rfl,(aK3 (aI (aK10 (aO20 (aO20 (aO7 aZ)))))),_,_,rfl,h,Le.r,hS⟩
 intro h185 h
 refine nz ?_
 iterate 2 refine st ?_
 refine nw ?_
 refine zCd h ?_ ?_
 intro h190 h
 refine creg (st ?_)
 obtain ⟨s191,g192,h⟩:=bI h
 refine wl (su (u_catc (et (k30 d1)) ec g192) (dt (q30 p2)) (st (wnil ?_)))
 refine (fun h=>bn (xl h)) ?_
 exact ⟨_,_,rfl,(aK3 (aI (aK10 (aO20 (aO20 (aO7 aZ)))))),_,_,rfl,h,Le.r,hS⟩
 intro h190 h
 refine nz ?_
 iterate 2 refine st ?_
 refine nw ?_
 refine zCd h ?_ ?_
 intro h193 h
 refine creg (st ?_)
 obtain ⟨s194,g195,h⟩:=bI h
 refine wl (su (u_catc (et (k30 d5)) ec g195) (dt (q30 p6)) (st (wnil ?_)))
 refine (fun h=>bn (xl h)) ?_
 exact ⟨_,_,rfl,(aK3 (aI (aK10 (aO20 (aO20 (aO7 aZ)))))),_,_,rfl,h,Le.r,hS⟩
 intro h193 h
 refine nz ?_
 iterate 2 refine st ?_
 refine nw ?_
 refine zCd h ?_ ?_
 intro h196 h
 refine creg (st ?_)
 obtain ⟨s197,g198,h⟩:=bI h
 refine wl (su (u_catc (et (k30 d9)) ec g198) (dt (q40 p0)) (st (wnil ?_)))
 refine (fun h=>bn (xl h)) ?_
 exact ⟨_,_,rfl,(aK3 (aI (aK10 (aO20 (aO20 (aO7 aZ)))))),_,_,rfl,h,Le.r,hS⟩
 intro h196 h
 refine nz ?_
 iterate 2 refine st ?_
 refine nw ?_
 refine zCd h ?_ ?_
 intro h199 h
 refine creg (st ?_)
 obtain ⟨s200,g201,h⟩:=bI h
 refine wl (su (u_catc (et (k40 d3)) ec g201) (dt (q40 p4)) (st (wnil ?_)))
 refine (fun h=>bn (xl h)) ?_
 exact ⟨_,_,rfl,(aK3 (aI (aK10 (aO20 (aO20 (aO7 aZ)))))),_,_,rfl,h,Le.r,hS⟩
 intro h199 h
 refine nz ?_
 iterate 2 refine st ?_
 refine nw ?_
 refine zCd h ?_ ?_
 intro h202 h
 refine creg (st ?_)
 obtain ⟨s203,g204,h⟩:=bI h
 refine wl (su (u_catc (et (k40 d7)) ec g204) (dt (q40 p8)) (st (ld ((hS.blk d0).cell d1) ?_)))
 obtain ⟨s205,g206,h⟩:=bI h
 refine wl (su (u_catc (et (k40 d8)) (et (k50 d0)) g206) (dt (q50 p1)) ?_)
 obtain ⟨s207,g208,h⟩:=bI h
 refine wl (su (u_catc (et (k50 d1)) ec g208) (dt (q50 p2)) (st (wnil ?_)))
 refine (fun h=>bn (xl h)) ?_
 exact ⟨_,_,rfl,(aK3 (aI (aK10 (aO20 (aO20 (aO7 aZ)))))),_,_,rfl,h,Le.r,hS⟩
 intro h202 h
 refine nz ?_
 iterate 2 refine st ?_
 refine nw ?_
 refine zCd h ?_ ?_
 intro h209 h
 refine creg (st ?_)
 obtain ⟨s210,g211,h⟩:=bI h
 refine wl (su (u_catc (et (k50 d5)) ec g211) (dt (q50 p6)) (st (wnil ?_)))
 refine (fun h=>bn (xl h)) ?_
 exact ⟨_,_,rfl,(aK3 (aI (aK10 (aO20 (aO20 (aO7 aZ)))))),_,_,rfl,h,Le.r,hS⟩
 intro h209 h
 refine nz ?_
 iterate 2 refine st ?_
 refine nw ?_
 refine zCd h ?_ ?_
 intro h212 h
 refine creg (st ?_)
 obtain ⟨s213,g214,h⟩:=bI h
 refine wl (su (u_catc (et (k50 d9)) ec g214) (dt (q60 p0)) (st (wnil ?_)))
 refine (fun h=>bn (xl h)) ?_
 exact ⟨_,_,rfl,(aK3 (aI (aK10 (aO20 (aO20 (aO7 aZ)))))),_,_,rfl,h,Le.r,hS⟩
 intro h212 h
 refine cskip ?_
 refine (fun h=>bn (xl h)) ?_
 exact ⟨_,_,rfl,(aK3 (aI (aK10 (aO20 (aO20 (aO7 aZ)))))),_,_,rfl,h,Le.r,hS⟩
 rintro _ t w4 ⟨μ2,s177,rfl,h,le215,hS⟩
 unfold r2_body_j1 at h
 refine nrm (mK3 (mi (mK10 (mO20 (mO20 (mO7 mz)))))) (xn (cseq (nz (st (ld ((hS.blk d0).cell d0) (st (nw ?_)))))))
 refine ccutE (rg 64 5) (by decide) (fun m w=>∃ μx s216,m=(yK3 (.i (S s216)::(yK50 (yK10 (yO5 64 [])))))∧r2_body_j2 self i80 x158 (r2_body_l1 fu self p_1 n_1) s216=some r∧Le μ2 μx∧Sq μx w0 w (.blk b175 69 [.int .i64 x158.Kind,S x158.Name,.int .i64 x158.X.Kind,.int .i64 x158.X.N,S x158.X.Name,.slice a166 x158.X.Kids.length c167,.slice a169 x158.Body.length c170,.slice a172 x158.Else.length c173]::rsF)) (by rintro _ _ ⟨_,_,rfl,_⟩; rfl) ?_ ?_
 refine zCd h ?_ ?_
 intro h217 h
 refine creg ?_
 iterate 2 refine st ?_
 refine lds ((hS.blk d0).cellsAt (Sb.s d2 (Sb.s d3 (Sb.s d4 (Sb.s d5 Sb.z))))) rfl ?_
 obtain ⟨r218,g219,h⟩:=bI h
 refine ca ((R2T_sound fu).r2_text (hg.t (le156.t le215)) (m168.up le215) g219 hS) ?_
 rintro _ w5 ⟨μ3,rfl,le220,hS⟩
 refine po ?_
 obtain ⟨s221,g222,h⟩:=bI h
 refine wl (su (u_catc (et (k60 d4)) (et (k60 d7)) g222) (dt (q60 p8)) (st (wnil (xl ?_))))
 exact ⟨_,_,rfl,(aK3 (aI (aK50 (aK10 (aO5 aZ))))),_,_,rfl,h,le220,hS⟩
 intro h217 h
 refine cskip (xl ?_)
 exact ⟨_,_,rfl,(aK3 (aI (aK50 (aK10 (aO5 aZ))))),_,_,rfl,h,Le.r,hS⟩
 rintro _ t w6 ⟨μ4,s216,rfl,h,le223,hS⟩
 unfold r2_body_j2 at h
 refine nrm (mK3 (mi (mK50 (mK10 (mO5 mz))))) (xn (cseq ?_))
 refine ccutE (rg 69 7) (by decide) (fun m w=>∃ μx b224,m=(yK50 (yK10 (yK9 (yO7 69 (.i (.bool b224)::[])))))∧r2_body_j3 self i80 x158 s216 (r2_body_l1 fu self p_1 n_1) b224=some r∧Le μ4 μx∧Sq μx w0 w (.blk b175 69 [.int .i64 x158.Kind,S x158.Name,.int .i64 x158.X.Kind,.int .i64 x158.X.N,S x158.X.Name,.slice a166 x158.X.Kids.length c167,.slice a169 x158.Body.length c170,.slice a172 x158.Else.length c173]::rsF)) (by rintro _ _ ⟨_,_,rfl,_⟩; rfl) ?_ ?_
 refine creg (st (ld ((hS.blk d0).cell d0) ?_))
 iterate 2 refine st ?_
 refine zWd 72 h ?_ ?_
 intro h225 h
 refine sn rfl rfl (sn rfl rfl (sn rfl rfl (st (wnil (xl ?_)))))
 exact ⟨_,_,rfl,(aK50 (aK10 (aK9 (aO7 (aI aZ))))),_,true,rfl,h,Le.r,hS⟩
 intro h225 h
 refine sy rfl (wy rfl (k70 d2) (s_load ti3 (et (k70 d3)) ((hS.blk d0).cell d0) (dt (q70 p4)) (sy rfl (st (wnil (xl ?_))))))
 exact ⟨_,_,rfl,(aK50 (aK10 (aK9 (aO7 (aI aZ))))),_,(decide (x158.Kind=4)),rfl,h,Le.r,hS⟩
 rintro _ t w7 ⟨μ5,b224,rfl,h,le226,hS⟩
 unfold r2_body_j3 at h
 refine nrm (mK50 (mK10 (mK9 (mO7 (mi mz))))) (xn ?_)
 refine zCb h ?_ ?_
 intro h227 h
 refine nz ?_
 iterate 2 refine st ?_
 refine ld ((hS.blk d0).cell d6) ?_
 obtain ⟨r228,g229,h⟩:=bI h
 refine ca (IH.r2_body (hg.t (le156.t (le215.t (le223.t le226)))) (m171.up (le215.t (le223.t le226))) g229 hS) ?_
 rintro _ w8 ⟨μ6,rfl,le230,hS⟩
 refine po ?_
 obtain ⟨s231,g232,h⟩:=bI h
 refine wl (su (u_catc (et (k70 d7)) (et (k80 d0)) g232) (dt (q80 p1)) (st (ny ?_)))
 refine ccutE (rg 82 8) (by decide) (fun m w=>∃ μx b233,m=(yK50 (yK20 (yK10 (yK2 (yO8 82 (.i (.bool b233)::[]))))))∧r2_body_j4 self i80 x158 s231 (r2_body_l1 fu self p_1 n_1) b233=some r∧Le μ6 μx∧Sq μx w0 w (.blk b175 69 [.int .i64 x158.Kind,S x158.Name,.int .i64 x158.X.Kind,.int .i64 x158.X.N,S x158.X.Name,.slice a166 x158.X.Kids.length c167,.slice a169 x158.Body.length c170,.slice a172 x158.Else.length c173]::rsF)) (by rintro _ _ ⟨_,_,rfl,_⟩; rfl) ?_ ?_
 refine creg (st (ld ((hS.blk d0).cell d0) ?_))
 iterate 2 refine st ?_
 refine zWd 85 h ?_ ?_
 intro h234 h
 refine sy rfl (wy rfl (k80 d5) (s_load ti42 (et (k80 d6)) ((hS.blk d0).cell d7) (dt (q80 p7)) (wy rfl (k80 d5) (su (u_lensl underlying42 (et (k80 d7))) (dt (q80 p8)) (sy rfl (st (wnil (xl ?_))))))))
 exact ⟨_,_,rfl,(aK50 (aK20 (aK10 (aK2 (aO8 (aI aZ)))))),_,(decide ((0:Int)<(x158.Else.length:Int))),rfl,h,Le.r,hS⟩
 intro h234 h
 refine sn rfl rfl (sn rfl rfl (sn rfl rfl (sn rfl rfl (st (wnil (xl ?_))))))
 exact ⟨_,_,rfl,(aK50 (aK20 (aK10 (aK2 (aO8 (aI aZ)))))),_,false,rfl,h,Le.r,hS⟩
 rintro _ t w9 ⟨μ7,b233,rfl,h,le235,hS⟩
 unfold r2_body_j4 at h
 refine nrm (mK50 (mK20 (mK10 (mK2 (mO8 (mi mz)))))) (xn ?_)
 refine zCb h ?_ ?_
 intro h236 h
 refine creg (st ?_)
 obtain ⟨s237,g238,h⟩:=bI h
 refine wl (su (u_catc (et (k90 d1)) ec g238) (dt (q90 p2)) (st (ld ((hS.blk d0).cell d7) ?_)))
 obtain ⟨r239,g240,h⟩:=bI h
 refine ca (IH.r2_body (hg.t (le156.t (le215.t (le223.t (le226.t (le230.t le235)))))) (m174.up (le215.t (le223.t (le226.t (le230.t le235))))) g240 hS) ?_
 rintro _ w10 ⟨μ8,rfl,le241,hS⟩
 refine po ?_
 obtain ⟨s242,g243,h⟩:=bI h
 refine wl (su (u_catc (et (k90 d2)) (et (k90 d5)) g243) (dt (q90 p6)) (st (wnil ?_)))
 refine (fun h=>bn (xn h)) ?_
 refine creg ?_
 obtain ⟨i244,g245,h⟩:=bI h
 refine wl (su (u_addc (et d8) ec g245) (dt (q90 p9)) (st (wnil (xl ?_))))
 replace hS:=hS.drop Rm.z
 exact ⟨n_1,_,_,rfl,(aK3 (aI (aK1 (aO1 (aK2 (aI (aO50 (aO20 (aO20 (aO1 aZ)))))))))),⟨_,s242,i244,rfl,h,(le156.t (le215.t (le223.t (le226.t (le230.t (le235.t le241)))))),hS⟩,Nat.lt_succ_self _⟩
 intro h236 h
 refine cskip ?_
 refine (fun h=>bn (xn h)) ?_
 refine creg ?_
 obtain ⟨i246,g247,h⟩:=bI h
 refine wl (su (u_addc (et d8) ec g247) (dt (q90 p9)) (st (wnil (xl ?_))))
 replace hS:=hS.drop Rm.z
 exact ⟨n_1,_,_,rfl,(aK3 (aI (aK1 (aO1 (aK2 (aI (aO50 (aO20 (aO20 (aO1 aZ)))))))))),⟨_,s231,i246,rfl,h,(le156.t (le215.t (le223.t (le226.t (le230.t le235))))),hS⟩,Nat.lt_succ_self _⟩
 intro h227 h
 refine creg (st ?_)
 obtain ⟨s248,g249,h⟩:=bI h
 refine wl (su (u_catc (et (k90 d7)) ec g249) (dt (q90 p8)) (st (wnil ?_)))
 refine (fun h=>bn (xn h)) ?_
 refine creg ?_
 obtain ⟨i250,g251,h⟩:=bI h
 refine wl (su (u_addc (et d8) ec g251) (dt (q90 p9)) (st (wnil (xl ?_))))
 replace hS:=hS.drop Rm.z
 exact ⟨n_1,_,_,rfl,(aK3 (aI (aK1 (aO1 (aK2 (aI (aO50 (aO20 (aO20 (aO1 aZ)))))))))),⟨_,s248,i250,rfl,h,(le156.t (le215.t (le223.t le226))),hS⟩,Nat.lt_succ_self _⟩
 intro h157 h
 refine cexit ?_
 refine (fun h=>xe (xe (bh h))) ?_
 refine xn (nz (st ?_))
 obtain ⟨s252,g253,h⟩:=bI h
 refine wl (su (u_catc (et (k100 d0)) ec g253) (dt (q100 p1)) (st (nw (cret ?_))))
 obtain rfl:=oI h
 refine ret1 rfl d2 ?_
 exact ⟨_,rfl,le156,hS⟩
theorem R2B_sound:∀ n,R2BSound (R2B_run n)
  | 0=>⟨(by intro; intros; rename_i h _; cases h)⟩
  | n+1=>⟨r2_body_w (R2B_sound n)⟩
theorem r2_print_w (hg:Le Gm μ0) {p_1:List TDef} {r:List UInt8×TFault} (m3:Sl μ0 a1 c2 p_1) (h:r2_print fu p_1=some r) (hS:Sq μ0 w0 w (rsF)):CallsV prog 5 [.slice a1 p_1.length c2] w (fun v w'=>∃ (μ':M) ,v=.tuple ⟨[S r.1,.agg ⟨[.int .i64 r.2.Err,.int .i64 r.2.At]⟩]⟩∧Le μ0 μ'∧Sq μ' w0 w' (rsF)):=by
 unfold r2_print at h
 refine enter func5 rfl (frm:=_::u2 (u10 (u20 (u50 (u50 []))))) rfl (nz (st ?_))
 refine wl (s_alloc ti25 hS ?_); clear hS; intro b4 w1 hb5 hS; refine po ?_
 refine ny (nz (st ?_))
 obtain ⟨r6,g7,h⟩:=bI h
 refine ca (r2_wrong_w hg m3 g7 hS) ?_
 rintro _ w2 ⟨μ1,rfl,le8,hS⟩
 refine po ?_
 refine wl (s_alloc ti25 hS ?_); clear hS; intro b9 w3 hb10 hS; refine po ?_
 refine wl (s_storeA ti25 (et d4) (et (k10 d2)) rfl rfl hS d0 rfl p0 dn ?_)
 clear hS; intro w4 hS
 refine nx (st (ld ((hS.blk d0).cell d0) (st (nw ?_))))
 refine zCd h ?_ ?_
 intro h11 h
 refine cseq ?_
 refine cdw hS ?_; clear hS; intro w5 hS
 refine sf_start (fr_ 0 [0,2] rfl (u_loads ti25 (et d4) (hS.blk d0).cells rfl) (q10 p6) (fpi 1 [1,2] rfl (sf1 rfl rfl rfl rfl (wn0 rfl) (s_storeA ti25 (et d3) (et (k10 d6)) rfl rfl hS d1 rfl p1 dn ?_))))
 clear hS; intro w6 hS
 refine ⟨Mons.z,?_⟩
 refine sf_nil (xn (cret (xr ?_)))
 obtain rfl:=oI h
 refine retN rfl (RVs.s (.t d2) (RVs.s (.a d3 ti25 (hS.blk d1).cells rfl) RVs.z)) ?_
 replace hS:=(hS.drop Rm.z).drop Rm.z
 exact ⟨_,rfl,le8,hS⟩
 intro h11 h
 refine cskip (xn (nz (st (ny (nz (st (wl (su (u_lensl underlying22 (et (k10 d7))) (dt (q10 p8)) (st (nw (cblock ?_)))))))))))
 replace hS:=hS.drop Rm.z
 refine cloopE (rg 7 4++rg 20 99) (by decide +kernel) (fun n m w=>∃ μx s180 i181,m=(yK5 (.i (S s180)::(yK1 (yO4 7 (yK8 (.i (.int .i64 i181)::(yO50 20 (yO20 70 (yO20 90 (yO9 110 []))))))))))∧r2_print_l1 fu p_1 n s180 i181=some r∧Le μ1 μx∧Sq μx w0 w (.blk b4 25 [.int .i64 0,.int .i64 0]::rsF)) (by rintro _ _ _ ⟨_,_,_,rfl,_⟩; rfl) _ _ (aK5 (aI (aK1 (aO4 (aK8 (aI (aO50 (aO20 (aO20 (aO9 aZ)))))))))) ⟨_,[],0,rfl,h,Le.r,hS⟩ ?_
 rintro n_1 _ t w7 ⟨μ2,s180,i181,rfl,h,le350,hS⟩
 rcases n_1 with _|n_1
 cases h
 unfold r2_print_l1 at h
 refine cnrm (mK5 (mi (mK1 (mO4 (mK8 (mi (mO50 (mO20 (mO20 (mO9 mz)))))))))) (nz (st (ny ?_)))
 refine zCd h ?_ ?_
 intro h351 h
 refine cskip (xn (cseq (cblock (nz ?_))))
 obtain ⟨x352,g353,h⟩:=bI h
 obtain ⟨b354,o355,cs356,e357,f358,m359⟩:=SlR.elem (m3.up (le8.t le350)) g353
 obtain ⟨a360,c361,a363,c364,rfl,m362,m365⟩:=m359
 refine wl (su (u_iax underlying22 ti44 (et (k10 d7)) (et (k10 d9)) e357) (dt (q20 p1)) (lds (f358 _ hS.a) rfl ?_))
 refine wl (s_alloc ti44 hS ?_); clear hS; intro b366 w8 hb367 hS; refine po ?_
 refine wl (s_storeA ti44 (et d7) (et (k20 d2)) rfl rfl hS d0 rfl p0 dn ?_)
 clear hS; intro w9 hS
 refine ny (nz (st (ld ((hS.blk d0).cell d0) (st (nw ?_)))))
 refine zCd h ?_ ?_
 intro h368 h
 refine cseq ?_
 refine ccutE (rg 26 15) (by decide) (fun m w=>∃ μx s369,m=(yK5 (.i (S s369)::(yK20 (yO10 26 (yO5 36 [])))))∧r2_print_j1 i181 (r2_print_l1 fu p_1 n_1) s369=some r∧Le μ2 μx∧Sq μx w0 w (.blk b4 25 [.int .i64 0,.int .i64 0]::rsF)) (by rintro _ _ ⟨_,_,rfl,_⟩; rfl) ?_ ?_
 refine cdw hS ?_; clear hS; intro w10 hS
 refine sf_start (fpi 0 [0,1,4,5,9,13,14,15] rfl ?_)
 obtain ⟨s370,g371,h⟩:=bI h
 refine fp 1 [1,4,5,9,13,14,15] rfl (u_catc (et (k20 d6)) ec g371) (q20 p7) (fpi 2 [2,3,4,5,9,13,14,15] rfl (fr_ 3 [3,4,5,9,13,14,15] rfl (u_load ti9 (et (k20 d8)) ((hS.blk d0).cell d1)) (q20 p9) ?_))
 obtain ⟨s372,g373,h⟩:=bI h
 refine fp 4 [4,5,9,13,14,15] rfl (u_catc (et (k20 d7)) (et (k20 d9)) g373) (q30 p0) ?_
 obtain ⟨s374,g375,h⟩:=bI h
 refine fp 5 [5,9,13,14,15] rfl (u_catc (et (k30 d0)) ec g375) (q30 p1) (fpi 6 [6,7,8,9,12,13,14,15] rfl (fr_ 7 [7,8,9,12,13,14,15] rfl (u_loads ti40 (et (k30 d2)) ((hS.blk d0).cellsAt (Sb.s d2 (Sb.s d3 Sb.z))) rfl) (q30 p3) (fpi 10 [10,11,12,13,14,15] rfl (fr_ 11 [11,12,13,14,15] rfl (u_load ti3 (et (k30 d6)) ((hS.blk d0).cell d6)) (q30 p7) ?_))))
 obtain ⟨r376,g377,h⟩:=bI h
 refine sf1 rfl rfl rfl rfl (wn0 rfl) (s_callv isfn11 ef (e1 (et (k30 d3)) e0) (r2_tyt_w (hg.t (le8.t le350)) g377 hS) ?_)
 rintro _ w11 ⟨μ3,rfl,le378,hS⟩
 refine po ?_
 refine ⟨(Mons.s (u_load ti3 (et (k30 d6)) ((hS.blk d0).cell d6)) (Mons.s (u_load ti9 (et (k20 d8)) ((hS.blk d0).cell d1)) Mons.z)),?_⟩
 obtain ⟨s379,g380,h⟩:=bI h
 refine fp 9 [9,13,14,15] rfl (u_catc (et (k30 d1)) (et (k30 d4)) g380) (q30 p5) ?_
 obtain ⟨s381,g382,h⟩:=bI h
 refine sf1 rfl rfl rfl rfl (wn0 rfl) (s_callv isfn12 ef (e1 (et (k30 d7)) e0) (itoa_w (hg.t (le8.t (le350.t le378))) g382 hS) ?_); clear hS; rintro _ w12 ⟨rfl,hS⟩; refine po ?_
 refine ⟨(Mons.s (u_load ti9 (et (k20 d8)) ((hS.blk d0).cell d1)) Mons.z),?_⟩
 obtain ⟨s383,g384,h⟩:=bI h
 refine fp 13 [13,14,15] rfl (u_catc (et (k30 d5)) (et (k30 d8)) g384) (q30 p9) ?_
 obtain ⟨s385,g386,h⟩:=bI h
 refine fp 14 [14,15] rfl (u_catc (et (k30 d9)) ec g386) (q40 p0) (fpi 15 [15] rfl (sf_nil (xl ?_)))
 replace hS:=hS.drop Rm.z
 exact ⟨_,_,rfl,(aK5 (aI (aK20 (aO10 (aO5 aZ))))),_,_,rfl,h,le378,hS⟩
 rintro _ t w13 ⟨μ4,s369,rfl,h,le387,hS⟩
 unfold r2_print_j1 at h
 refine nrm (mK5 (mi (mK20 (mO10 (mO5 mz))))) (xn (cexit ?_))
 refine (fun h=>xe (bh h)) ?_
 refine xn (creg ?_)
 obtain ⟨i388,g389,h⟩:=bI h
 refine wl (su (u_addc (et (k10 d9)) ec g389) (dt (q100 (q10 p8))) (st (wnil (xl ?_))))
 exact ⟨n_1,_,_,rfl,(aK5 (aI (aK1 (aO4 (aK8 (aI (aO50 (aO20 (aO20 (aO9 aZ)))))))))),⟨_,s369,i388,rfl,h,(le350.t le387),hS⟩,Nat.lt_succ_self _⟩
 intro h368 h
 refine cskip (xn (cseq (nz (st (ld ((hS.blk d0).cell d0) (st (nw ?_)))))))
 refine zCd h ?_ ?_
 intro h390 h
 refine cseq ?_
 refine ccutE (rg 44 10) (by decide) (fun m w=>∃ μx s391,m=(yK5 (.i (S s391)::(yK20 (yK10 (yK8 (yO10 44 []))))))∧r2_print_j2 i181 (r2_print_l1 fu p_1 n_1) s391=some r∧Le μ2 μx∧Sq μx w0 w (.blk b4 25 [.int .i64 0,.int .i64 0]::rsF)) (by rintro _ _ ⟨_,_,rfl,_⟩; rfl) ?_ ?_
 refine cdw hS ?_; clear hS; intro w14 hS
 refine sf_start (fpi 0 [0,1,4,5,9,10] rfl ?_)
 obtain ⟨s392,g393,h⟩:=bI h
 refine fp 1 [1,4,5,9,10] rfl (u_catc (et (k40 d4)) ec g393) (q40 p5) (fpi 2 [2,3,4,5,9,10] rfl (fr_ 3 [3,4,5,9,10] rfl (u_load ti9 (et (k40 d6)) ((hS.blk d0).cell d1)) (q40 p7) ?_))
 obtain ⟨s394,g395,h⟩:=bI h
 refine fp 4 [4,5,9,10] rfl (u_catc (et (k40 d5)) (et (k40 d7)) g395) (q40 p8) ?_
 obtain ⟨s396,g397,h⟩:=bI h
 refine fp 5 [5,9,10] rfl (u_catc (et (k40 d8)) ec g397) (q40 p9) (fpi 6 [6,7,8,9,10] rfl (fr_ 7 [7,8,9,10] rfl (u_load ti42 (et (k50 d0)) ((hS.blk d0).cell d8)) (q50 p1) ?_))
 obtain ⟨r398,g399,h⟩:=bI h
 refine sf1 rfl rfl rfl rfl (wn0 rfl) (s_callv isfn13 ef (e1 (et (k50 d1)) e0) ((R2B_sound fu).r2_body (hg.t (le8.t le350)) m365 g399 hS) ?_)
 rintro _ w15 ⟨μ5,rfl,le400,hS⟩
 refine po ?_
 refine ⟨(Mons.s (u_load ti9 (et (k40 d6)) ((hS.blk d0).cell d1)) Mons.z),?_⟩
 obtain ⟨s401,g402,h⟩:=bI h
 refine fp 9 [9,10] rfl (u_catc (et (k40 d9)) (et (k50 d2)) g402) (q50 p3) (fpi 10 [10] rfl (sf_nil (xl ?_)))
 replace hS:=hS.drop Rm.z
 exact ⟨_,_,rfl,(aK5 (aI (aK20 (aK10 (aK8 (aO10 aZ)))))),_,_,rfl,h,le400,hS⟩
 rintro _ t w16 ⟨μ6,s391,rfl,h,le403,hS⟩
 unfold r2_print_j2 at h
 refine nrm (mK5 (mi (mK20 (mK10 (mK8 (mO10 mz)))))) (xn (cexit ?_))
 refine (fun h=>xe (bh h)) ?_
 refine xn (creg ?_)
 obtain ⟨i404,g405,h⟩:=bI h
 refine wl (su (u_addc (et (k10 d9)) ec g405) (dt (q100 (q10 p8))) (st (wnil (xl ?_))))
 exact ⟨n_1,_,_,rfl,(aK5 (aI (aK1 (aO4 (aK8 (aI (aO50 (aO20 (aO20 (aO9 aZ)))))))))),⟨_,s391,i404,rfl,h,(le350.t le403),hS⟩,Nat.lt_succ_self _⟩
 intro h390 h
 refine cskip (xn (nz (st (ny (nz (st (ld ((hS.blk d0).cell d7) (wl (su (u_lensl underlying41 (et (k50 d5))) (dt (q50 p6)) (st (nw (cblock ?_))))))))))))
 replace hS:=hS.bg Y1
 refine cloopE (rg 9 2++rg 58 18) (by decide) (fun n m w=>∃ μx s430 i431,m=(yK8 (.i (S s430)::(yO2 9 (yK20 (yK20 (yK6 (.i (.int .i64 i431)::(yO10 58 (yO8 68 [])))))))))∧r2_print_l2 fu s180 i181 x352 (r2_print_l1 fu p_1 n_1) n s430 i431=some r∧Le μ2 μx∧Sq μx w0 w (.blk b4 25 [.int .i64 0,.int .i64 0]::.blk b366 44 [.int .i64 x352.Kind,S x352.Name,.int .i64 x352.Typ.Kind,S x352.Typ.Gen,.int .i64 x352.Takes.Kind,S x352.Takes.Gen,.int .i64 x352.Cap,.slice a360 x352.Params.length c361,.slice a363 x352.Body.length c364]::rsF)) (by rintro _ _ _ ⟨_,_,_,rfl,_⟩; rfl) _ _ (aK8 (aI (aO2 (aK20 (aK20 (aK6 (aI (aO10 (aO8 aZ))))))))) ⟨_,[40,32],0,rfl,h,Le.r,hS⟩ ?_
 rintro n_2 _ t w17 ⟨μ7,s430,i431,rfl,h,le456,hS⟩
 rcases n_2 with _|n_2
 cases h
 unfold r2_print_l2 at h
 refine cnrm (mK8 (mi (mO2 (mK20 (mK20 (mK6 (mi (mO10 (mO8 mz))))))))) (nz (st (ny ?_)))
 refine zCd h ?_ ?_
 intro h457 h
 refine cskip (xn (cseq (cblock (nz (st ?_)))))
 obtain ⟨x458,g459,h⟩:=bI h
 obtain ⟨b460,o461,cs462,e463,f464,m465⟩:=SlR.elem (m362.up le456) g459
 obtain rfl:=m465
 refine wl (su (u_iax underlying41 ti51 (et (k50 d5)) (et (k50 d7)) e463) (dt (q60 p0)) (lds (f464 _ hS.a) rfl ?_))
 refine wl (s_alloc ti51 hS ?_); clear hS; intro b466 w18 hb467 hS; refine po ?_
 refine st (wl (s_storeA ti51 (et (k10 d0)) (et (k60 d1)) rfl rfl hS d0 rfl p0 dn ?_))
 clear hS; intro w19 hS
 refine ny (nz ?_)
 iterate 2 refine st ?_
 refine nw ?_
 refine ccutE (rg 64 2) (by decide) (fun m w=>∃ μx s468,m=(yK8 (.i (S s468)::(yK50 (yK5 (yO2 64 [])))))∧r2_print_j3 i431 x458 (r2_print_l2 fu s180 i181 x352 (r2_print_l1 fu p_1 n_1) n_2) s468=some r∧Le μ7 μx∧Sq μx w0 w (.blk b4 25 [.int .i64 0,.int .i64 0]::.blk b366 44 [.int .i64 x352.Kind,S x352.Name,.int .i64 x352.Typ.Kind,S x352.Typ.Gen,.int .i64 x352.Takes.Kind,S x352.Takes.Gen,.int .i64 x352.Cap,.slice a360 x352.Params.length c361,.slice a363 x352.Body.length c364]::.blk b466 51 [S x458.Name,.int .i64 x458.Typ.Kind,S x458.Typ.Gen]::rsF)) (by rintro _ _ ⟨_,_,rfl,_⟩; rfl) ?_ ?_
 refine zCd h ?_ ?_
 intro h469 h
 refine creg (st ?_)
 obtain ⟨s470,g471,h⟩:=bI h
 refine wl (su (u_catc (et (k60 d4)) ec g471) (dt (q60 p5)) (st (wnil (xl ?_))))
 replace hS:=(hS.bg Y2).bg Y2
 exact ⟨_,_,rfl,(aK8 (aI (aK50 (aK5 (aO2 aZ))))),_,_,rfl,h,Le.r,hS⟩
 intro h469 h
 refine cskip (xl ?_)
 replace hS:=(hS.bg Y2).bg Y2
 exact ⟨_,_,rfl,(aK8 (aI (aK50 (aK5 (aO2 aZ))))),_,_,rfl,h,Le.r,hS⟩
 rintro _ t w20 ⟨μ8,s468,rfl,h,le472,hS⟩
 unfold r2_print_j3 at h
 refine nrm (mK8 (mi (mK50 (mK5 (mO2 mz))))) (xn ?_)
 refine ccutE (rg 66 9) (by decide) (fun m w=>∃ μx s473,m=(yK8 (.i (S s473)::(yK50 (yK7 (yO9 66 [])))))∧r2_print_j4 i431 (r2_print_l2 fu s180 i181 x352 (r2_print_l1 fu p_1 n_1) n_2) s473=some r∧Le μ8 μx∧Sq μx w0 w (.blk b4 25 [.int .i64 0,.int .i64 0]::.blk b366 44 [.int .i64 x352.Kind,S x352.Name,.int .i64 x352.Typ.Kind,S x352.Typ.Gen,.int .i64 x352.Takes.Kind,S x352.Takes.Gen,.int .i64 x352.Cap,.slice a360 x352.Params.length c361,.slice a363 x352.Body.length c364]::rsF)) (by rintro _ _ ⟨_,_,rfl,_⟩; rfl) ?_ ?_
 refine cdw hS ?_; clear hS; intro w21 hS
 refine sf_start (fpi 0 [0,3,4,8,9] rfl (fpi 1 [1,2,3,4,8,9] rfl (fr_ 2 [2,3,4,8,9] rfl (u_load ti9 (et (k60 d7)) ((hS.blk d2).cell d0)) (q60 p8) ?_)))
 obtain ⟨s474,g475,h⟩:=bI h
 refine fp 3 [3,4,8,9] rfl (u_catc (et (k60 d6)) (et (k60 d8)) g475) (q60 p9) ?_
 obtain ⟨s476,g477,h⟩:=bI h
 refine fp 4 [4,8,9] rfl (u_catc (et (k60 d9)) ec g477) (q70 p0) (fpi 5 [5,6,7,8,9] rfl (fr_ 6 [6,7,8,9] rfl (u_loads ti40 (et (k70 d1)) ((hS.blk d2).cellsAt (Sb.s d1 (Sb.s d2 Sb.z))) rfl) (q70 p2) ?_))
 obtain ⟨r478,g479,h⟩:=bI h
 refine sf1 rfl rfl rfl rfl (wn0 rfl) (s_callv isfn11 ef (e1 (et (k70 d2)) e0) (r2_tyt_w (hg.t (le8.t (le350.t (le456.t le472)))) g479 hS) ?_)
 rintro _ w22 ⟨μ9,rfl,le480,hS⟩
 refine po ?_
 refine ⟨(Mons.s (u_load ti9 (et (k60 d7)) ((hS.blk d2).cell d0)) Mons.z),?_⟩
 obtain ⟨s481,g482,h⟩:=bI h
 refine fp 8 [8,9] rfl (u_catc (et (k70 d0)) (et (k70 d3)) g482) (q70 p4) (fpi 9 [9] rfl (sf_nil (xl ?_)))
 replace hS:=hS.drop (Rm.s (Rm.s Rm.z))
 exact ⟨_,_,rfl,(aK8 (aI (aK50 (aK7 (aO9 aZ))))),_,_,rfl,h,le480,hS⟩
 rintro _ t w23 ⟨μ10,s473,rfl,h,le483,hS⟩
 unfold r2_print_j4 at h
 refine nrm (mK8 (mi (mK50 (mK7 (mO9 mz))))) ?_
 refine (fun h=>bn (xn h)) ?_
 refine creg ?_
 obtain ⟨i484,g485,h⟩:=bI h
 refine wl (su (u_addc (et (k50 d7)) ec g485) (dt (q70 p5)) (st (wnil (xl ?_))))
 exact ⟨n_2,_,_,rfl,(aK8 (aI (aO2 (aK20 (aK20 (aK6 (aI (aO10 (aO8 aZ))))))))),⟨_,s473,i484,rfl,h,(le456.t (le472.t le483)),hS⟩,Nat.lt_succ_self _⟩
 intro h457 h
 refine cexit ?_
 refine (fun h=>xe (xe (bh h))) ?_
 refine xn (nz (st (ld ((hS.blk d1).cell d0) (st (nw ?_)))))
 refine zCd h ?_ ?_
 intro h486 h
 refine ccutE (rg 79 17) (by decide) (fun m w=>∃ μx s487,m=(yK5 (.i (S s487)::(yK50 (yK20 (yK3 (yO10 79 (yO7 89 [])))))))∧r2_print_j5 i181 (r2_print_l1 fu p_1 n_1) s487=some r∧Le μ7 μx∧Sq μx w0 w (.blk b4 25 [.int .i64 0,.int .i64 0]::rsF)) (by rintro _ _ ⟨_,_,rfl,_⟩; rfl) ?_ ?_
 refine cdw hS ?_; clear hS; intro w24 hS
 refine sf_start (fpi 0 [0,1,4,5,7,8,12,16,17] rfl ?_)
 obtain ⟨s488,g489,h⟩:=bI h
 refine fp 1 [1,4,5,7,8,12,16,17] rfl (u_catc (et (k70 d9)) ec g489) (q80 p0) (fpi 2 [2,3,4,5,7,8,12,16,17] rfl (fr_ 3 [3,4,5,7,8,12,16,17] rfl (u_load ti9 (et (k80 d1)) ((hS.blk d1).cell d1)) (q80 p2) ?_))
 obtain ⟨s490,g491,h⟩:=bI h
 refine fp 4 [4,5,7,8,12,16,17] rfl (u_catc (et (k80 d0)) (et (k80 d2)) g491) (q80 p3) ?_
 obtain ⟨s492,g493,h⟩:=bI h
 refine fp 5 [5,7,8,12,16,17] rfl (u_catc (et (k80 d3)) ec g493) (q80 p4) (fpi 6 [6,7,8,12,16,17] rfl ?_)
 obtain ⟨s494,g495,h⟩:=bI h
 refine fp 7 [7,8,12,16,17] rfl (u_catc (et (k80 d4)) (et (k80 d5)) g495) (q80 p6) ?_
 obtain ⟨s496,g497,h⟩:=bI h
 refine fp 8 [8,12,16,17] rfl (u_catc (et (k80 d6)) ec g497) (q80 p7) (fpi 9 [9,10,11,12,15,16,17] rfl (fr_ 10 [10,11,12,15,16,17] rfl (u_loads ti40 (et (k80 d8)) ((hS.blk d1).cellsAt (Sb.s d2 (Sb.s d3 Sb.z))) rfl) (q80 p9) (fpi 13 [13,14,15,16,17] rfl (fr_ 14 [14,15,16,17] rfl (u_load ti42 (et (k90 d2)) ((hS.blk d1).cell d8)) (q90 p3) ?_))))
 obtain ⟨r498,g499,h⟩:=bI h
 refine sf1 rfl rfl rfl rfl (wn0 rfl) (s_callv isfn11 ef (e1 (et (k80 d9)) e0) (r2_tyt_w (hg.t (le8.t (le350.t le456))) g499 hS) ?_)
 rintro _ w25 ⟨μ11,rfl,le500,hS⟩
 refine po ?_
 refine ⟨(Mons.s (u_load ti42 (et (k90 d2)) ((hS.blk d1).cell d8)) (Mons.s (u_load ti9 (et (k80 d1)) ((hS.blk d1).cell d1)) Mons.z)),?_⟩
 obtain ⟨s501,g502,h⟩:=bI h
 refine fp 12 [12,16,17] rfl (u_catc (et (k80 d7)) (et (k90 d0)) g502) (q90 p1) ?_
 obtain ⟨r503,g504,h⟩:=bI h
 refine sf1 rfl rfl rfl rfl (wn0 rfl) (s_callv isfn13 ef (e1 (et (k90 d3)) e0) ((R2B_sound fu).r2_body (hg.t (le8.t (le350.t (le456.t le500)))) (m365.up (le456.t le500)) g504 hS) ?_)
 rintro _ w26 ⟨μ12,rfl,le505,hS⟩
 refine po ?_
 refine ⟨(Mons.s (u_load ti9 (et (k80 d1)) ((hS.blk d1).cell d1)) Mons.z),?_⟩
 obtain ⟨s506,g507,h⟩:=bI h
 refine fp 16 [16,17] rfl (u_catc (et (k90 d1)) (et (k90 d4)) g507) (q90 p5) (fpi 17 [17] rfl (sf_nil (xl ?_)))
 replace hS:=hS.drop (Rm.s Rm.z)
 exact ⟨_,_,rfl,(aK5 (aI (aK50 (aK20 (aK3 (aO10 (aO7 aZ))))))),_,_,rfl,h,(le500.t le505),hS⟩
 rintro _ t w27 ⟨μ13,s487,rfl,h,le508,hS⟩
 unfold r2_print_j5 at h
 refine nrm (mK5 (mi (mK50 (mK20 (mK3 (mO10 (mO7 mz))))))) ?_
 refine (fun h=>bn (xn h)) ?_
 refine creg ?_
 obtain ⟨i509,g510,h⟩:=bI h
 refine wl (su (u_addc (et (k10 d9)) ec g510) (dt (q100 (q10 p8))) (st (wnil (xl ?_))))
 exact ⟨n_1,_,_,rfl,(aK5 (aI (aK1 (aO4 (aK8 (aI (aO50 (aO20 (aO20 (aO9 aZ)))))))))),⟨_,s487,i509,rfl,h,(le350.t (le456.t le508)),hS⟩,Nat.lt_succ_self _⟩
 intro h486 h
 refine ccutE (rg 96 22) (by decide +kernel) (fun m w=>∃ μx s511,m=(yK5 (.i (S s511)::(yK50 (yK20 (yK20 (yO20 96 (yO2 116 [])))))))∧r2_print_j6 i181 (r2_print_l1 fu p_1 n_1) s511=some r∧Le μ7 μx∧Sq μx w0 w (.blk b4 25 [.int .i64 0,.int .i64 0]::rsF)) (by rintro _ _ ⟨_,_,rfl,_⟩; rfl) ?_ ?_
 refine cdw hS ?_; clear hS; intro w28 hS
 refine sf_start (fpi 0 [0,1,4,5,7,8,12,13,17,21,22] rfl ?_)
 obtain ⟨s512,g513,h⟩:=bI h
 refine fp 1 [1,4,5,7,8,12,13,17,21,22] rfl (u_catc (et (k90 d6)) ec g513) (q90 p7) (fpi 2 [2,3,4,5,7,8,12,13,17,21,22] rfl (fr_ 3 [3,4,5,7,8,12,13,17,21,22] rfl (u_load ti9 (et (k90 d8)) ((hS.blk d1).cell d1)) (q90 p9) ?_))
 obtain ⟨s514,g515,h⟩:=bI h
 refine fp 4 [4,5,7,8,12,13,17,21,22] rfl (u_catc (et (k90 d7)) (et (k90 d9)) g515) (q100 p0) ?_
 obtain ⟨s516,g517,h⟩:=bI h
 refine fp 5 [5,7,8,12,13,17,21,22] rfl (u_catc (et (k100 d0)) ec g517) (q100 p1) (fpi 6 [6,7,8,12,13,17,21,22] rfl ?_)
 obtain ⟨s518,g519,h⟩:=bI h
 refine fp 7 [7,8,12,13,17,21,22] rfl (u_catc (et (k100 d1)) (et (k100 d2)) g519) (q100 p3) ?_
 obtain ⟨s520,g521,h⟩:=bI h
 refine fp 8 [8,12,13,17,21,22] rfl (u_catc (et (k100 d3)) ec g521) (q100 p4) (fpi 9 [9,10,11,12,13,16,17,20,21,22] rfl (fr_ 10 [10,11,12,13,16,17,20,21,22] rfl (u_loads ti40 (et (k100 d5)) ((hS.blk d1).cellsAt (Sb.s d4 (Sb.s d5 Sb.z))) rfl) (q100 p6) (fpi 14 [14,15,16,17,20,21,22] rfl (fr_ 15 [15,16,17,20,21,22] rfl (u_loads ti40 (et (k100 (k10 d0))) ((hS.blk d1).cellsAt (Sb.s d2 (Sb.s d3 Sb.z))) rfl) (q100 (q10 p1)) (fpi 18 [18,19,20,21,22] rfl (fr_ 19 [19,20,21,22] rfl (u_load ti42 (et (k100 (k10 d4))) ((hS.blk d1).cell d8)) (q100 (q10 p5)) ?_))))))
 obtain ⟨r522,g523,h⟩:=bI h
 refine sf1 rfl rfl rfl rfl (wn0 rfl) (s_callv isfn11 ef (e1 (et (k100 d6)) e0) (r2_tyt_w (hg.t (le8.t (le350.t le456))) g523 hS) ?_)
 rintro _ w29 ⟨μ14,rfl,le524,hS⟩
 refine po ?_
 refine ⟨(Mons.s (u_load ti42 (et (k100 (k10 d4))) ((hS.blk d1).cell d8)) (Mons.s (u_loads ti40 (et (k100 (k10 d0))) ((hS.blk d1).cellsAt (Sb.s d2 (Sb.s d3 Sb.z))) rfl) (Mons.s (u_load ti9 (et (k90 d8)) ((hS.blk d1).cell d1)) Mons.z))),?_⟩
 obtain ⟨s525,g526,h⟩:=bI h
 refine fp 12 [12,13,17,21,22] rfl (u_catc (et (k100 d4)) (et (k100 d7)) g526) (q100 p8) ?_
 obtain ⟨s527,g528,h⟩:=bI h
 refine fp 13 [13,17,21,22] rfl (u_catc (et (k100 d8)) ec g528) (q100 p9) ?_
 obtain ⟨r529,g530,h⟩:=bI h
 refine sf1 rfl rfl rfl rfl (wn0 rfl) (s_callv isfn11 ef (e1 (et (k100 (k10 d1))) e0) (r2_tyt_w (hg.t (le8.t (le350.t (le456.t le524)))) g530 hS) ?_)
 rintro _ w30 ⟨μ15,rfl,le531,hS⟩
 refine po ?_
 refine ⟨(Mons.s (u_load ti42 (et (k100 (k10 d4))) ((hS.blk d1).cell d8)) (Mons.s (u_load ti9 (et (k90 d8)) ((hS.blk d1).cell d1)) Mons.z)),?_⟩
 obtain ⟨s532,g533,h⟩:=bI h
 refine fp 17 [17,21,22] rfl (u_catc (et (k100 d9)) (et (k100 (k10 d2))) g533) (q100 (q10 p3)) ?_
 obtain ⟨r534,g535,h⟩:=bI h
 refine sf1 rfl rfl rfl rfl (wn0 rfl) (s_callv isfn13 ef (e1 (et (k100 (k10 d5))) e0) ((R2B_sound fu).r2_body (hg.t (le8.t (le350.t (le456.t (le524.t le531))))) (m365.up (le456.t (le524.t le531))) g535 hS) ?_)
 rintro _ w31 ⟨μ16,rfl,le536,hS⟩
 refine po ?_
 refine ⟨(Mons.s (u_load ti9 (et (k90 d8)) ((hS.blk d1).cell d1)) Mons.z),?_⟩
 obtain ⟨s537,g538,h⟩:=bI h
 refine fp 21 [21,22] rfl (u_catc (et (k100 (k10 d3))) (et (k100 (k10 d6))) g538) (q100 (q10 p7)) (fpi 22 [22] rfl (sf_nil (xl ?_)))
 replace hS:=hS.drop (Rm.s Rm.z)
 exact ⟨_,_,rfl,(aK5 (aI (aK50 (aK20 (aK20 (aO20 (aO2 aZ))))))),_,_,rfl,h,(le524.t (le531.t le536)),hS⟩
 rintro _ t w32 ⟨μ17,s511,rfl,h,le539,hS⟩
 unfold r2_print_j6 at h
 refine nrm (mK5 (mi (mK50 (mK20 (mK20 (mO20 (mO2 mz))))))) ?_
 refine (fun h=>bn (xn h)) ?_
 refine creg ?_
 obtain ⟨i540,g541,h⟩:=bI h
 refine wl (su (u_addc (et (k10 d9)) ec g541) (dt (q100 (q10 p8))) (st (wnil (xl ?_))))
 exact ⟨n_1,_,_,rfl,(aK5 (aI (aK1 (aO4 (aK8 (aI (aO50 (aO20 (aO20 (aO9 aZ)))))))))),⟨_,s511,i540,rfl,h,(le350.t (le456.t le539)),hS⟩,Nat.lt_succ_self _⟩
 intro h351 h
 refine cexit ?_
 refine (fun h=>xe (xe (bh h))) ?_
 refine xn (cseq (nz (st (wl (su (u_lens underlying9 (et (k100 (k10 d9)))) (dt (q100 (q20 p0))) (st (nw ?_)))))))
 refine ccutE (rg 122 5) (by decide) (fun m w=>∃ μx s542,m=(yK5 (.i (S s542)::(yK50 (yK50 (yK10 (yK6 (yO5 122 [])))))))∧r2_print_j7 s542=some r∧Le μ2 μx∧Sq μx w0 w (.blk b4 25 [.int .i64 0,.int .i64 0]::rsF)) (by rintro _ _ ⟨_,_,rfl,_⟩; rfl) ?_ ?_
 refine zCd h ?_ ?_
 intro h543 h
 refine creg ?_
 iterate 2 refine st ?_
 refine wl (su (u_lens underlying9 (et (k100 (k20 d3)))) (dt (q100 (q20 p4))) ?_)
 obtain ⟨i544,g545,h⟩:=bI h
 refine wl (su (u_subc (et (k100 (k20 d4))) ec g545) (dt (q100 (q20 p5))) ?_)
 obtain ⟨s546,g547,h⟩:=bI h
 refine wl (su (u_cuthic underlying9 (et (k100 (k20 d2))) (et (k100 (k20 d5))) g547) (dt (q100 (q20 p6))) (st (wnil (xl ?_))))
 exact ⟨_,_,rfl,(aK5 (aI (aK50 (aK50 (aK10 (aK6 (aO5 aZ))))))),_,_,rfl,h,Le.r,hS⟩
 intro h543 h
 refine cskip (xl ?_)
 exact ⟨_,_,rfl,(aK5 (aI (aK50 (aK50 (aK10 (aK6 (aO5 aZ))))))),_,_,rfl,h,Le.r,hS⟩
 rintro _ t w33 ⟨μ18,s542,rfl,h,le548,hS⟩
 unfold r2_print_j7 at h
 refine nrm (mK5 (mi (mK50 (mK50 (mK10 (mK6 (mO5 mz))))))) (xn (cseq (nz (st (wl (su (u_lens underlying9 (et (k100 (k20 d7)))) (dt (q100 (q20 p8))) (st (nw ?_))))))))
 refine zCd h ?_ ?_
 intro h549 h
 refine nz (wl (s_build ti25 pl25 (Fl.o rfl ec rfl rfl p0 Fl.z) (dt (q100 (q30 p0))) (st (wl (s_storeA ti25 (et d3) (et (k100 (k30 d0))) rfl rfl hS d0 rfl p0 dn ?_)))))
 clear hS; intro w34 hS
 refine nw (cret (xr ?_))
 obtain rfl:=oI h
 refine retN rfl (RVs.s (.t d2) (RVs.s (.a d3 ti25 (hS.blk d0).cells rfl) RVs.z)) ?_
 replace hS:=hS.drop Rm.z
 exact ⟨_,rfl,(le8.t (le350.t le548)),hS⟩
 intro h549 h
 refine cskip (xn (nz (st (wl (s_build ti25 pl25 Fl.z (dt (q100 (q30 p2))) (st (wl (s_storeA ti25 (et d3) (et (k100 (k30 d2))) rfl rfl hS d0 rfl p0 dn ?_))))))))
 clear hS; intro w35 hS
 refine nw (cret ?_)
 obtain rfl:=oI h
 refine retN rfl (RVs.s (.t d2) (RVs.s (.a d3 ti25 (hS.blk d0).cells rfl) RVs.z)) ?_
 replace hS:=hS.drop Rm.z
 exact ⟨_,rfl,(le8.t (le350.t le548)),hS⟩
end Go.Proofs.YteiemedhecjgiaaDoor
set_option maxRecDepth 100000
set_option maxHeartbeats 20000000
namespace Go.Proofs.YteiemedhecjgiaaDoor
open Go.Wk Go.Xt Go.Y Tryd
variable {b1:Nat} {v2 v5:Value} {cs6:List Value} {μ0:M} {w0 w:World} {rsF:List Res}
theorem bd_len_w (hg:Le Gm μ0) {buf_4:List UInt8} {r:Int} (m3:Bp μ0 b1 v2) (m7:Rw μ0 cs6 buf_4) (h:bd_len buf_4=some r) (hS:Sq μ0 w0 w (.blk b1 36 [v2,v5]::.row v5 5 1 buf_4.length cs6::rsF)):CallsV prog 9 [.pointer (some ⟨b1,0,none⟩)] w (fun v w'=>∃ (μ':M) ,v=.int .i64 r∧Le μ0 μ'∧Sq μ' w0 w' (.blk b1 36 [v2,v5]::.row v5 5 1 buf_4.length cs6::rsF)):=by
 unfold bd_len at h
 refine enter func9 rfl (frm:=_::u2 (u5 [])) rfl (nz (st (nx ?_)))
 iterate 3 refine st ?_
 refine ld ((hS.blk d0).cell d1) (wl (su (u_lenv underlying32 (et d6) (hS.get d1).isSl) (dt p7) (st (nw (cret ?_)))))
 obtain rfl:=oI h
 refine ret1 rfl d2 ?_
 exact ⟨_,rfl,Le.r,hS⟩
theorem bd_byte_w (hg:Le Gm μ0) {buf_4:List UInt8} {p_2:UInt8} {r:Unit×List UInt8} (m3:Bp μ0 b1 v2) (m7:Rw μ0 cs6 buf_4) (h:bd_byte buf_4 p_2=some r) (hS:Sq μ0 w0 w (.blk b1 36 [v2,v5]::.row v5 5 1 buf_4.length cs6::rsF)):CallsV prog 29 [.pointer (some ⟨b1,0,none⟩),.int .u8 (p_2.toNat:Int)] w (fun v w'=>∃ (μ':M) (v8:Value) (v10:Value) (cs11:List Value),v=.nilIface∧Le μ0 μ'∧Sq μ' w0 w' (.blk b1 36 [v8,v10]::.row v10 5 1 r.2.length cs11::rsF)∧Bp μ' b1 v8∧Rw μ' cs11 r.2):=by
 unfold bd_byte at h
 refine enter func29 rfl (frm:=_::_::u5 (u10 [])) rfl (nz (st (nx (st ?_))))
 refine wl (s_callv isfn45 ef (e1 (et d5) e0) (bw_check m3 hS) ?_); clear hS; rintro _ w1 ⟨rfl,hS⟩; refine po ?_
 have m13:Bp μ0 b1 (.pointer (some ⟨b1,0,none⟩)):=.inr rfl
 refine nx ?_
 iterate 4 refine st ?_
 refine ld ((hS.blk d0).cell d1) (st ?_)
 refine wl (s_bsl underlying32 ti5 (Parts.s (et (k10 d2)) rfl Parts.z) rfl rfl hS ?_); clear hS; intro b14 w2 hb15 hS; refine po ?_
 obtain ⟨l18,g19,h⟩:=bI h
 have m20:Rw μ0 [.int .u8 (p_2.toNat:Int)] [p_2]:=(Rw.one (α:=UInt8) rfl)
 have m17:=Rw.app m7 m20 g19
 refine wl (s_app1 underlying32 ti5 rfl (et (k10 d1)) (et (k10 d3)) hS d2 (hS.blk d0).cells m20 rfl g19 (by decide) ?_); clear hS; intro v16 w3 rs_ hp_ hS; cases (show _=rs_ from hp_)
 replace hS:=Sep.reput hS p2; refine po ?_
 replace hS:=hS.drop Rm.z
 iterate 2 refine st ?_
 refine wl (s_store1 ti32 (et (k10 d6)) (et (k10 d4)) (hS.get d1).cellV hS d0 p1 rfl p0 dn ?_)
 clear hS; intro w4 hS
 refine nx (st (nw (cret ?_)))
 obtain rfl:=oI h
 refine ret1 rfl d4 ?_
 exact ⟨_,(.pointer (some ⟨b1,0,none⟩)),_,((cs6++[.int .u8 (p_2.toNat:Int)]):List Value),rfl,Le.r,hS,m13,m17⟩
theorem bd_str_w (hg:Le Gm μ0) {buf_4 p_2:List UInt8} {r:Int×Unit×List UInt8} (m3:Bp μ0 b1 v2) (m7:Rw μ0 cs6 buf_4) (h:bd_str buf_4 p_2=some r) (hS:Sq μ0 w0 w (.blk b1 36 [v2,v5]::.row v5 5 1 buf_4.length cs6::rsF)):CallsV prog 30 [.pointer (some ⟨b1,0,none⟩),S p_2] w (fun v w'=>∃ (μ':M) (v8:Value) (v10:Value) (cs11:List Value),v=.tuple ⟨[.int .i64 r.1,.nilIface]⟩∧Le μ0 μ'∧Sq μ' w0 w' (.blk b1 36 [v8,v10]::.row v10 5 1 r.2.2.length cs11::rsF)∧Bp μ' b1 v8∧Rw μ' cs11 r.2.2):=by
 unfold bd_str at h
 refine enter func30 rfl (frm:=_::_::u2 (u5 (u10 []))) rfl (nz ?_)
 iterate 2 refine st ?_
 refine nx (st ?_)
 refine wl (s_callv isfn45 ef (e1 (et d6) e0) (bw_check m3 hS) ?_); clear hS; rintro _ w1 ⟨rfl,hS⟩; refine po ?_
 have m13:Bp μ0 b1 (.pointer (some ⟨b1,0,none⟩)):=.inr rfl
 refine nx ?_
 iterate 4 refine st ?_
 refine ld ((hS.blk d0).cell d1) (st ?_)
 obtain ⟨l14,g15,h⟩:=bI h
 have m17:=Rw.app m7 (Rw.str p_2) g15
 refine wl (s_appStr underlying32 underlying9 ti5 (et (k10 d2)) (et (k10 d3)) hS d1 g15 ?_); clear hS; intro v16 w2 rs_ hp_ hS; cases (show _=rs_ from hp_)
 replace hS:=Sep.reput hS p1; refine po ?_
 iterate 2 refine st ?_
 refine wl (s_store1 ti32 (et (k10 d6)) (et (k10 d4)) (hS.get d1).cellV hS d0 p1 rfl p0 dn ?_)
 clear hS; intro w3 hS
 refine nx (st (wl (su (u_lens underlying9 (et (k10 d7))) (dt (q10 p8)) ?_)))
 iterate 2 refine st ?_
 refine nw (cret ?_)
 obtain rfl:=oI h
 refine ret2 rfl d4 d5 ?_
 exact ⟨_,(.pointer (some ⟨b1,0,none⟩)),_,((cs6++Lib.strCells ⟨⟨p_2⟩⟩):List Value),rfl,Le.r,hS,m13,m17⟩
end Go.Proofs.YteiemedhecjgiaaDoor
set_option maxRecDepth 100000
set_option maxHeartbeats 20000000
namespace Go.Proofs.YteiemedhecjgiaaDoor
open Go.Wk Go.Xt Go.Y Tryd
variable {b1 b8 c2 c9 c11 c14 fu o9:Nat} {a1 a8 a10 a13:Option Addr} {v2 v5:Value} {cs6:List Value} {μ0:M} {w0 w:World} {rsF:List Res}
theorem pr_type_w (hg:Le Gm μ0) {p_1:TType} {r:List UInt8}  (h:pr_type p_1=some r) (hS:Sq μ0 w0 w (rsF)):CallsV prog 17 [.agg ⟨[.int .i64 p_1.Kind,S p_1.Gen]⟩] w (fun v w'=>∃ (μ':M) ,v=S r∧Le μ0 μ'∧Sq μ' w0 w' (rsF)):=by
 unfold pr_type at h
 refine enter func17 rfl (frm:=_::u10 []) rfl (nz ?_)
 refine wl (s_box (et d0) rfl hS ?_); clear hS; intro b1 w1 hb2 hS; refine po ?_
 refine st (ny (nz (st (ld ((hS.blk d0).cell d0) (nw (cblock (nz ?_)))))))
 iterate 2 refine st ?_
 refine nw ?_
 refine zCd h ?_ ?_
 intro h3 h
 refine nz (st (nw (cret ?_)))
 refine (fun h=>br (xr h)) ?_
 obtain rfl:=oI h
 refine ret1 rfl d2 ?_
 replace hS:=hS.drop Rm.z
 exact ⟨_,rfl,Le.r,hS⟩
 intro h3 h
 refine nz ?_
 iterate 2 refine st ?_
 refine nw ?_
 refine zCd h ?_ ?_
 intro h4 h
 refine nz (st (nw (cret ?_)))
 refine (fun h=>br (xr h)) ?_
 obtain rfl:=oI h
 refine ret1 rfl d2 ?_
 replace hS:=hS.drop Rm.z
 exact ⟨_,rfl,Le.r,hS⟩
 intro h4 h
 refine cskip ?_
 refine (fun h=>bn (xn h)) ?_
 refine nz (st (ld ((hS.blk d0).cell d1) (st (nw (cret ?_)))))
 obtain rfl:=oI h
 refine ret1 rfl d2 ?_
 replace hS:=hS.drop Rm.z
 exact ⟨_,rfl,Le.r,hS⟩
theorem pr_tight_w (hg:Le Gm μ0) {p_1:Int} {r:List UInt8×Int}  (h:pr_tight p_1=some r) (hS:Sq μ0 w0 w (rsF)):CallsV prog 55 [.int .i64 p_1] w (fun v w'=>∃ (μ':M) ,v=.tuple ⟨[S r.1,.int .i64 r.2]⟩∧Le μ0 μ'∧Sq μ' w0 w' (rsF)):=by
 unfold pr_tight at h
 refine enter func55 rfl (frm:=_::u2 (u2 (u10 (u20 [])))) rfl (nz ?_)
 iterate 2 refine st ?_
 refine ny (nz ?_)
 obtain ⟨r1,g2,h⟩:=bI h
 refine ca (p_levels_w hg g2 hS) ?_
 rintro _ w1 ⟨μ1,a4,c5,rfl,le3,hS,m6⟩
 refine po (wl (su (u_lensl underlying116 (et d8)) (dt p9) (st (nw (cblock ?_)))))
 refine cloopE (rg 2 6++rg 11 19) (by decide +kernel) (fun n m w=>∃ μx i27,m=(yK2 (yO6 2 (yK2 (.i (.int .i64 i27)::(yO10 11 (yO9 21 []))))))∧pr_tight_l1 p_1 r1 n i27=some r∧Le μ1 μx∧Sq μx w0 w (rsF)) (by rintro _ _ _ ⟨_,_,rfl,_⟩; rfl) _ _ (aK2 (aO6 (aK2 (aI (aO10 (aO9 aZ)))))) ⟨_,0,rfl,h,Le.r,hS⟩ ?_
 rintro n_1 _ t w2 ⟨μ2,i27,rfl,h,le48,hS⟩
 rcases n_1 with _|n_1
 cases h
 unfold pr_tight_l1 at h
 refine cnrm (mK2 (mO6 (mK2 (mi (mO10 (mO9 mz)))))) (nz (st (ny ?_)))
 refine zCd h ?_ ?_
 intro h49 h
 refine cskip (xn (cseq (cblock (nz (st ?_)))))
 obtain ⟨x50,g51,h⟩:=bI h
 obtain ⟨b52,o53,cs54,e55,f56,m57⟩:=SlR.elem (m6.up le48) g51
 obtain ⟨b58,rfl,m59⟩:=m57
 refine wl (su (u_iax underlying116 ti120 (et d8) (et (k10 d0)) e55) (dt (q10 p3)) (lds (f56 _ hS.a) rfl ?_))
 refine wl (s_alloc ti120 hS ?_); clear hS; intro b60 w3 hb61 hS; refine po ?_
 refine st (wl (s_storeA ti120 (et d5) (et (k10 d4)) rfl rfl hS d0 rfl p0 dn ?_))
 clear hS; intro w4 hS
 refine nx (st (ld ((hS.blk d0).cell d0) ?_))
 obtain ⟨es62,c63,hc64,hq65⟩:=m59
 refine wl (s_rangeR underlying118 (et (k10 d6)) hS (hc64 _ hS.a) ?_); clear hS; intro b66 w5 hb67 hS; refine po ?_
 refine nw (cblock ?_)
 obtain ⟨o68,g69,h⟩:=bI h
 replace hS:=hS.drop (Rm.s Rm.z)
 refine cloopE (rg 2 2++rg 6 2++rg 18 11) (by decide) (fun n m w=>∃ μx sn70,m=(yK2 (yO2 2 (yK2 (yO2 6 (yK10 (yO10 18 (yO1 28 [])))))))∧some r=some r∧Le μ2 μx∧Sq μx w0 w (.mit b66 b58 c63 sn70 c63::rsF)∧MzM μx es62 sn70 p_1 n) (by rintro _ _ _ ⟨_,_,rfl,_⟩; rfl) _ _ (aK2 (aO2 (aK2 (aO2 (aK10 (aO10 (aO1 aZ))))))) ⟨_,[],rfl,rfl,Le.r,hS,Mz.start⟩ ?_
 rintro n73 _ t w6 ⟨μ3,sn70,rfl,_,le71,hS,m72⟩
 refine cnrm (mK2 (mO2 (mK2 (mO2 (mK10 (mO10 (mO1 mz))))))) (nz ?_)
 refine wl (s_nextR (et (k10 d7)) hS d0 (hc64 _ (le71 _ hS.a)) hq65 ?_ ?_)
 clear hS; intro k74 y75 n76 hi77 w7 rs_ hp_ hS; cases (show _=rs_ from hp_)
 replace hS:=Sep.reput hS p0; refine po ?_
 refine st (ny (cift (et (k10 d9)) (cskip (xn (cblock (nz (wl (s_entryR (et (k10 d7)) hS d0 (hc64 _ (le71 _ hS.a)) hq65 hi77 (dt (q20 p0)) ?_))))))))
 iterate 4 refine st ?_
 refine nx ?_
 iterate 3 refine st ?_
 refine nw ?_
 refine cifd (et (k20 d5)) (fun h79=>?_) (fun h80=>?_)
 obtain ⟨h81,h82⟩:=Mz.hit hq65 hi77 h79 g69; subst h82; replace h:=iT h81 h
 refine nz ?_
 iterate 2 refine st ?_
 obtain ⟨i87,g88,h⟩:=bI h
 refine wl (su (u_addc (et (k20 d7)) ec g88) (dt (q20 p8)) ?_)
 iterate 2 refine st ?_
 refine nw (cret ((fun h=>br (xr (br (br (xr (xr (br (xr h)))))))) ?_))
 obtain rfl:=oI h
 refine ret2 rfl d2 d3 ?_
 replace hS:=hS.drop Rm.z
 exact ⟨_,rfl,(le3.t (le48.t le71)),hS⟩
 obtain ⟨n84,h85,m86⟩:=Mz.step m72 hq65 hi77 h80
 refine cskip ?_
 refine (fun h=>bn (xl h)) ?_
 exact ⟨n84,_,_,rfl,(aK2 (aO2 (aK2 (aO2 (aK10 (aO10 (aO1 aZ))))))),⟨_,(sn70++[n76]),rfl,rfl,le71,hS,m86⟩,h85⟩
 intro hl78; replace h:=iF (Mz.fin m72 hq65 hl78 g69) h; refine po ?_
 refine st (ny (ciff (et (k10 d9)) (cexit ?_)))
 refine (fun h=>xe (xe (bh h))) ?_
 refine (fun h=>bn (xn h)) ?_
 refine creg ?_
 obtain ⟨i89,g90,h⟩:=bI h
 refine wl (su (u_addc (et (k10 d0)) ec g90) (dt (q20 p9)) (st (wnil (xl ?_))))
 replace hS:=hS.drop Rm.z
 exact ⟨n_1,_,_,rfl,(aK2 (aO6 (aK2 (aI (aO10 (aO9 aZ)))))),⟨_,i89,rfl,h,(le48.t le71),hS⟩,Nat.lt_succ_self _⟩
 intro h49 h
 refine cexit ?_
 refine (fun h=>xe (xe (bh h))) ?_
 refine xn (cseq (nz (st (nw (cblock (nz ?_))))))
 iterate 2 refine st ?_
 refine nw ?_
 refine zCd h ?_ ?_
 intro h91 h
 refine nz ?_
 iterate 2 refine st ?_
 refine nw (cret ?_)
 refine (fun h=>br (xr h)) ?_
 obtain rfl:=oI h
 refine ret2 rfl d2 d3 ?_
 exact ⟨_,rfl,(le3.t le48),hS⟩
 intro h91 h
 refine nz ?_
 iterate 2 refine st ?_
 refine nw ?_
 refine zCd h ?_ ?_
 intro h92 h
 refine nz ?_
 iterate 2 refine st ?_
 refine nw (cret ?_)
 refine (fun h=>br (xr h)) ?_
 obtain rfl:=oI h
 refine ret2 rfl d2 d3 ?_
 exact ⟨_,rfl,(le3.t le48),hS⟩
 intro h92 h
 refine cskip ?_
 refine (fun h=>bn (xn h)) ?_
 refine nz ?_
 iterate 2 refine st ?_
 refine nw (cret ?_)
 obtain rfl:=oI h
 refine ret2 rfl d2 d3 ?_
 exact ⟨_,rfl,(le3.t le48),hS⟩
theorem pw_putd_w {μ0:M} {w0 w:World} {rsF:List Res} (hg:Le Gm μ0) {b1:Nat} {v2:Value} {buf_4:List UInt8} {v5:Value} {cs6:List Value} {p_2:List (List UInt8)} {a8:Option Addr} {c9:Nat} {r:List UInt8} (m3:Bp μ0 b1 v2) (m7:Rw μ0 cs6 buf_4) (m10:Sl μ0 a8 c9 p_2) (h:pw_putd buf_4 p_2=some r) (hS:Sq μ0 w0 w (.blk b1 36 [v2,v5]::.row v5 5 1 buf_4.length cs6::rsF)):CallsDV prog 16 [.pointer (some ⟨b1,0,none⟩),.slice a8 p_2.length c9] w (fun v w'=>∃ (μ':M) (v11:Value) (v13:Value) (cs14:List Value),v=.tuple ⟨[]⟩∧Le μ0 μ'∧Sq μ' w0 w' (.blk b1 36 [v11,v13]::.row v13 5 1 r.length cs14::rsF)∧Bp μ' b1 v11∧Rw μ' cs14 r):=by
 unfold pw_putd at h
 refine enterDD func16 rfl (frm:=[_,_,_,_,_,_,_,_,_,_,_,_,_,_,_,_,_,_,_,_,_,_,_,_,_,_,_]) rfl (nz (st (wl (su (u_lensl underlying64 (et d6)) (dt p7) (st (nw (cblock ?_)))))))
 refine cloopE ([5]++rg 9 18) (by decide) (fun n m w=>∃ μx i51 v52 l56 v54 cs55,m=(yK5 (yO1 5 (yK2 (.i (.int .i64 i51)::(yO10 9 (yO8 19 []))))))∧pw_putd_l1 p_2 n i51 l56=some r∧Le μ0 μx∧Sq μx w0 w (.blk b1 36 [v52,v54]::.row v54 5 1 l56.length cs55::rsF)∧Bp μx b1 v52∧Rw μx cs55 l56) (by rintro _ _ _ ⟨_,_,_,_,_,_,rfl,_⟩; rfl) _ _ (aK5 (aO1 (aK2 (aI (aO10 (aO8 aZ)))))) ⟨_,0,v2,buf_4,v5,cs6,rfl,h,Le.r,hS,m3,m7⟩ ?_
 rintro n_1 _ t w1 ⟨μ1,i51,v52,l56,v54,cs55,rfl,h,le93,hS,m94,m95⟩
 rcases n_1 with _|n_1
 cases h
 unfold pw_putd_l1 at h
 refine cnrm (mK5 (mO1 (mK2 (mi (mO10 (mO8 mz)))))) (nz (st (ny ?_)))
 refine zCd h ?_ ?_
 intro h96 h
 refine cskip (xn (cseq (cblock (nz ?_))))
 obtain ⟨x97,g98,h⟩:=bI h
 obtain ⟨b99,o100,cs101,e102,f103,m104⟩:=SlR.elem (m10.up le93) g98
 obtain rfl:=m104
 refine wl (su (u_iax underlying64 ti9 (et d6) (et d8) e102) (dt (q10 p0)) (ld ((f103 _ hS.a).one d0) (st (ny (nz ?_)))))
 iterate 3 refine st ?_
 obtain ⟨r105,g106,h⟩:=bI h
 replace hS:=(hS.bg Y1).bg Y1
 refine ca (bd_len_w (hg.t le93) m94 m95 g106 hS) ?_
 rintro _ w2 ⟨μ2,rfl,le107,hS⟩
 refine po (st (nw ?_))
 refine ccutE (rg 17 4) (by decide) (fun m w=>∃ μx v108 l112 v110 cs111,m=(yK10 (yK7 (yO4 17 [])))∧pw_putd_j1 i51 x97 (pw_putd_l1 p_2 n_1) l112=some r∧Le μ2 μx∧Sq μx w0 w (.blk b1 36 [v108,v110]::.row v110 5 1 l112.length cs111::rsF)∧Bp μx b1 v108∧Rw μx cs111 l112) (by rintro _ _ ⟨_,_,_,_,_,rfl,_⟩; rfl) ?_ ?_
 refine zCd h ?_ ?_
 intro h114 h
 refine creg ?_
 iterate 3 refine st ?_
 obtain ⟨r115,g116,h⟩:=bI h
 replace hS:=(hS.bg Y1).bg Y1
 refine ca (bd_byte_w (hg.t (le93.t le107)) (m94.up le107) (m95.up le107) g116 hS) ?_
 rintro _ w3 ⟨μ3,v118,v120,cs121,rfl,le117,hS,m119,m122⟩
 refine po (wnil (xl ?_))
 exact ⟨_,_,rfl,(aK10 (aK7 (aO4 aZ))),_,_,r115.2,_,_,rfl,h,le117,hS,m119,m122⟩
 intro h114 h
 refine cskip (xl ?_)
 exact ⟨_,_,rfl,(aK10 (aK7 (aO4 aZ))),_,_,_,_,_,rfl,h,Le.r,hS,(m94.up le107),(m95.up le107)⟩
 rintro _ t w4 ⟨μ4,v108,l112,v110,cs111,rfl,h,le123,hS,m124,m125⟩
 unfold pw_putd_j1 at h
 refine nrm (mK10 (mK7 (mO4 mz))) (xn (creg ?_))
 iterate 4 refine st ?_
 obtain ⟨r126,g127,h⟩:=bI h
 replace hS:=(hS.bg Y1).bg Y1
 refine ca (bd_str_w (hg.t (le93.t (le107.t le123))) m124 m125 g127 hS) ?_
 rintro _ w5 ⟨μ5,v129,v131,cs132,rfl,le128,hS,m130,m133⟩
 refine po (wnil ?_)
 refine (fun h=>bn (xn h)) ?_
 refine creg ?_
 obtain ⟨i134,g135,h⟩:=bI h
 refine wl (su (u_addc (et d8) ec g135) (dt (q20 p6)) (st (wnil (xl ?_))))
 exact ⟨n_1,_,_,rfl,(aK5 (aO1 (aK2 (aI (aO10 (aO8 aZ)))))),⟨_,i134,v129,r126.2.2,v131,cs132,rfl,h,(le93.t (le107.t (le123.t le128))),hS,m130,m133⟩,Nat.lt_succ_self _⟩
 intro h96 h
 refine cexit ?_
 refine (fun h=>xe (xe (bh h))) ?_
 obtain rfl:=oI h
 refine end0 rfl ?_
 exact ⟨_,_,_,_,rfl,le93,hS,m94,m95⟩
theorem pw_put_w (hg:Le Gm μ0) {buf_4:List UInt8} {p_2:List (List UInt8)} {r:List UInt8} (m3:Bp μ0 b1 v2) (m7:Rw μ0 cs6 buf_4) (m10:Sl μ0 a8 c9 p_2) (h:pw_put buf_4 p_2=some r) (hS:Sq μ0 w0 w (.blk b1 36 [v2,v5]::.row v5 5 1 buf_4.length cs6::rsF)):CallsV prog 16 [.pointer (some ⟨b1,0,none⟩),.slice a8 p_2.length c9] w (fun v w'=>∃ (μ':M) (v11:Value) (v13:Value) (cs14:List Value),v=.tuple ⟨[]⟩∧Le μ0 μ'∧Sq μ' w0 w' (.blk b1 36 [v11,v13]::.row v13 5 1 r.length cs14::rsF)∧Bp μ' b1 v11∧Rw μ' cs14 r):=by
 unfold pw_put at h
 refine enter func16 rfl (frm:=_::_::u5 (u20 [])) rfl (nz (st (wl (su (u_lensl underlying64 (et d6)) (dt p7) (st (nw (cblock ?_)))))))
 refine cloopE ([5]++rg 9 18) (by decide) (fun n m w=>∃ μx i51 v52 l56 v54 cs55,m=(yK5 (yO1 5 (yK2 (.i (.int .i64 i51)::(yO10 9 (yO8 19 []))))))∧pw_put_l1 p_2 n i51 l56=some r∧Le μ0 μx∧Sq μx w0 w (.blk b1 36 [v52,v54]::.row v54 5 1 l56.length cs55::rsF)∧Bp μx b1 v52∧Rw μx cs55 l56) (by rintro _ _ _ ⟨_,_,_,_,_,_,rfl,_⟩; rfl) _ _ (aK5 (aO1 (aK2 (aI (aO10 (aO8 aZ)))))) ⟨_,0,v2,buf_4,v5,cs6,rfl,h,Le.r,hS,m3,m7⟩ ?_
 rintro n_1 _ t w1 ⟨μ1,i51,v52,l56,v54,cs55,rfl,h,le93,hS,m94,m95⟩
 rcases n_1 with _|n_1
 cases h
 unfold pw_put_l1 at h
 refine cnrm (mK5 (mO1 (mK2 (mi (mO10 (mO8 mz)))))) (nz (st (ny ?_)))
 refine zCd h ?_ ?_
 intro h96 h
 refine cskip (xn (cseq (cblock (nz ?_))))
 obtain ⟨x97,g98,h⟩:=bI h
 obtain ⟨b99,o100,cs101,e102,f103,m104⟩:=SlR.elem (m10.up le93) g98
 obtain rfl:=m104
 refine wl (su (u_iax underlying64 ti9 (et d6) (et d8) e102) (dt (q10 p0)) (ld ((f103 _ hS.a).one d0) (st (ny (nz ?_)))))
 iterate 3 refine st ?_
 obtain ⟨r105,g106,h⟩:=bI h
 replace hS:=(hS.bg Y1).bg Y1
 refine ca (bd_len_w (hg.t le93) m94 m95 g106 hS) ?_
 rintro _ w2 ⟨μ2,rfl,le107,hS⟩
 refine po (st (nw ?_))
 refine ccutE (rg 17 4) (by decide) (fun m w=>∃ μx v108 l112 v110 cs111,m=(yK10 (yK7 (yO4 17 [])))∧pw_put_j1 i51 x97 (pw_put_l1 p_2 n_1) l112=some r∧Le μ2 μx∧Sq μx w0 w (.blk b1 36 [v108,v110]::.row v110 5 1 l112.length cs111::rsF)∧Bp μx b1 v108∧Rw μx cs111 l112) (by rintro _ _ ⟨_,_,_,_,_,rfl,_⟩; rfl) ?_ ?_
 refine zCd h ?_ ?_
 intro h114 h
 refine creg ?_
 iterate 3 refine st ?_
 obtain ⟨r115,g116,h⟩:=bI h
 replace hS:=(hS.bg Y1).bg Y1
 refine ca (bd_byte_w (hg.t (le93.t le107)) (m94.up le107) (m95.up le107) g116 hS) ?_
 rintro _ w3 ⟨μ3,v118,v120,cs121,rfl,le117,hS,m119,m122⟩
 refine po (wnil (xl ?_))
 exact ⟨_,_,rfl,(aK10 (aK7 (aO4 aZ))),_,_,r115.2,_,_,rfl,h,le117,hS,m119,m122⟩
 intro h114 h
 refine cskip (xl ?_)
 exact ⟨_,_,rfl,(aK10 (aK7 (aO4 aZ))),_,_,_,_,_,rfl,h,Le.r,hS,(m94.up le107),(m95.up le107)⟩
 rintro _ t w4 ⟨μ4,v108,l112,v110,cs111,rfl,h,le123,hS,m124,m125⟩
 unfold pw_put_j1 at h
 refine nrm (mK10 (mK7 (mO4 mz))) (xn (creg ?_))
 iterate 4 refine st ?_
 obtain ⟨r126,g127,h⟩:=bI h
 replace hS:=(hS.bg Y1).bg Y1
 refine ca (bd_str_w (hg.t (le93.t (le107.t le123))) m124 m125 g127 hS) ?_
 rintro _ w5 ⟨μ5,v129,v131,cs132,rfl,le128,hS,m130,m133⟩
 refine po (wnil ?_)
 refine (fun h=>bn (xn h)) ?_
 refine creg ?_
 obtain ⟨i134,g135,h⟩:=bI h
 refine wl (su (u_addc (et d8) ec g135) (dt (q20 p6)) (st (wnil (xl ?_))))
 exact ⟨n_1,_,_,rfl,(aK5 (aO1 (aK2 (aI (aO10 (aO8 aZ)))))),⟨_,i134,v129,r126.2.2,v131,cs132,rfl,h,(le93.t (le107.t (le123.t le128))),hS,m130,m133⟩,Nat.lt_succ_self _⟩
 intro h96 h
 refine cexit ?_
 refine (fun h=>xe (xe (bh h))) ?_
 obtain rfl:=oI h
 refine end0 rfl ?_
 exact ⟨_,_,_,_,rfl,le93,hS,m94,m95⟩
def pw_expr_S (q:(List UInt8)→TExpr→Int→Option (List UInt8)):Prop:=∀ {μ0:M} {w0 w:World} {rsF:List Res} (hg:Le Gm μ0) {b1:Nat} {v2:Value} {buf_4:List UInt8} {v5:Value} {cs6:List Value} {p_2:TExpr} {b8 o9:Nat} {a10:Option Addr} {c11:Nat} {p_3:Int} {r:List UInt8} (m3:Bp μ0 b1 v2) (m7:Rw μ0 cs6 buf_4) (m12:Sl μ0 a10 c11 p_2.Kids) (m13:At μ0 b8 o9 [.int .i64 p_2.Kind,.int .i64 p_2.N,S p_2.Name,.slice a10 p_2.Kids.length c11]) (h:q buf_4 p_2 p_3=some r) (hS:Sq μ0 w0 w (.blk b1 36 [v2,v5]::.row v5 5 1 buf_4.length cs6::rsF)),CallsV prog 46 [.pointer (some ⟨b1,0,none⟩),.pointer (some ⟨b8,o9,none⟩),.int .i64 p_3] w (fun v w'=>∃ (μ':M) (v14:Value) (v16:Value) (cs17:List Value),v=.tuple ⟨[]⟩∧Le μ0 μ'∧Sq μ' w0 w' (.blk b1 36 [v14,v16]::.row v16 5 1 r.length cs17::rsF)∧Bp μ' b1 v14∧Rw μ' cs17 r)
def pw_args_S (q:(List UInt8)→(List TExpr)→Option (List UInt8)):Prop:=∀ {μ0:M} {w0 w:World} {rsF:List Res} (hg:Le Gm μ0) {b1:Nat} {v2:Value} {buf_4:List UInt8} {v5:Value} {cs6:List Value} {p_2:List TExpr} {a8:Option Addr} {c9:Nat} {r:List UInt8} (m3:Bp μ0 b1 v2) (m7:Rw μ0 cs6 buf_4) (m10:Sl μ0 a8 c9 p_2) (h:q buf_4 p_2=some r) (hS:Sq μ0 w0 w (.blk b1 36 [v2,v5]::.row v5 5 1 buf_4.length cs6::rsF)),CallsV prog 56 [.pointer (some ⟨b1,0,none⟩),.slice a8 p_2.length c9] w (fun v w'=>∃ (μ':M) (v11:Value) (v13:Value) (cs14:List Value),v=.tuple ⟨[]⟩∧Le μ0 μ'∧Sq μ' w0 w' (.blk b1 36 [v11,v13]::.row v13 5 1 r.length cs14::rsF)∧Bp μ' b1 v11∧Rw μ' cs14 r)
structure PrESound (sf:PrE):Prop where
  pw_expr:pw_expr_S sf.pw_expr
  pw_args:pw_args_S sf.pw_args
theorem pw_expr_w {self:PrE} (IH:PrESound self):pw_expr_S (pw_expr self):=by
 intro μ0 w0 w rsF hg b1 v2 buf_4 v5 cs6 p_2 b8 o9 a10 c11 p_3 r m3 m7 m12 m13 h hS
 unfold pw_expr at h
 refine enterF func46 rfl (frm:=_::_::_::u2 (u2 (u5 (u10 (u50 (u50 (u50 []))))))) rfl (nz ?_)
 iterate 3 refine st ?_
 refine ld ((m13 _ hS.a).one d0) ?_
 obtain ⟨r19,g20,h⟩:=bI h
 refine ca (pr_tight_w hg g20 hS) ?_
 rintro _ w1 ⟨μ1,rfl,le21,hS⟩
 refine po ?_
 iterate 5 refine st ?_
 refine ny (nz ?_)
 iterate 3 refine st ?_
 refine nw ?_
 refine zCd h ?_ ?_
 intro h22 h
 refine nz (st ?_)
 refine wl (s_bsl underlying64 ti9 (Parts.s ec rfl Parts.z) rfl rfl hS ?_); clear hS; intro b23 w2 hb24 hS; refine po ?_
 obtain ⟨μ2,le26,m25,hS⟩:=Sep.frzBlk (l:=([[40]]:List (List UInt8))) hS (Rw.one (α:=List UInt8) rfl) (Nat.le_of_ble_eq_true rfl)
 obtain ⟨r27,g28,h⟩:=bI h
 replace hS:=(hS.bg Y1).bg Y1
 refine ca (pw_put_w (hg.t (le21.t le26)) (m3.up (le21.t le26)) (m7.up (le21.t le26)) m25 g28 hS) ?_
 rintro _ w3 ⟨μ3,v30,v32,cs33,rfl,le29,hS,m31,m34⟩
 refine po (nw (creg (st ?_)))
 refine wl (s_bsl underlying64 ti9 (Parts.s ec rfl Parts.z) rfl rfl hS ?_); clear hS; intro b35 w4 hb36 hS; refine po ?_
 refine wl (s_defer ef (e1 (et (k20 d3)) (e1 (et (k20 d4)) e0)) dn (nx ?_))
 iterate 3 refine st ?_
 refine ld ((m13 _ ((le21.t (le26.t le29)) _ hS.a)).one d0) (nw (cblock (nz ?_)))
 iterate 2 refine st ?_
 refine nw ?_
 refine zCd h ?_ ?_
 intro h37 h
 refine creg ?_
 iterate 4 refine st ?_
 refine ld ((m13 _ ((le21.t (le26.t le29)) _ hS.a)).one d1) ?_
 obtain ⟨s38,g39,h⟩:=bI h
 refine wl (s_callv isfn33 ef (e1 (et (k60 d1)) (e1 ec e0)) (fmt_w (hg.t (le21.t (le26.t le29))) g39 hS) ?_); clear hS; rintro _ w5 ⟨rfl,hS⟩; refine po ?_
 refine wl (s_bsl underlying64 ti9 (Parts.s (et (k60 d2)) rfl Parts.z) rfl rfl hS ?_); clear hS; intro b40 w6 hb41 hS; refine po ?_
 obtain ⟨μ4,le43,m42,hS⟩:=Sep.frzBlk (l:=([s38]:List (List UInt8))) hS (Rw.one (α:=List UInt8) rfl) (Nat.le_of_ble_eq_true rfl)
 obtain ⟨r44,g45,h⟩:=bI h
 replace hS:=(hS.bg Y2).bg Y2
 refine ca (pw_put_w (hg.t (le21.t (le26.t (le29.t le43)))) (m31.up le43) (m34.up le43) m42 g45 hS) ?_
 rintro _ w7 ⟨μ5,v47,v49,cs50,rfl,le46,hS,m48,m51⟩
 refine po (wnil (bn (endD ?_)))
 replace hS:=hS.bg Y2
 obtain ⟨μ6,le53,m52,hS⟩:=Sep.frzBlk (l:=([[41]]:List (List UInt8))) hS (Rw.one (α:=List UInt8) rfl) (Nat.le_of_ble_eq_true rfl)
 obtain ⟨r54,g55,h⟩:=bI h
 replace hS:=(hS.bg Y1).bg Y1
 refine retD isfn16 (pw_putd_w (hg.t (le21.t (le26.t (le29.t (le43.t (le46.t le53)))))) (m48.up le53) (m51.up le53) m52 g55 hS) ?_
 rintro _ w8 ⟨μ7,v57,v59,cs60,rfl,le56,hS,m58,m61⟩
 obtain rfl:=oI h
 refine retDN rfl RVs.z ?_
 exact ⟨_,_,_,_,rfl,(le21.t (le26.t (le29.t (le43.t (le46.t (le53.t le56)))))),hS,m58,m61⟩
 intro h37 h
 refine nz ?_
 iterate 2 refine st ?_
 refine nw ?_
 refine zCd h ?_ ?_
 intro h62 h
 refine creg (st ?_)
 refine wl (s_bsl underlying64 ti9 (Parts.s ec rfl (Parts.s ec rfl Parts.z)) rfl rfl hS ?_); clear hS; intro b63 w9 hb64 hS; refine po ?_
 iterate 3 refine st ?_
 refine ld ((m13 _ ((le21.t (le26.t le29)) _ hS.a)).one d1) ?_
 obtain ⟨μ8,le66,m65,hS⟩:=Sep.frzBlk (l:=([[102,97,108,115,101],[116,114,117,101]]:List (List UInt8))) hS (Rw.cons (α:=List UInt8) (cs:=[S [102,97,108,115,101]]) rfl (Rw.cons (α:=List UInt8) (cs:=[S [116,114,117,101]]) rfl Rw.nil)) (Nat.le_of_ble_eq_true rfl)
 obtain ⟨x67,g68,h⟩:=bI h
 obtain ⟨b69,o70,cs71,e72,f73,m74⟩:=SlR.elem m65 g68
 obtain rfl:=m74
 refine wl (su (u_iax underlying64 ti9 (et (k60 d8)) (et (k70 d2)) e72) (dt (q70 p3)) (ld ((f73 _ hS.a).one d0) ?_))
 refine wl (s_bsl underlying64 ti9 (Parts.s (et (k70 d4)) rfl Parts.z) rfl rfl hS ?_); clear hS; intro b75 w10 hb76 hS; refine po ?_
 obtain ⟨μ9,le78,m77,hS⟩:=Sep.frzBlk (l:=([x67]:List (List UInt8))) hS (Rw.one (α:=List UInt8) rfl) (Nat.le_of_ble_eq_true rfl)
 obtain ⟨r79,g80,h⟩:=bI h
 replace hS:=(hS.bg Y2).bg Y2
 refine ca (pw_put_w (hg.t (le21.t (le26.t (le29.t (le66.t le78))))) (m31.up (le66.t le78)) (m34.up (le66.t le78)) m77 g80 hS) ?_
 rintro _ w11 ⟨μ10,v82,v84,cs85,rfl,le81,hS,m83,m86⟩
 refine po (wnil (bn (endD ?_)))
 replace hS:=hS.bg Y2
 obtain ⟨μ11,le88,m87,hS⟩:=Sep.frzBlk (l:=([[41]]:List (List UInt8))) hS (Rw.one (α:=List UInt8) rfl) (Nat.le_of_ble_eq_true rfl)
 obtain ⟨r89,g90,h⟩:=bI h
 replace hS:=(hS.bg Y1).bg Y1
 refine retD isfn16 (pw_putd_w (hg.t (le21.t (le26.t (le29.t (le66.t (le78.t (le81.t le88))))))) (m83.up le88) (m86.up le88) m87 g90 hS) ?_
 rintro _ w12 ⟨μ12,v92,v94,cs95,rfl,le91,hS,m93,m96⟩
 obtain rfl:=oI h
 refine retDN rfl RVs.z ?_
 exact ⟨_,_,_,_,rfl,(le21.t (le26.t (le29.t (le66.t (le78.t (le81.t (le88.t le91))))))),hS,m93,m96⟩
 intro h62 h
 refine nz ?_
 iterate 2 refine st ?_
 refine nw ?_
 refine zCd h ?_ ?_
 intro h97 h
 refine creg ?_
 iterate 4 refine st ?_
 refine ld ((m13 _ ((le21.t (le26.t le29)) _ hS.a)).one d2) ?_
 refine wl (s_bsl underlying64 ti9 (Parts.s (et (k80 d3)) rfl Parts.z) rfl rfl hS ?_); clear hS; intro b98 w13 hb99 hS; refine po ?_
 obtain ⟨μ13,le101,m100,hS⟩:=Sep.frzBlk (l:=([p_2.Name]:List (List UInt8))) hS (Rw.one (α:=List UInt8) rfl) (Nat.le_of_ble_eq_true rfl)
 obtain ⟨r102,g103,h⟩:=bI h
 replace hS:=(hS.bg Y2).bg Y2
 refine ca (pw_put_w (hg.t (le21.t (le26.t (le29.t le101)))) (m31.up le101) (m34.up le101) m100 g103 hS) ?_
 rintro _ w14 ⟨μ14,v105,v107,cs108,rfl,le104,hS,m106,m109⟩
 refine po (wnil (bn (endD ?_)))
 replace hS:=hS.bg Y2
 obtain ⟨μ15,le111,m110,hS⟩:=Sep.frzBlk (l:=([[41]]:List (List UInt8))) hS (Rw.one (α:=List UInt8) rfl) (Nat.le_of_ble_eq_true rfl)
 obtain ⟨r112,g113,h⟩:=bI h
 replace hS:=(hS.bg Y1).bg Y1
 refine retD isfn16 (pw_putd_w (hg.t (le21.t (le26.t (le29.t (le101.t (le104.t le111)))))) (m106.up le111) (m109.up le111) m110 g113 hS) ?_
 rintro _ w15 ⟨μ16,v115,v117,cs118,rfl,le114,hS,m116,m119⟩
 obtain rfl:=oI h
 refine retDN rfl RVs.z ?_
 exact ⟨_,_,_,_,rfl,(le21.t (le26.t (le29.t (le101.t (le104.t (le111.t le114)))))),hS,m116,m119⟩
 intro h97 h
 refine cseq (nz ?_)
 iterate 2 refine st ?_
 refine nw ?_
 refine ccutE ([88]) (by decide) (fun m w=>∃ μx b120,m=(yK50 (yK20 (yK10 (yK6 (.i (.bool b120)::(yK1 (yO1 88 [])))))))∧pw_expr_j1 self p_2 r19 r27 b120=some r∧Le μ3 μx∧Sq μx w0 w (.blk b1 36 [v30,v32]::.row v32 5 1 r27.length cs33::.blk b35 9 [S [41]]::rsF)) (by rintro _ _ ⟨_,_,rfl,_⟩; rfl) ?_ ?_
 refine zCd h ?_ ?_
 intro h121 h
 refine cskip (xl ?_)
 replace hS:=(hS.bg Y2).bg Y2
 exact ⟨_,_,rfl,(aK50 (aK20 (aK10 (aK6 (aI (aK1 (aO1 aZ))))))),_,(decide (p_2.Kind=4)),rfl,h,Le.r,hS⟩
 intro h121 h
 refine creg ?_
 iterate 2 refine st ?_
 refine wnil (xl ?_)
 replace hS:=(hS.bg Y2).bg Y2
 exact ⟨_,_,rfl,(aK50 (aK20 (aK10 (aK6 (aI (aK1 (aO1 aZ))))))),_,(decide (p_2.Kind=5)),rfl,h,Le.r,hS⟩
 rintro _ t w16 ⟨μ17,b120,rfl,h,le122,hS⟩
 unfold pw_expr_j1 at h
 refine nrm (mK50 (mK20 (mK10 (mK6 (mi (mK1 (mO1 mz))))))) (xn ?_)
 refine zCb h ?_ ?_
 intro h123 h
 refine nz ?_
 iterate 2 refine st ?_
 refine wl (s_bsl underlying64 ti9 (Parts.s (et (k90 d0)) rfl Parts.z) rfl rfl hS ?_); clear hS; intro b124 w17 hb125 hS; refine po ?_
 obtain ⟨μ18,le127,m126,hS⟩:=Sep.frzBlk (l:=([r19.1]:List (List UInt8))) hS (Rw.one (α:=List UInt8) rfl) (Nat.le_of_ble_eq_true rfl)
 obtain ⟨r128,g129,h⟩:=bI h
 replace hS:=(hS.bg Y1).bg Y1
 refine ca (pw_put_w (hg.t (le21.t (le26.t (le29.t (le122.t le127))))) (m31.up (le122.t le127)) (m34.up (le122.t le127)) m126 g129 hS) ?_
 rintro _ w18 ⟨μ19,v131,v133,cs134,rfl,le130,hS,m132,m135⟩
 refine po (nw (creg ?_))
 iterate 4 refine st ?_
 refine ld ((m13 _ ((le21.t (le26.t (le29.t (le122.t (le127.t le130))))) _ hS.a)).one d3) ?_
 obtain ⟨x136,g137,h⟩:=bI h
 obtain ⟨b138,o139,cs140,e141,f142,m143⟩:=SlR.elem (m12.up (le21.t (le26.t (le29.t (le122.t (le127.t le130)))))) g137
 obtain ⟨a144,c145,rfl,m146⟩:=TExpr.o m143
 refine wl (su (u_iax underlying65 ti67 (et (k90 d7)) ec e141) (dt (q90 p8)) ?_)
 obtain ⟨r147,g148,h⟩:=bI h
 replace hS:=(hS.bg Y1).bg Y1
 refine ca (IH.pw_expr (hg.t (le21.t (le26.t (le29.t (le122.t (le127.t le130)))))) m132 m135 m146 f142 g148 hS) ?_
 rintro _ w19 ⟨μ20,v150,v152,cs153,rfl,le149,hS,m151,m154⟩
 refine po (wnil (bn (endD ?_)))
 replace hS:=hS.bg Y2
 obtain ⟨μ21,le156,m155,hS⟩:=Sep.frzBlk (l:=([[41]]:List (List UInt8))) hS (Rw.one (α:=List UInt8) rfl) (Nat.le_of_ble_eq_true rfl)
 obtain ⟨r157,g158,h⟩:=bI h
 replace hS:=(hS.bg Y1).bg Y1
 refine retD isfn16 (pw_putd_w (hg.t (le21.t (le26.t (le29.t (le122.t (le127.t (le130.t (le149.t le156)))))))) (m151.up le156) (m154.up le156) m155 g158 hS) ?_
 rintro _ w20 ⟨μ22,v160,v162,cs163,rfl,le159,hS,m161,m164⟩
 obtain rfl:=oI h
 refine retDN rfl RVs.z ?_
 exact ⟨_,_,_,_,rfl,(le21.t (le26.t (le29.t (le122.t (le127.t (le130.t (le149.t (le156.t le159)))))))),hS,m161,m164⟩
 intro h123 h
 refine nz ?_
 iterate 2 refine st ?_
 refine nw ?_
 refine zCd h ?_ ?_
 intro h165 h
 refine creg ?_
 iterate 4 refine st ?_
 refine ld ((m13 _ ((le21.t (le26.t (le29.t le122))) _ hS.a)).one d2) ?_
 refine wl (s_bsl underlying64 ti9 (Parts.s ec rfl (Parts.s ec rfl (Parts.s (et (k100 d6)) rfl (Parts.s ec rfl Parts.z)))) rfl rfl hS ?_); clear hS; intro b166 w21 hb167 hS; refine po ?_
 obtain ⟨μ23,le169,m168,hS⟩:=Sep.frzBlk (l:=([[114,101,99,118],[40],p_2.Name,[41]]:List (List UInt8))) hS (Rw.cons (α:=List UInt8) (cs:=[S [114,101,99,118]]) rfl (Rw.cons (α:=List UInt8) (cs:=[S [40]]) rfl (Rw.cons (α:=List UInt8) (cs:=[S p_2.Name]) rfl (Rw.cons (α:=List UInt8) (cs:=[S [41]]) rfl Rw.nil)))) (Nat.le_of_ble_eq_true rfl)
 obtain ⟨r170,g171,h⟩:=bI h
 replace hS:=(hS.bg Y1).bg Y1
 refine ca (pw_put_w (hg.t (le21.t (le26.t (le29.t (le122.t le169))))) (m31.up (le122.t le169)) (m34.up (le122.t le169)) m168 g171 hS) ?_
 rintro _ w22 ⟨μ24,v173,v175,cs176,rfl,le172,hS,m174,m177⟩
 refine po (wnil (bn (endD ?_)))
 replace hS:=hS.bg Y2
 obtain ⟨μ25,le179,m178,hS⟩:=Sep.frzBlk (l:=([[41]]:List (List UInt8))) hS (Rw.one (α:=List UInt8) rfl) (Nat.le_of_ble_eq_true rfl)
 obtain ⟨r180,g181,h⟩:=bI h
 replace hS:=(hS.bg Y1).bg Y1
 refine retD isfn16 (pw_putd_w (hg.t (le21.t (le26.t (le29.t (le122.t (le169.t (le172.t le179))))))) (m174.up le179) (m177.up le179) m178 g181 hS) ?_
 rintro _ w23 ⟨μ26,v183,v185,cs186,rfl,le182,hS,m184,m187⟩
 obtain rfl:=oI h
 refine retDN rfl RVs.z ?_
 exact ⟨_,_,_,_,rfl,(le21.t (le26.t (le29.t (le122.t (le169.t (le172.t (le179.t le182))))))),hS,m184,m187⟩
 intro h165 h
 refine nz ?_
 iterate 2 refine st ?_
 refine nw ?_
 refine zCd h ?_ ?_
 intro h188 h
 refine nz (st ?_)
 refine wl (s_bsl underlying64 ti9 (Parts.s ec rfl Parts.z) rfl rfl hS ?_); clear hS; intro b189 w24 hb190 hS; refine po ?_
 obtain ⟨μ27,le192,m191,hS⟩:=Sep.frzBlk (l:=([[121,105,101,108,100]]:List (List UInt8))) hS (Rw.one (α:=List UInt8) rfl) (Nat.le_of_ble_eq_true rfl)
 obtain ⟨r193,g194,h⟩:=bI h
 replace hS:=(hS.bg Y1).bg Y1
 refine ca (pw_put_w (hg.t (le21.t (le26.t (le29.t (le122.t le192))))) (m31.up (le122.t le192)) (m34.up (le122.t le192)) m191 g194 hS) ?_
 rintro _ w25 ⟨μ28,v196,v198,cs199,rfl,le195,hS,m197,m200⟩
 refine po (nw (creg ?_))
 iterate 4 refine st ?_
 refine ld ((m13 _ ((le21.t (le26.t (le29.t (le122.t (le192.t le195))))) _ hS.a)).one d3) ?_
 obtain ⟨r201,g202,h⟩:=bI h
 replace hS:=(hS.bg Y1).bg Y1
 refine ca (IH.pw_args (hg.t (le21.t (le26.t (le29.t (le122.t (le192.t le195)))))) m197 m200 (m12.up (le21.t (le26.t (le29.t (le122.t (le192.t le195)))))) g202 hS) ?_
 rintro _ w26 ⟨μ29,v204,v206,cs207,rfl,le203,hS,m205,m208⟩
 refine po (wnil (bn (endD ?_)))
 replace hS:=hS.bg Y2
 obtain ⟨μ30,le210,m209,hS⟩:=Sep.frzBlk (l:=([[41]]:List (List UInt8))) hS (Rw.one (α:=List UInt8) rfl) (Nat.le_of_ble_eq_true rfl)
 obtain ⟨r211,g212,h⟩:=bI h
 replace hS:=(hS.bg Y1).bg Y1
 refine retD isfn16 (pw_putd_w (hg.t (le21.t (le26.t (le29.t (le122.t (le192.t (le195.t (le203.t le210)))))))) (m205.up le210) (m208.up le210) m209 g212 hS) ?_
 rintro _ w27 ⟨μ31,v214,v216,cs217,rfl,le213,hS,m215,m218⟩
 obtain rfl:=oI h
 refine retDN rfl RVs.z ?_
 exact ⟨_,_,_,_,rfl,(le21.t (le26.t (le29.t (le122.t (le192.t (le195.t (le203.t (le210.t le213)))))))),hS,m215,m218⟩
 intro h188 h
 refine nz ?_
 iterate 2 refine st ?_
 refine nw ?_
 refine zCd h ?_ ?_
 intro h219 h
 refine nz (st ?_)
 refine wl (s_bsl underlying64 ti9 (Parts.s ec rfl Parts.z) rfl rfl hS ?_); clear hS; intro b220 w28 hb221 hS; refine po ?_
 obtain ⟨μ32,le223,m222,hS⟩:=Sep.frzBlk (l:=([[114,101,115,117,109,101]]:List (List UInt8))) hS (Rw.one (α:=List UInt8) rfl) (Nat.le_of_ble_eq_true rfl)
 obtain ⟨r224,g225,h⟩:=bI h
 replace hS:=(hS.bg Y1).bg Y1
 refine ca (pw_put_w (hg.t (le21.t (le26.t (le29.t (le122.t le223))))) (m31.up (le122.t le223)) (m34.up (le122.t le223)) m222 g225 hS) ?_
 rintro _ w29 ⟨μ33,v227,v229,cs230,rfl,le226,hS,m228,m231⟩
 refine po (nw (creg ?_))
 iterate 4 refine st ?_
 refine ld ((m13 _ ((le21.t (le26.t (le29.t (le122.t (le223.t le226))))) _ hS.a)).one d3) ?_
 obtain ⟨r232,g233,h⟩:=bI h
 replace hS:=(hS.bg Y1).bg Y1
 refine ca (IH.pw_args (hg.t (le21.t (le26.t (le29.t (le122.t (le223.t le226)))))) m228 m231 (m12.up (le21.t (le26.t (le29.t (le122.t (le223.t le226)))))) g233 hS) ?_
 rintro _ w30 ⟨μ34,v235,v237,cs238,rfl,le234,hS,m236,m239⟩
 refine po (wnil (bn (endD ?_)))
 replace hS:=hS.bg Y2
 obtain ⟨μ35,le241,m240,hS⟩:=Sep.frzBlk (l:=([[41]]:List (List UInt8))) hS (Rw.one (α:=List UInt8) rfl) (Nat.le_of_ble_eq_true rfl)
 obtain ⟨r242,g243,h⟩:=bI h
 replace hS:=(hS.bg Y1).bg Y1
 refine retD isfn16 (pw_putd_w (hg.t (le21.t (le26.t (le29.t (le122.t (le223.t (le226.t (le234.t le241)))))))) (m236.up le241) (m239.up le241) m240 g243 hS) ?_
 rintro _ w31 ⟨μ36,v245,v247,cs248,rfl,le244,hS,m246,m249⟩
 obtain rfl:=oI h
 refine retDN rfl RVs.z ?_
 exact ⟨_,_,_,_,rfl,(le21.t (le26.t (le29.t (le122.t (le223.t (le226.t (le234.t (le241.t le244)))))))),hS,m246,m249⟩
 intro h219 h
 refine nz ?_
 iterate 2 refine st ?_
 refine nw ?_
 refine zCd h ?_ ?_
 intro h250 h
 refine nz (st ?_)
 refine wl (s_bsl underlying64 ti9 (Parts.s ec rfl Parts.z) rfl rfl hS ?_); clear hS; intro b251 w32 hb252 hS; refine po ?_
 obtain ⟨μ37,le254,m253,hS⟩:=Sep.frzBlk (l:=([[97,108,105,118,101]]:List (List UInt8))) hS (Rw.one (α:=List UInt8) rfl) (Nat.le_of_ble_eq_true rfl)
 obtain ⟨r255,g256,h⟩:=bI h
 replace hS:=(hS.bg Y1).bg Y1
 refine ca (pw_put_w (hg.t (le21.t (le26.t (le29.t (le122.t le254))))) (m31.up (le122.t le254)) (m34.up (le122.t le254)) m253 g256 hS) ?_
 rintro _ w33 ⟨μ38,v258,v260,cs261,rfl,le257,hS,m259,m262⟩
 refine po (nw (creg ?_))
 iterate 4 refine st ?_
 refine ld ((m13 _ ((le21.t (le26.t (le29.t (le122.t (le254.t le257))))) _ hS.a)).one d3) ?_
 obtain ⟨r263,g264,h⟩:=bI h
 replace hS:=(hS.bg Y1).bg Y1
 refine ca (IH.pw_args (hg.t (le21.t (le26.t (le29.t (le122.t (le254.t le257)))))) m259 m262 (m12.up (le21.t (le26.t (le29.t (le122.t (le254.t le257)))))) g264 hS) ?_
 rintro _ w34 ⟨μ39,v266,v268,cs269,rfl,le265,hS,m267,m270⟩
 refine po (wnil (bn (endD ?_)))
 replace hS:=hS.bg Y2
 obtain ⟨μ40,le272,m271,hS⟩:=Sep.frzBlk (l:=([[41]]:List (List UInt8))) hS (Rw.one (α:=List UInt8) rfl) (Nat.le_of_ble_eq_true rfl)
 obtain ⟨r273,g274,h⟩:=bI h
 replace hS:=(hS.bg Y1).bg Y1
 refine retD isfn16 (pw_putd_w (hg.t (le21.t (le26.t (le29.t (le122.t (le254.t (le257.t (le265.t le272)))))))) (m267.up le272) (m270.up le272) m271 g274 hS) ?_
 rintro _ w35 ⟨μ41,v276,v278,cs279,rfl,le275,hS,m277,m280⟩
 obtain rfl:=oI h
 refine retDN rfl RVs.z ?_
 exact ⟨_,_,_,_,rfl,(le21.t (le26.t (le29.t (le122.t (le254.t (le257.t (le265.t (le272.t le275)))))))),hS,m277,m280⟩
 intro h250 h
 refine nz ?_
 iterate 2 refine st ?_
 refine nw ?_
 refine zCd h ?_ ?_
 intro h281 h
 refine nz ?_
 iterate 4 refine st ?_
 refine ld ((m13 _ ((le21.t (le26.t (le29.t le122))) _ hS.a)).one d2) ?_
 refine wl (s_bsl underlying64 ti9 (Parts.s ec rfl (Parts.s (et (k100 (k40 d8))) rfl Parts.z)) rfl rfl hS ?_); clear hS; intro b282 w36 hb283 hS; refine po ?_
 obtain ⟨μ42,le285,m284,hS⟩:=Sep.frzBlk (l:=([[115,116,97,114,116],p_2.Name]:List (List UInt8))) hS (Rw.cons (α:=List UInt8) (cs:=[S [115,116,97,114,116]]) rfl (Rw.cons (α:=List UInt8) (cs:=[S p_2.Name]) rfl Rw.nil)) (Nat.le_of_ble_eq_true rfl)
 obtain ⟨r286,g287,h⟩:=bI h
 replace hS:=(hS.bg Y1).bg Y1
 refine ca (pw_put_w (hg.t (le21.t (le26.t (le29.t (le122.t le285))))) (m31.up (le122.t le285)) (m34.up (le122.t le285)) m284 g287 hS) ?_
 rintro _ w37 ⟨μ43,v289,v291,cs292,rfl,le288,hS,m290,m293⟩
 refine po (nw (creg ?_))
 iterate 4 refine st ?_
 refine ld ((m13 _ ((le21.t (le26.t (le29.t (le122.t (le285.t le288))))) _ hS.a)).one d3) ?_
 obtain ⟨r294,g295,h⟩:=bI h
 replace hS:=(hS.bg Y1).bg Y1
 refine ca (IH.pw_args (hg.t (le21.t (le26.t (le29.t (le122.t (le285.t le288)))))) m290 m293 (m12.up (le21.t (le26.t (le29.t (le122.t (le285.t le288)))))) g295 hS) ?_
 rintro _ w38 ⟨μ44,v297,v299,cs300,rfl,le296,hS,m298,m301⟩
 refine po (wnil (bn (endD ?_)))
 replace hS:=hS.bg Y2
 obtain ⟨μ45,le303,m302,hS⟩:=Sep.frzBlk (l:=([[41]]:List (List UInt8))) hS (Rw.one (α:=List UInt8) rfl) (Nat.le_of_ble_eq_true rfl)
 obtain ⟨r304,g305,h⟩:=bI h
 replace hS:=(hS.bg Y1).bg Y1
 refine retD isfn16 (pw_putd_w (hg.t (le21.t (le26.t (le29.t (le122.t (le285.t (le288.t (le296.t le303)))))))) (m298.up le303) (m301.up le303) m302 g305 hS) ?_
 rintro _ w39 ⟨μ46,v307,v309,cs310,rfl,le306,hS,m308,m311⟩
 obtain rfl:=oI h
 refine retDN rfl RVs.z ?_
 exact ⟨_,_,_,_,rfl,(le21.t (le26.t (le29.t (le122.t (le285.t (le288.t (le296.t (le303.t le306)))))))),hS,m308,m311⟩
 intro h281 h
 refine nz ?_
 iterate 2 refine st ?_
 refine nw ?_
 refine zCd h ?_ ?_
 intro h312 h
 refine nz ?_
 iterate 4 refine st ?_
 refine ld ((m13 _ ((le21.t (le26.t (le29.t le122))) _ hS.a)).one d2) ?_
 refine wl (s_bsl underlying64 ti9 (Parts.s (et (k100 (k60 d3))) rfl Parts.z) rfl rfl hS ?_); clear hS; intro b313 w40 hb314 hS; refine po ?_
 obtain ⟨μ47,le316,m315,hS⟩:=Sep.frzBlk (l:=([p_2.Name]:List (List UInt8))) hS (Rw.one (α:=List UInt8) rfl) (Nat.le_of_ble_eq_true rfl)
 obtain ⟨r317,g318,h⟩:=bI h
 replace hS:=(hS.bg Y1).bg Y1
 refine ca (pw_put_w (hg.t (le21.t (le26.t (le29.t (le122.t le316))))) (m31.up (le122.t le316)) (m34.up (le122.t le316)) m315 g318 hS) ?_
 rintro _ w41 ⟨μ48,v320,v322,cs323,rfl,le319,hS,m321,m324⟩
 refine po (nw (creg ?_))
 iterate 4 refine st ?_
 refine ld ((m13 _ ((le21.t (le26.t (le29.t (le122.t (le316.t le319))))) _ hS.a)).one d3) ?_
 obtain ⟨r325,g326,h⟩:=bI h
 replace hS:=(hS.bg Y1).bg Y1
 refine ca (IH.pw_args (hg.t (le21.t (le26.t (le29.t (le122.t (le316.t le319)))))) m321 m324 (m12.up (le21.t (le26.t (le29.t (le122.t (le316.t le319)))))) g326 hS) ?_
 rintro _ w42 ⟨μ49,v328,v330,cs331,rfl,le327,hS,m329,m332⟩
 refine po (wnil (bn (endD ?_)))
 replace hS:=hS.bg Y2
 obtain ⟨μ50,le334,m333,hS⟩:=Sep.frzBlk (l:=([[41]]:List (List UInt8))) hS (Rw.one (α:=List UInt8) rfl) (Nat.le_of_ble_eq_true rfl)
 obtain ⟨r335,g336,h⟩:=bI h
 replace hS:=(hS.bg Y1).bg Y1
 refine retD isfn16 (pw_putd_w (hg.t (le21.t (le26.t (le29.t (le122.t (le316.t (le319.t (le327.t le334)))))))) (m329.up le334) (m332.up le334) m333 g336 hS) ?_
 rintro _ w43 ⟨μ51,v338,v340,cs341,rfl,le337,hS,m339,m342⟩
 obtain rfl:=oI h
 refine retDN rfl RVs.z ?_
 exact ⟨_,_,_,_,rfl,(le21.t (le26.t (le29.t (le122.t (le316.t (le319.t (le327.t (le334.t le337)))))))),hS,m339,m342⟩
 intro h312 h
 refine nz ?_
 iterate 2 refine st ?_
 refine ny (nz ?_)
 iterate 2 refine st ?_
 refine nw ?_
 refine ccutE (rg 32 2) (by decide) (fun m w=>∃ μx i343,m=(yK8 (.i (.int .i64 i343)::(yK20 (yK3 (yO2 32 [])))))∧pw_expr_j2 self p_2 r19 r27 i343=some r∧Le μ17 μx∧Sq μx w0 w (.blk b1 36 [v30,v32]::.row v32 5 1 r27.length cs33::.blk b35 9 [S [41]]::rsF)) (by rintro _ _ ⟨_,_,rfl,_⟩; rfl) ?_ ?_
 refine zCd h ?_ ?_
 intro h344 h
 refine creg (st ?_)
 obtain ⟨i345,g346,h⟩:=bI h
 refine wl (su (u_addc (et (k30 d2)) ec g346) (dt (q30 p3)) (st (wnil (xl ?_))))
 exact ⟨_,_,rfl,(aK8 (aI (aK20 (aK3 (aO2 aZ))))),_,_,rfl,h,Le.r,hS⟩
 intro h344 h
 refine cskip (xl ?_)
 exact ⟨_,_,rfl,(aK8 (aI (aK20 (aK3 (aO2 aZ))))),_,r19.2,rfl,h,Le.r,hS⟩
 rintro _ t w44 ⟨μ52,i343,rfl,h,le347,hS⟩
 unfold pw_expr_j2 at h
 refine nrm (mK8 (mi (mK20 (mK3 (mO2 mz))))) (xn (nz ?_))
 iterate 4 refine st ?_
 refine ld ((m13 _ ((le21.t (le26.t (le29.t (le122.t le347)))) _ hS.a)).one d3) ?_
 obtain ⟨x348,g349,h⟩:=bI h
 obtain ⟨b350,o351,cs352,e353,f354,m355⟩:=SlR.elem (m12.up (le21.t (le26.t (le29.t (le122.t le347))))) g349
 obtain ⟨a356,c357,rfl,m358⟩:=TExpr.o m355
 refine wl (su (u_iax underlying65 ti67 (et (k30 d8)) ec e353) (dt (q30 p9)) (st ?_))
 obtain ⟨r359,g360,h⟩:=bI h
 replace hS:=(hS.bg Y1).bg Y1
 refine ca (IH.pw_expr (hg.t (le21.t (le26.t (le29.t (le122.t le347))))) (m31.up (le122.t le347)) (m34.up (le122.t le347)) m358 f354 g360 hS) ?_
 rintro _ w45 ⟨μ53,v362,v364,cs365,rfl,le361,hS,m363,m366⟩
 refine po (nx ?_)
 iterate 2 refine st ?_
 refine wl (s_bsl underlying64 ti9 (Parts.s (et (k40 d3)) rfl Parts.z) rfl rfl hS ?_); clear hS; intro b367 w46 hb368 hS; refine po ?_
 obtain ⟨μ54,le370,m369,hS⟩:=Sep.frzBlk (l:=([r19.1]:List (List UInt8))) hS (Rw.one (α:=List UInt8) rfl) (Nat.le_of_ble_eq_true rfl)
 obtain ⟨r371,g372,h⟩:=bI h
 replace hS:=(hS.bg Y1).bg Y1
 refine ca (pw_put_w (hg.t (le21.t (le26.t (le29.t (le122.t (le347.t (le361.t le370))))))) (m363.up le370) (m366.up le370) m369 g372 hS) ?_
 rintro _ w47 ⟨μ55,v374,v376,cs377,rfl,le373,hS,m375,m378⟩
 refine po (nw (creg ?_))
 iterate 4 refine st ?_
 refine ld ((m13 _ ((le21.t (le26.t (le29.t (le122.t (le347.t (le361.t (le370.t le373))))))) _ hS.a)).one d3) ?_
 obtain ⟨x379,g380,h⟩:=bI h
 obtain ⟨b381,o382,cs383,e384,f385,m386⟩:=SlR.elem (m12.up (le21.t (le26.t (le29.t (le122.t (le347.t (le361.t (le370.t le373)))))))) g380
 obtain ⟨a387,c388,rfl,m389⟩:=TExpr.o m386
 refine wl (su (u_iax underlying65 ti67 (et (k50 d0)) ec e384) (dt (q50 p1)) (st ?_))
 obtain ⟨i390,g391,h⟩:=bI h
 refine wl (su (u_addc (et (k50 d2)) ec g391) (dt (q50 p3)) ?_)
 obtain ⟨r392,g393,h⟩:=bI h
 replace hS:=(hS.bg Y1).bg Y1
 refine ca (IH.pw_expr (hg.t (le21.t (le26.t (le29.t (le122.t (le347.t (le361.t (le370.t le373)))))))) m375 m378 m389 f385 g393 hS) ?_
 rintro _ w48 ⟨μ56,v395,v397,cs398,rfl,le394,hS,m396,m399⟩
 refine po (wnil (bn (endD ?_)))
 replace hS:=hS.bg Y2
 obtain ⟨μ57,le401,m400,hS⟩:=Sep.frzBlk (l:=([[41]]:List (List UInt8))) hS (Rw.one (α:=List UInt8) rfl) (Nat.le_of_ble_eq_true rfl)
 obtain ⟨r402,g403,h⟩:=bI h
 replace hS:=(hS.bg Y1).bg Y1
 refine retD isfn16 (pw_putd_w (hg.t (le21.t (le26.t (le29.t (le122.t (le347.t (le361.t (le370.t (le373.t (le394.t le401)))))))))) (m396.up le401) (m399.up le401) m400 g403 hS) ?_
 rintro _ w49 ⟨μ58,v405,v407,cs408,rfl,le404,hS,m406,m409⟩
 obtain rfl:=oI h
 refine retDN rfl RVs.z ?_
 exact ⟨_,_,_,_,rfl,(le21.t (le26.t (le29.t (le122.t (le347.t (le361.t (le370.t (le373.t (le394.t (le401.t le404)))))))))),hS,m406,m409⟩
 intro h22 h
 refine cskip (xn (nz ?_))
 iterate 3 refine st ?_
 refine ld ((m13 _ (le21 _ hS.a)).one d0) (nw (cblock (nz ?_)))
 iterate 2 refine st ?_
 refine nw ?_
 refine zCd h ?_ ?_
 intro h410 h
 refine creg ?_
 iterate 4 refine st ?_
 refine ld ((m13 _ (le21 _ hS.a)).one d1) ?_
 obtain ⟨s411,g412,h⟩:=bI h
 refine wl (s_callv isfn33 ef (e1 (et (k60 d1)) (e1 ec e0)) (fmt_w (hg.t le21) g412 hS) ?_); clear hS; rintro _ w50 ⟨rfl,hS⟩; refine po ?_
 refine wl (s_bsl underlying64 ti9 (Parts.s (et (k60 d2)) rfl Parts.z) rfl rfl hS ?_); clear hS; intro b413 w51 hb414 hS; refine po ?_
 obtain ⟨μ59,le416,m415,hS⟩:=Sep.frzBlk (l:=([s411]:List (List UInt8))) hS (Rw.one (α:=List UInt8) rfl) (Nat.le_of_ble_eq_true rfl)
 obtain ⟨r417,g418,h⟩:=bI h
 replace hS:=(hS.bg Y1).bg Y1
 refine ca (pw_put_w (hg.t (le21.t le416)) (m3.up (le21.t le416)) (m7.up (le21.t le416)) m415 g418 hS) ?_
 rintro _ w52 ⟨μ60,v420,v422,cs423,rfl,le419,hS,m421,m424⟩
 refine po (wnil (bn (endD ?_)))
 obtain rfl:=oI h
 refine retDN rfl RVs.z ?_
 exact ⟨_,_,_,_,rfl,(le21.t (le416.t le419)),hS,m421,m424⟩
 intro h410 h
 refine nz ?_
 iterate 2 refine st ?_
 refine nw ?_
 refine zCd h ?_ ?_
 intro h425 h
 refine creg (st ?_)
 refine wl (s_bsl underlying64 ti9 (Parts.s ec rfl (Parts.s ec rfl Parts.z)) rfl rfl hS ?_); clear hS; intro b426 w53 hb427 hS; refine po ?_
 iterate 3 refine st ?_
 refine ld ((m13 _ (le21 _ hS.a)).one d1) ?_
 obtain ⟨μ61,le429,m428,hS⟩:=Sep.frzBlk (l:=([[102,97,108,115,101],[116,114,117,101]]:List (List UInt8))) hS (Rw.cons (α:=List UInt8) (cs:=[S [102,97,108,115,101]]) rfl (Rw.cons (α:=List UInt8) (cs:=[S [116,114,117,101]]) rfl Rw.nil)) (Nat.le_of_ble_eq_true rfl)
 obtain ⟨x430,g431,h⟩:=bI h
 obtain ⟨b432,o433,cs434,e435,f436,m437⟩:=SlR.elem m428 g431
 obtain rfl:=m437
 refine wl (su (u_iax underlying64 ti9 (et (k60 d8)) (et (k70 d2)) e435) (dt (q70 p3)) (ld ((f436 _ hS.a).one d0) ?_))
 refine wl (s_bsl underlying64 ti9 (Parts.s (et (k70 d4)) rfl Parts.z) rfl rfl hS ?_); clear hS; intro b438 w54 hb439 hS; refine po ?_
 obtain ⟨μ62,le441,m440,hS⟩:=Sep.frzBlk (l:=([x430]:List (List UInt8))) hS (Rw.one (α:=List UInt8) rfl) (Nat.le_of_ble_eq_true rfl)
 obtain ⟨r442,g443,h⟩:=bI h
 replace hS:=(hS.bg Y1).bg Y1
 refine ca (pw_put_w (hg.t (le21.t (le429.t le441))) (m3.up (le21.t (le429.t le441))) (m7.up (le21.t (le429.t le441))) m440 g443 hS) ?_
 rintro _ w55 ⟨μ63,v445,v447,cs448,rfl,le444,hS,m446,m449⟩
 refine po (wnil (bn (endD ?_)))
 obtain rfl:=oI h
 refine retDN rfl RVs.z ?_
 exact ⟨_,_,_,_,rfl,(le21.t (le429.t (le441.t le444))),hS,m446,m449⟩
 intro h425 h
 refine nz ?_
 iterate 2 refine st ?_
 refine nw ?_
 refine zCd h ?_ ?_
 intro h450 h
 refine creg ?_
 iterate 4 refine st ?_
 refine ld ((m13 _ (le21 _ hS.a)).one d2) ?_
 refine wl (s_bsl underlying64 ti9 (Parts.s (et (k80 d3)) rfl Parts.z) rfl rfl hS ?_); clear hS; intro b451 w56 hb452 hS; refine po ?_
 obtain ⟨μ64,le454,m453,hS⟩:=Sep.frzBlk (l:=([p_2.Name]:List (List UInt8))) hS (Rw.one (α:=List UInt8) rfl) (Nat.le_of_ble_eq_true rfl)
 obtain ⟨r455,g456,h⟩:=bI h
 replace hS:=(hS.bg Y1).bg Y1
 refine ca (pw_put_w (hg.t (le21.t le454)) (m3.up (le21.t le454)) (m7.up (le21.t le454)) m453 g456 hS) ?_
 rintro _ w57 ⟨μ65,v458,v460,cs461,rfl,le457,hS,m459,m462⟩
 refine po (wnil (bn (endD ?_)))
 obtain rfl:=oI h
 refine retDN rfl RVs.z ?_
 exact ⟨_,_,_,_,rfl,(le21.t (le454.t le457)),hS,m459,m462⟩
 intro h450 h
 refine cseq (nz ?_)
 iterate 2 refine st ?_
 refine nw ?_
 refine ccutE ([88]) (by decide) (fun m w=>∃ μx b463,m=(yK50 (yK20 (yK10 (yK6 (.i (.bool b463)::(yK1 (yO1 88 [])))))))∧pw_expr_j3 self p_2 buf_4 r19 b463=some r∧Le μ1 μx∧Sq μx w0 w (.blk b1 36 [v2,v5]::.row v5 5 1 buf_4.length cs6::rsF)) (by rintro _ _ ⟨_,_,rfl,_⟩; rfl) ?_ ?_
 refine zCd h ?_ ?_
 intro h464 h
 refine cskip (xl ?_)
 exact ⟨_,_,rfl,(aK50 (aK20 (aK10 (aK6 (aI (aK1 (aO1 aZ))))))),_,(decide (p_2.Kind=4)),rfl,h,Le.r,hS⟩
 intro h464 h
 refine creg ?_
 iterate 2 refine st ?_
 refine wnil (xl ?_)
 exact ⟨_,_,rfl,(aK50 (aK20 (aK10 (aK6 (aI (aK1 (aO1 aZ))))))),_,(decide (p_2.Kind=5)),rfl,h,Le.r,hS⟩
 rintro _ t w58 ⟨μ66,b463,rfl,h,le465,hS⟩
 unfold pw_expr_j3 at h
 refine nrm (mK50 (mK20 (mK10 (mK6 (mi (mK1 (mO1 mz))))))) (xn ?_)
 refine zCb h ?_ ?_
 intro h466 h
 refine nz ?_
 iterate 2 refine st ?_
 refine wl (s_bsl underlying64 ti9 (Parts.s (et (k90 d0)) rfl Parts.z) rfl rfl hS ?_); clear hS; intro b467 w59 hb468 hS; refine po ?_
 obtain ⟨μ67,le470,m469,hS⟩:=Sep.frzBlk (l:=([r19.1]:List (List UInt8))) hS (Rw.one (α:=List UInt8) rfl) (Nat.le_of_ble_eq_true rfl)
 obtain ⟨r471,g472,h⟩:=bI h
 replace hS:=(hS.bg Y1).bg Y1
 refine ca (pw_put_w (hg.t (le21.t (le465.t le470))) (m3.up (le21.t (le465.t le470))) (m7.up (le21.t (le465.t le470))) m469 g472 hS) ?_
 rintro _ w60 ⟨μ68,v474,v476,cs477,rfl,le473,hS,m475,m478⟩
 refine po (nw (creg ?_))
 iterate 4 refine st ?_
 refine ld ((m13 _ ((le21.t (le465.t (le470.t le473))) _ hS.a)).one d3) ?_
 obtain ⟨x479,g480,h⟩:=bI h
 obtain ⟨b481,o482,cs483,e484,f485,m486⟩:=SlR.elem (m12.up (le21.t (le465.t (le470.t le473)))) g480
 obtain ⟨a487,c488,rfl,m489⟩:=TExpr.o m486
 refine wl (su (u_iax underlying65 ti67 (et (k90 d7)) ec e484) (dt (q90 p8)) ?_)
 obtain ⟨r490,g491,h⟩:=bI h
 replace hS:=(hS.bg Y1).bg Y1
 refine ca (IH.pw_expr (hg.t (le21.t (le465.t (le470.t le473)))) m475 m478 m489 f485 g491 hS) ?_
 rintro _ w61 ⟨μ69,v493,v495,cs496,rfl,le492,hS,m494,m497⟩
 refine po (wnil (bn (endD ?_)))
 obtain rfl:=oI h
 refine retDN rfl RVs.z ?_
 exact ⟨_,_,_,_,rfl,(le21.t (le465.t (le470.t (le473.t le492)))),hS,m494,m497⟩
 intro h466 h
 refine nz ?_
 iterate 2 refine st ?_
 refine nw ?_
 refine zCd h ?_ ?_
 intro h498 h
 refine creg ?_
 iterate 4 refine st ?_
 refine ld ((m13 _ ((le21.t le465) _ hS.a)).one d2) ?_
 refine wl (s_bsl underlying64 ti9 (Parts.s ec rfl (Parts.s ec rfl (Parts.s (et (k100 d6)) rfl (Parts.s ec rfl Parts.z)))) rfl rfl hS ?_); clear hS; intro b499 w62 hb500 hS; refine po ?_
 obtain ⟨μ70,le502,m501,hS⟩:=Sep.frzBlk (l:=([[114,101,99,118],[40],p_2.Name,[41]]:List (List UInt8))) hS (Rw.cons (α:=List UInt8) (cs:=[S [114,101,99,118]]) rfl (Rw.cons (α:=List UInt8) (cs:=[S [40]]) rfl (Rw.cons (α:=List UInt8) (cs:=[S p_2.Name]) rfl (Rw.cons (α:=List UInt8) (cs:=[S [41]]) rfl Rw.nil)))) (Nat.le_of_ble_eq_true rfl)
 obtain ⟨r503,g504,h⟩:=bI h
 replace hS:=(hS.bg Y1).bg Y1
 refine ca (pw_put_w (hg.t (le21.t (le465.t le502))) (m3.up (le21.t (le465.t le502))) (m7.up (le21.t (le465.t le502))) m501 g504 hS) ?_
 rintro _ w63 ⟨μ71,v506,v508,cs509,rfl,le505,hS,m507,m510⟩
 refine po (wnil (bn (endD ?_)))
 obtain rfl:=oI h
 refine retDN rfl RVs.z ?_
 exact ⟨_,_,_,_,rfl,(le21.t (le465.t (le502.t le505))),hS,m507,m510⟩
 intro h498 h
 refine nz ?_
 iterate 2 refine st ?_
 refine nw ?_
 refine zCd h ?_ ?_
 intro h511 h
 refine nz (st ?_)
 refine wl (s_bsl underlying64 ti9 (Parts.s ec rfl Parts.z) rfl rfl hS ?_); clear hS; intro b512 w64 hb513 hS; refine po ?_
 obtain ⟨μ72,le515,m514,hS⟩:=Sep.frzBlk (l:=([[121,105,101,108,100]]:List (List UInt8))) hS (Rw.one (α:=List UInt8) rfl) (Nat.le_of_ble_eq_true rfl)
 obtain ⟨r516,g517,h⟩:=bI h
 replace hS:=(hS.bg Y1).bg Y1
 refine ca (pw_put_w (hg.t (le21.t (le465.t le515))) (m3.up (le21.t (le465.t le515))) (m7.up (le21.t (le465.t le515))) m514 g517 hS) ?_
 rintro _ w65 ⟨μ73,v519,v521,cs522,rfl,le518,hS,m520,m523⟩
 refine po (nw (creg ?_))
 iterate 4 refine st ?_
 refine ld ((m13 _ ((le21.t (le465.t (le515.t le518))) _ hS.a)).one d3) ?_
 obtain ⟨r524,g525,h⟩:=bI h
 replace hS:=(hS.bg Y1).bg Y1
 refine ca (IH.pw_args (hg.t (le21.t (le465.t (le515.t le518)))) m520 m523 (m12.up (le21.t (le465.t (le515.t le518)))) g525 hS) ?_
 rintro _ w66 ⟨μ74,v527,v529,cs530,rfl,le526,hS,m528,m531⟩
 refine po (wnil (bn (endD ?_)))
 obtain rfl:=oI h
 refine retDN rfl RVs.z ?_
 exact ⟨_,_,_,_,rfl,(le21.t (le465.t (le515.t (le518.t le526)))),hS,m528,m531⟩
 intro h511 h
 refine nz ?_
 iterate 2 refine st ?_
 refine nw ?_
 refine zCd h ?_ ?_
 intro h532 h
 refine nz (st ?_)
 refine wl (s_bsl underlying64 ti9 (Parts.s ec rfl Parts.z) rfl rfl hS ?_); clear hS; intro b533 w67 hb534 hS; refine po ?_
 obtain ⟨μ75,le536,m535,hS⟩:=Sep.frzBlk (l:=([[114,101,115,117,109,101]]:List (List UInt8))) hS (Rw.one (α:=List UInt8) rfl) (Nat.le_of_ble_eq_true rfl)
 obtain ⟨r537,g538,h⟩:=bI h
 replace hS:=(hS.bg Y1).bg Y1
 refine ca (pw_put_w (hg.t (le21.t (le465.t le536))) (m3.up (le21.t (le465.t le536))) (m7.up (le21.t (le465.t le536))) m535 g538 hS) ?_
 rintro _ w68 ⟨μ76,v540,v542,cs543,rfl,le539,hS,m541,m544⟩
 refine po (nw (creg ?_))
 iterate 4 refine st ?_
 refine ld ((m13 _ ((le21.t (le465.t (le536.t le539))) _ hS.a)).one d3) ?_
 obtain ⟨r545,g546,h⟩:=bI h
 replace hS:=(hS.bg Y1).bg Y1
 refine ca (IH.pw_args (hg.t (le21.t (le465.t (le536.t le539)))) m541 m544 (m12.up (le21.t (le465.t (le536.t le539)))) g546 hS) ?_
 rintro _ w69 ⟨μ77,v548,v550,cs551,rfl,le547,hS,m549,m552⟩
 refine po (wnil (bn (endD ?_)))
 obtain rfl:=oI h
 refine retDN rfl RVs.z ?_
 exact ⟨_,_,_,_,rfl,(le21.t (le465.t (le536.t (le539.t le547)))),hS,m549,m552⟩
 intro h532 h
 refine nz ?_
 iterate 2 refine st ?_
 refine nw ?_
 refine zCd h ?_ ?_
 intro h553 h
 refine nz (st ?_)
 refine wl (s_bsl underlying64 ti9 (Parts.s ec rfl Parts.z) rfl rfl hS ?_); clear hS; intro b554 w70 hb555 hS; refine po ?_
 obtain ⟨μ78,le557,m556,hS⟩:=Sep.frzBlk (l:=([[97,108,105,118,101]]:List (List UInt8))) hS (Rw.one (α:=List UInt8) rfl) (Nat.le_of_ble_eq_true rfl)
 obtain ⟨r558,g559,h⟩:=bI h
 replace hS:=(hS.bg Y1).bg Y1
 refine ca (pw_put_w (hg.t (le21.t (le465.t le557))) (m3.up (le21.t (le465.t le557))) (m7.up (le21.t (le465.t le557))) m556 g559 hS) ?_
 rintro _ w71 ⟨μ79,v561,v563,cs564,rfl,le560,hS,m562,m565⟩
 refine po (nw (creg ?_))
 iterate 4 refine st ?_
 refine ld ((m13 _ ((le21.t (le465.t (le557.t le560))) _ hS.a)).one d3) ?_
 obtain ⟨r566,g567,h⟩:=bI h
 replace hS:=(hS.bg Y1).bg Y1
 refine ca (IH.pw_args (hg.t (le21.t (le465.t (le557.t le560)))) m562 m565 (m12.up (le21.t (le465.t (le557.t le560)))) g567 hS) ?_
 rintro _ w72 ⟨μ80,v569,v571,cs572,rfl,le568,hS,m570,m573⟩
 refine po (wnil (bn (endD ?_)))
 obtain rfl:=oI h
 refine retDN rfl RVs.z ?_
 exact ⟨_,_,_,_,rfl,(le21.t (le465.t (le557.t (le560.t le568)))),hS,m570,m573⟩
 intro h553 h
 refine nz ?_
 iterate 2 refine st ?_
 refine nw ?_
 refine zCd h ?_ ?_
 intro h574 h
 refine nz ?_
 iterate 4 refine st ?_
 refine ld ((m13 _ ((le21.t le465) _ hS.a)).one d2) ?_
 refine wl (s_bsl underlying64 ti9 (Parts.s ec rfl (Parts.s (et (k100 (k40 d8))) rfl Parts.z)) rfl rfl hS ?_); clear hS; intro b575 w73 hb576 hS; refine po ?_
 obtain ⟨μ81,le578,m577,hS⟩:=Sep.frzBlk (l:=([[115,116,97,114,116],p_2.Name]:List (List UInt8))) hS (Rw.cons (α:=List UInt8) (cs:=[S [115,116,97,114,116]]) rfl (Rw.cons (α:=List UInt8) (cs:=[S p_2.Name]) rfl Rw.nil)) (Nat.le_of_ble_eq_true rfl)
 obtain ⟨r579,g580,h⟩:=bI h
 replace hS:=(hS.bg Y1).bg Y1
 refine ca (pw_put_w (hg.t (le21.t (le465.t le578))) (m3.up (le21.t (le465.t le578))) (m7.up (le21.t (le465.t le578))) m577 g580 hS) ?_
 rintro _ w74 ⟨μ82,v582,v584,cs585,rfl,le581,hS,m583,m586⟩
 refine po (nw (creg ?_))
 iterate 4 refine st ?_
 refine ld ((m13 _ ((le21.t (le465.t (le578.t le581))) _ hS.a)).one d3) ?_
 obtain ⟨r587,g588,h⟩:=bI h
 replace hS:=(hS.bg Y1).bg Y1
 refine ca (IH.pw_args (hg.t (le21.t (le465.t (le578.t le581)))) m583 m586 (m12.up (le21.t (le465.t (le578.t le581)))) g588 hS) ?_
 rintro _ w75 ⟨μ83,v590,v592,cs593,rfl,le589,hS,m591,m594⟩
 refine po (wnil (bn (endD ?_)))
 obtain rfl:=oI h
 refine retDN rfl RVs.z ?_
 exact ⟨_,_,_,_,rfl,(le21.t (le465.t (le578.t (le581.t le589)))),hS,m591,m594⟩
 intro h574 h
 refine nz ?_
 iterate 2 refine st ?_
 refine nw ?_
 refine zCd h ?_ ?_
 intro h595 h
 refine nz ?_
 iterate 4 refine st ?_
 refine ld ((m13 _ ((le21.t le465) _ hS.a)).one d2) ?_
 refine wl (s_bsl underlying64 ti9 (Parts.s (et (k100 (k60 d3))) rfl Parts.z) rfl rfl hS ?_); clear hS; intro b596 w76 hb597 hS; refine po ?_
 obtain ⟨μ84,le599,m598,hS⟩:=Sep.frzBlk (l:=([p_2.Name]:List (List UInt8))) hS (Rw.one (α:=List UInt8) rfl) (Nat.le_of_ble_eq_true rfl)
 obtain ⟨r600,g601,h⟩:=bI h
 replace hS:=(hS.bg Y1).bg Y1
 refine ca (pw_put_w (hg.t (le21.t (le465.t le599))) (m3.up (le21.t (le465.t le599))) (m7.up (le21.t (le465.t le599))) m598 g601 hS) ?_
 rintro _ w77 ⟨μ85,v603,v605,cs606,rfl,le602,hS,m604,m607⟩
 refine po (nw (creg ?_))
 iterate 4 refine st ?_
 refine ld ((m13 _ ((le21.t (le465.t (le599.t le602))) _ hS.a)).one d3) ?_
 obtain ⟨r608,g609,h⟩:=bI h
 replace hS:=(hS.bg Y1).bg Y1
 refine ca (IH.pw_args (hg.t (le21.t (le465.t (le599.t le602)))) m604 m607 (m12.up (le21.t (le465.t (le599.t le602)))) g609 hS) ?_
 rintro _ w78 ⟨μ86,v611,v613,cs614,rfl,le610,hS,m612,m615⟩
 refine po (wnil (bn (endD ?_)))
 obtain rfl:=oI h
 refine retDN rfl RVs.z ?_
 exact ⟨_,_,_,_,rfl,(le21.t (le465.t (le599.t (le602.t le610)))),hS,m612,m615⟩
 intro h595 h
 refine nz ?_
 iterate 2 refine st ?_
 refine ny (nz ?_)
 iterate 2 refine st ?_
 refine nw ?_
 refine ccutE (rg 32 2) (by decide) (fun m w=>∃ μx i616,m=(yK8 (.i (.int .i64 i616)::(yK20 (yK3 (yO2 32 [])))))∧pw_expr_j4 self p_2 buf_4 r19 i616=some r∧Le μ66 μx∧Sq μx w0 w (.blk b1 36 [v2,v5]::.row v5 5 1 buf_4.length cs6::rsF)) (by rintro _ _ ⟨_,_,rfl,_⟩; rfl) ?_ ?_
 refine zCd h ?_ ?_
 intro h617 h
 refine creg (st ?_)
 obtain ⟨i618,g619,h⟩:=bI h
 refine wl (su (u_addc (et (k30 d2)) ec g619) (dt (q30 p3)) (st (wnil (xl ?_))))
 exact ⟨_,_,rfl,(aK8 (aI (aK20 (aK3 (aO2 aZ))))),_,_,rfl,h,Le.r,hS⟩
 intro h617 h
 refine cskip (xl ?_)
 exact ⟨_,_,rfl,(aK8 (aI (aK20 (aK3 (aO2 aZ))))),_,r19.2,rfl,h,Le.r,hS⟩
 rintro _ t w79 ⟨μ87,i616,rfl,h,le620,hS⟩
 unfold pw_expr_j4 at h
 refine nrm (mK8 (mi (mK20 (mK3 (mO2 mz))))) (xn (nz ?_))
 iterate 4 refine st ?_
 refine ld ((m13 _ ((le21.t (le465.t le620)) _ hS.a)).one d3) ?_
 obtain ⟨x621,g622,h⟩:=bI h
 obtain ⟨b623,o624,cs625,e626,f627,m628⟩:=SlR.elem (m12.up (le21.t (le465.t le620))) g622
 obtain ⟨a629,c630,rfl,m631⟩:=TExpr.o m628
 refine wl (su (u_iax underlying65 ti67 (et (k30 d8)) ec e626) (dt (q30 p9)) (st ?_))
 obtain ⟨r632,g633,h⟩:=bI h
 replace hS:=(hS.bg Y1).bg Y1
 refine ca (IH.pw_expr (hg.t (le21.t (le465.t le620))) (m3.up (le21.t (le465.t le620))) (m7.up (le21.t (le465.t le620))) m631 f627 g633 hS) ?_
 rintro _ w80 ⟨μ88,v635,v637,cs638,rfl,le634,hS,m636,m639⟩
 refine po (nx ?_)
 iterate 2 refine st ?_
 refine wl (s_bsl underlying64 ti9 (Parts.s (et (k40 d3)) rfl Parts.z) rfl rfl hS ?_); clear hS; intro b640 w81 hb641 hS; refine po ?_
 obtain ⟨μ89,le643,m642,hS⟩:=Sep.frzBlk (l:=([r19.1]:List (List UInt8))) hS (Rw.one (α:=List UInt8) rfl) (Nat.le_of_ble_eq_true rfl)
 obtain ⟨r644,g645,h⟩:=bI h
 replace hS:=(hS.bg Y1).bg Y1
 refine ca (pw_put_w (hg.t (le21.t (le465.t (le620.t (le634.t le643))))) (m636.up le643) (m639.up le643) m642 g645 hS) ?_
 rintro _ w82 ⟨μ90,v647,v649,cs650,rfl,le646,hS,m648,m651⟩
 refine po (nw (creg ?_))
 iterate 4 refine st ?_
 refine ld ((m13 _ ((le21.t (le465.t (le620.t (le634.t (le643.t le646))))) _ hS.a)).one d3) ?_
 obtain ⟨x652,g653,h⟩:=bI h
 obtain ⟨b654,o655,cs656,e657,f658,m659⟩:=SlR.elem (m12.up (le21.t (le465.t (le620.t (le634.t (le643.t le646)))))) g653
 obtain ⟨a660,c661,rfl,m662⟩:=TExpr.o m659
 refine wl (su (u_iax underlying65 ti67 (et (k50 d0)) ec e657) (dt (q50 p1)) (st ?_))
 obtain ⟨i663,g664,h⟩:=bI h
 refine wl (su (u_addc (et (k50 d2)) ec g664) (dt (q50 p3)) ?_)
 obtain ⟨r665,g666,h⟩:=bI h
 replace hS:=(hS.bg Y1).bg Y1
 refine ca (IH.pw_expr (hg.t (le21.t (le465.t (le620.t (le634.t (le643.t le646)))))) m648 m651 m662 f658 g666 hS) ?_
 rintro _ w83 ⟨μ91,v668,v670,cs671,rfl,le667,hS,m669,m672⟩
 refine po (wnil (bn (endD ?_)))
 obtain rfl:=oI h
 refine retDN rfl RVs.z ?_
 exact ⟨_,_,_,_,rfl,(le21.t (le465.t (le620.t (le634.t (le643.t (le646.t le667)))))),hS,m669,m672⟩
theorem pw_args_w {self:PrE} (IH:PrESound self):pw_args_S (pw_args self):=by
 intro μ0 w0 w rsF hg b1 v2 buf_4 v5 cs6 p_2 a8 c9 r m3 m7 m10 h hS
 unfold pw_args at h
 refine enter func56 rfl (frm:=_::_::u5 (u20 [])) rfl (nz (st ?_))
 refine wl (s_bsl underlying64 ti9 (Parts.s ec rfl Parts.z) rfl rfl hS ?_); clear hS; intro b16 w1 hb17 hS; refine po ?_
 obtain ⟨μ1,le19,m18,hS⟩:=Sep.frzBlk (l:=([[40]]:List (List UInt8))) hS (Rw.one (α:=List UInt8) rfl) (Nat.le_of_ble_eq_true rfl)
 obtain ⟨r20,g21,h⟩:=bI h
 replace hS:=(hS.bg Y1).bg Y1
 refine ca (pw_put_w (hg.t le19) (m3.up le19) (m7.up le19) m18 g21 hS) ?_
 rintro _ w2 ⟨μ2,v23,v25,cs26,rfl,le22,hS,m24,m27⟩
 refine po (ny (nz (st (wl (su (u_lensl underlying65 (et d8)) (dt p9) (st (nw (cblock ?_))))))))
 refine cloopE ([4]++rg 11 13) (by decide) (fun n m w=>∃ μx i67 v68 l72 v70 cs71,m=(yK4 (yO1 4 (yK5 (.i (.int .i64 i67)::(yO10 11 (yO3 21 []))))))∧pw_args_l1 self p_2 n i67 l72=some r∧Le μ2 μx∧Sq μx w0 w (.blk b1 36 [v68,v70]::.row v70 5 1 l72.length cs71::rsF)∧Bp μx b1 v68∧Rw μx cs71 l72) (by rintro _ _ _ ⟨_,_,_,_,_,_,rfl,_⟩; rfl) _ _ (aK4 (aO1 (aK5 (aI (aO10 (aO3 aZ)))))) ⟨_,0,v23,r20,v25,cs26,rfl,h,Le.r,hS,m24,m27⟩ ?_
 rintro n_1 _ t w3 ⟨μ3,i67,v68,l72,v70,cs71,rfl,h,le113,hS,m114,m115⟩
 rcases n_1 with _|n_1
 cases h
 unfold pw_args_l1 at h
 refine cnrm (mK4 (mO1 (mK5 (mi (mO10 (mO3 mz)))))) (nz (st (ny ?_)))
 refine zCd h ?_ ?_
 intro h116 h
 refine cskip (xn (cseq (cblock (nz ?_))))
 iterate 2 refine st ?_
 refine ny (nz ?_)
 iterate 2 refine st ?_
 refine nw ?_
 refine ccutE (rg 15 3) (by decide) (fun m w=>∃ μx v117 l121 v119 cs120,m=(yK10 (yK5 (yO3 15 [])))∧pw_args_j1 self p_2 i67 (pw_args_l1 self p_2 n_1) l121=some r∧Le μ3 μx∧Sq μx w0 w (.blk b1 36 [v117,v119]::.row v119 5 1 l121.length cs120::rsF)∧Bp μx b1 v117∧Rw μx cs120 l121) (by rintro _ _ ⟨_,_,_,_,_,rfl,_⟩; rfl) ?_ ?_
 refine zCd h ?_ ?_
 intro h123 h
 refine creg (st ?_)
 refine wl (s_bsl underlying64 ti9 (Parts.s ec rfl Parts.z) rfl rfl hS ?_); clear hS; intro b124 w4 hb125 hS; refine po ?_
 obtain ⟨μ4,le127,m126,hS⟩:=Sep.frzBlk (l:=([[44]]:List (List UInt8))) hS (Rw.one (α:=List UInt8) rfl) (Nat.le_of_ble_eq_true rfl)
 obtain ⟨r128,g129,h⟩:=bI h
 replace hS:=(hS.bg Y1).bg Y1
 refine ca (pw_put_w (hg.t (le19.t (le22.t (le113.t le127)))) (m114.up le127) (m115.up le127) m126 g129 hS) ?_
 rintro _ w5 ⟨μ5,v131,v133,cs134,rfl,le130,hS,m132,m135⟩
 refine po (wnil (xl ?_))
 exact ⟨_,_,rfl,(aK10 (aK5 (aO3 aZ))),_,_,_,_,_,rfl,h,(le127.t le130),hS,m132,m135⟩
 intro h123 h
 refine cskip (xl ?_)
 exact ⟨_,_,rfl,(aK10 (aK5 (aO3 aZ))),_,_,_,_,_,rfl,h,Le.r,hS,m114,m115⟩
 rintro _ t w6 ⟨μ6,v117,l121,v119,cs120,rfl,h,le136,hS,m137,m138⟩
 unfold pw_args_j1 at h
 refine nrm (mK10 (mK5 (mO3 mz))) (xn (creg ?_))
 iterate 3 refine st ?_
 obtain ⟨x139,g140,h⟩:=bI h
 obtain ⟨b141,o142,cs143,e144,f145,m146⟩:=SlR.elem (m10.up (le19.t (le22.t (le113.t le136)))) g140
 obtain ⟨a147,c148,rfl,m149⟩:=TExpr.o m146
 refine wl (su (u_iax underlying65 ti67 (et (k10 d9)) (et (k20 d0)) e144) (dt (q20 p1)) ?_)
 obtain ⟨r150,g151,h⟩:=bI h
 replace hS:=(hS.bg Y1).bg Y1
 refine ca (IH.pw_expr (hg.t (le19.t (le22.t (le113.t le136)))) m137 m138 m149 f145 g151 hS) ?_
 rintro _ w7 ⟨μ7,v153,v155,cs156,rfl,le152,hS,m154,m157⟩
 refine po (wnil ?_)
 refine (fun h=>bn (xn h)) ?_
 refine creg ?_
 obtain ⟨i158,g159,h⟩:=bI h
 refine wl (su (u_addc (et (k10 d0)) ec g159) (dt (q20 p3)) (st (wnil (xl ?_))))
 exact ⟨n_1,_,_,rfl,(aK4 (aO1 (aK5 (aI (aO10 (aO3 aZ)))))),⟨_,i158,v153,r150,v155,cs156,rfl,h,(le113.t (le136.t le152)),hS,m154,m157⟩,Nat.lt_succ_self _⟩
 intro h116 h
 refine cexit ?_
 refine (fun h=>xe (xe (bh h))) ?_
 refine xn (creg (st ?_))
 refine wl (s_bsl underlying64 ti9 (Parts.s ec rfl Parts.z) rfl rfl hS ?_); clear hS; intro b160 w8 hb161 hS; refine po ?_
 obtain ⟨μ8,le163,m162,hS⟩:=Sep.frzBlk (l:=([[41]]:List (List UInt8))) hS (Rw.one (α:=List UInt8) rfl) (Nat.le_of_ble_eq_true rfl)
 obtain ⟨r164,g165,h⟩:=bI h
 replace hS:=(hS.bg Y1).bg Y1
 refine ca (pw_put_w (hg.t (le19.t (le22.t (le113.t le163)))) (m114.up le163) (m115.up le163) m162 g165 hS) ?_
 rintro _ w9 ⟨μ9,v167,v169,cs170,rfl,le166,hS,m168,m171⟩
 refine po (wnil ?_)
 obtain rfl:=oI h
 refine end0 rfl ?_
 exact ⟨_,_,_,_,rfl,(le19.t (le22.t (le113.t (le163.t le166)))),hS,m168,m171⟩
theorem PrE_sound:∀ n,PrESound (PrE_run n)
  | 0=>⟨(by intro; intros; rename_i h _; cases h),(by intro; intros; rename_i h _; cases h)⟩
  | n+1=>⟨pw_expr_w (PrE_sound n),pw_args_w (PrE_sound n)⟩
def pw_body_S (q:(List UInt8)→(List TStat)→Option (List UInt8)):Prop:=∀ {μ0:M} {w0 w:World} {rsF:List Res} (hg:Le Gm μ0) {b1:Nat} {v2:Value} {buf_4:List UInt8} {v5:Value} {cs6:List Value} {p_2:List TStat} {a8:Option Addr} {c9:Nat} {r:List UInt8} (m3:Bp μ0 b1 v2) (m7:Rw μ0 cs6 buf_4) (m10:Sl μ0 a8 c9 p_2) (h:q buf_4 p_2=some r) (hS:Sq μ0 w0 w (.blk b1 36 [v2,v5]::.row v5 5 1 buf_4.length cs6::rsF)),CallsV prog 18 [.pointer (some ⟨b1,0,none⟩),.slice a8 p_2.length c9] w (fun v w'=>∃ (μ':M) (v11:Value) (v13:Value) (cs14:List Value),v=.tuple ⟨[]⟩∧Le μ0 μ'∧Sq μ' w0 w' (.blk b1 36 [v11,v13]::.row v13 5 1 r.length cs14::rsF)∧Bp μ' b1 v11∧Rw μ' cs14 r)
def pw_stat_S (q:(List UInt8)→TStat→Option (List UInt8)):Prop:=∀ {μ0:M} {w0 w:World} {rsF:List Res} (hg:Le Gm μ0) {b1:Nat} {v2:Value} {buf_4:List UInt8} {v5:Value} {cs6:List Value} {p_2:TStat} {b8 o9:Nat} {a10:Option Addr} {c11:Nat} {a13:Option Addr} {c14:Nat} {a16:Option Addr} {c17:Nat} {r:List UInt8} (m3:Bp μ0 b1 v2) (m7:Rw μ0 cs6 buf_4) (m12:Sl μ0 a10 c11 p_2.X.Kids) (m15:Sl μ0 a13 c14 p_2.Body) (m18:Sl μ0 a16 c17 p_2.Else) (m19:At μ0 b8 o9 [.int .i64 p_2.Kind,S p_2.Name,.int .i64 p_2.X.Kind,.int .i64 p_2.X.N,S p_2.X.Name,.slice a10 p_2.X.Kids.length c11,.slice a13 p_2.Body.length c14,.slice a16 p_2.Else.length c17]) (h:q buf_4 p_2=some r) (hS:Sq μ0 w0 w (.blk b1 36 [v2,v5]::.row v5 5 1 buf_4.length cs6::rsF)),CallsV prog 31 [.pointer (some ⟨b1,0,none⟩),.pointer (some ⟨b8,o9,none⟩)] w (fun v w'=>∃ (μ':M) (v20:Value) (v22:Value) (cs23:List Value),v=.tuple ⟨[]⟩∧Le μ0 μ'∧Sq μ' w0 w' (.blk b1 36 [v20,v22]::.row v22 5 1 r.length cs23::rsF)∧Bp μ' b1 v20∧Rw μ' cs23 r)
structure PrSSound (sf:PrS):Prop where
  pw_body:pw_body_S sf.pw_body
  pw_stat:pw_stat_S sf.pw_stat
theorem pw_body_w {self:PrS} (IH:PrSSound self):pw_body_S (pw_body self):=by
 intro μ0 w0 w rsF hg b1 v2 buf_4 v5 cs6 p_2 a8 c9 r m3 m7 m10 h hS
 unfold pw_body at h
 refine enter func18 rfl (frm:=_::_::u20 []) rfl (nz (st ?_))
 refine wl (s_bsl underlying64 ti9 (Parts.s ec rfl Parts.z) rfl rfl hS ?_); clear hS; intro b16 w1 hb17 hS; refine po ?_
 obtain ⟨μ1,le19,m18,hS⟩:=Sep.frzBlk (l:=([[123]]:List (List UInt8))) hS (Rw.one (α:=List UInt8) rfl) (Nat.le_of_ble_eq_true rfl)
 obtain ⟨r20,g21,h⟩:=bI h
 replace hS:=(hS.bg Y1).bg Y1
 refine ca (pw_put_w (hg.t le19) (m3.up le19) (m7.up le19) m18 g21 hS) ?_
 rintro _ w2 ⟨μ2,v23,v25,cs26,rfl,le22,hS,m24,m27⟩
 refine po (ny (nz (st (wl (su (u_lensl underlying42 (et d8)) (dt p9) (st (nw (cblock ?_))))))))
 refine cloopE ([4]++rg 11 8) (by decide) (fun n m w=>∃ μx i55 v56 l60 v58 cs59,m=(yK4 (yO1 4 (yK5 (.i (.int .i64 i55)::(yO8 11 [])))))∧pw_body_l1 self p_2 n i55 l60=some r∧Le μ2 μx∧Sq μx w0 w (.blk b1 36 [v56,v58]::.row v58 5 1 l60.length cs59::rsF)∧Bp μx b1 v56∧Rw μx cs59 l60) (by rintro _ _ _ ⟨_,_,_,_,_,_,rfl,_⟩; rfl) _ _ (aK4 (aO1 (aK5 (aI (aO8 aZ))))) ⟨_,0,v23,r20,v25,cs26,rfl,h,Le.r,hS,m24,m27⟩ ?_
 rintro n_1 _ t w3 ⟨μ3,i55,v56,l60,v58,cs59,rfl,h,le89,hS,m90,m91⟩
 rcases n_1 with _|n_1
 cases h
 unfold pw_body_l1 at h
 refine cnrm (mK4 (mO1 (mK5 (mi (mO8 mz))))) (nz (st (ny ?_)))
 refine zCd h ?_ ?_
 intro h92 h
 refine cskip (xn (cseq (cblock (nz ?_))))
 iterate 2 refine st ?_
 refine nw (creg ?_)
 iterate 3 refine st ?_
 obtain ⟨x93,g94,h⟩:=bI h
 obtain ⟨b95,o96,cs97,e98,f99,m100⟩:=SlR.elem (m10.up (le19.t (le22.t le89))) g94
 obtain ⟨a101,c102,a104,c105,a107,c108,rfl,m103,m106,m109⟩:=TStat.o m100
 refine wl (su (u_iax underlying42 ti69 (et (k10 d4)) (et (k10 d5)) e98) (dt (q10 p6)) ?_)
 obtain ⟨r110,g111,h⟩:=bI h
 replace hS:=(hS.bg Y1).bg Y1
 refine ca (IH.pw_stat (hg.t (le19.t (le22.t le89))) m90 m91 m103 m106 m109 f99 g111 hS) ?_
 rintro _ w4 ⟨μ4,v113,v115,cs116,rfl,le112,hS,m114,m117⟩
 refine po (wnil ?_)
 refine (fun h=>bn (xn h)) ?_
 refine creg ?_
 obtain ⟨i118,g119,h⟩:=bI h
 refine wl (su (u_addc (et (k10 d0)) ec g119) (dt (q10 p8)) (st (wnil (xl ?_))))
 exact ⟨n_1,_,_,rfl,(aK4 (aO1 (aK5 (aI (aO8 aZ))))),⟨_,i118,v113,r110,v115,cs116,rfl,h,(le89.t le112),hS,m114,m117⟩,Nat.lt_succ_self _⟩
 intro h92 h
 refine cexit ?_
 refine (fun h=>xe (xe (bh h))) ?_
 refine xn (creg (st ?_))
 refine wl (s_bsl underlying64 ti9 (Parts.s ec rfl Parts.z) rfl rfl hS ?_); clear hS; intro b120 w5 hb121 hS; refine po ?_
 obtain ⟨μ5,le123,m122,hS⟩:=Sep.frzBlk (l:=([[125]]:List (List UInt8))) hS (Rw.one (α:=List UInt8) rfl) (Nat.le_of_ble_eq_true rfl)
 obtain ⟨r124,g125,h⟩:=bI h
 replace hS:=(hS.bg Y1).bg Y1
 refine ca (pw_put_w (hg.t (le19.t (le22.t (le89.t le123)))) (m90.up le123) (m91.up le123) m122 g125 hS) ?_
 rintro _ w6 ⟨μ6,v127,v129,cs130,rfl,le126,hS,m128,m131⟩
 refine po (wnil ?_)
 obtain rfl:=oI h
 refine end0 rfl ?_
 exact ⟨_,_,_,_,rfl,(le19.t (le22.t (le89.t (le123.t le126)))),hS,m128,m131⟩
theorem pw_stat_w {fu:Nat} {self:PrS} (IH:PrSSound self):pw_stat_S (pw_stat fu self):=by
 intro μ0 w0 w rsF hg b1 v2 buf_4 v5 cs6 p_2 b8 o9 a10 c11 a13 c14 a16 c17 r m3 m7 m12 m15 m18 m19 h hS
 unfold pw_stat at h
 refine enter func31 rfl (frm:=_::_::u2 (u50 (u50 []))) rfl (cseq (nz ?_))
 iterate 3 refine st ?_
 refine ld ((m19 _ hS.a).one d0) (nw ?_)
 refine ccutE (rg 8 83) (by decide +kernel) (fun m w=>∃ μx v25 l29 v27 cs28,m=(yK8 (yO50 8 (yO20 58 (yO10 78 (yO3 88 [])))))∧pw_stat_j1 fu p_2 l29=some r∧Le μ0 μx∧Sq μx w0 w (.blk b1 36 [v25,v27]::.row v27 5 1 l29.length cs28::rsF)∧Bp μx b1 v25∧Rw μx cs28 l29) (by rintro _ _ ⟨_,_,_,_,_,rfl,_⟩; rfl) ?_ ?_
 refine cblock (cseq (nz ?_))
 iterate 2 refine st ?_
 refine nw ?_
 refine ccutE ([20]) (by decide) (fun m w=>∃ μx b31,m=(yK10 (yK8 (.i (.bool b31)::(yK1 (yO1 20 [])))))∧pw_stat_j2 fu self p_2 buf_4 b31=some r∧Le μ0 μx∧Sq μx w0 w (.blk b1 36 [v2,v5]::.row v5 5 1 buf_4.length cs6::rsF)) (by rintro _ _ ⟨_,_,rfl,_⟩; rfl) ?_ ?_
 refine zCd h ?_ ?_
 intro h32 h
 refine cskip (xl ?_)
 exact ⟨_,_,rfl,(aK10 (aK8 (aI (aK1 (aO1 aZ))))),_,(decide (p_2.Kind=3)),rfl,h,Le.r,hS⟩
 intro h32 h
 refine creg ?_
 iterate 2 refine st ?_
 refine wnil (xl ?_)
 exact ⟨_,_,rfl,(aK10 (aK8 (aI (aK1 (aO1 aZ))))),_,(decide (p_2.Kind=4)),rfl,h,Le.r,hS⟩
 rintro _ t w1 ⟨μ1,b31,rfl,h,le33,hS⟩
 unfold pw_stat_j2 at h
 refine nrm (mK10 (mK8 (mi (mK1 (mO1 mz))))) (xn ?_)
 refine zCb h ?_ ?_
 intro h34 h
 refine nz (st ?_)
 refine wl (s_mkmap hS ?_); clear hS; intro b35 w2 hb36 hS; refine po ?_
 refine wl (s_minsM (κ:=Int) (β:=List UInt8) (kk:=3) (xx:=[105,102]) underlying61 underlying3 (et (k20 d2)) ec ec rfl hS d0 (Mq.nil (κ:=Int) (β:=List UInt8) (μ:=μ1) (c:=0)) dn ?_); clear hS; intro es37 c38 w3 rs_ m39 hp_ hS; cases (show _=rs_ from hp_)
 replace hS:=Sep.reput hS p0
 refine wl (s_minsM (κ:=Int) (β:=List UInt8) (kk:=4) (xx:=[119,104,105,108,101]) underlying61 underlying3 (et (k20 d2)) ec ec rfl hS d0 m39 dn ?_); clear hS; intro es40 c41 w4 rs_ m42 hp_ hS; cases (show _=rs_ from hp_)
 replace hS:=Sep.reput hS p0
 iterate 4 refine st ?_
 refine ld ((m19 _ (le33 _ hS.a)).one d0) ?_
 refine wl (s_mget1 (κ:=Int) (k:=p_2.Kind) (β:=List UInt8) (zx:=[]) underlying61 underlying3 (et (k20 d3)) (et (k20 d7)) zv9 rfl (hS.get d0) m42 ?_); rintro _ rfl; refine po ?_
 refine wl (s_bsl underlying64 ti9 (Parts.s (et (k20 d8)) rfl Parts.z) rfl rfl hS ?_); clear hS; intro b45 w5 hb46 hS; refine po ?_
 obtain ⟨μ2,le48,m47,hS⟩:=Sep.frzBlk (l:=([((mget (mput (mput ([]:List (Int×List UInt8)) 3 [105,102]) 4 [119,104,105,108,101]) p_2.Kind).getD [])]:List (List UInt8))) hS (Rw.one (α:=List UInt8) rfl) (Nat.le_of_ble_eq_true rfl)
 obtain ⟨r49,g50,h⟩:=bI h
 replace hS:=(hS.bg Y2).bg Y2
 refine ca (pw_put_w (hg.t (le33.t le48)) (m3.up (le33.t le48)) (m7.up (le33.t le48)) m47 g50 hS) ?_
 rintro _ w6 ⟨μ3,v52,v54,cs55,rfl,le51,hS,m53,m56⟩
 refine po (nx ?_)
 iterate 4 refine st ?_
 obtain ⟨r57,g58,h⟩:=bI h
 replace hS:=(hS.bg Y1).bg Y1
 refine ca ((PrE_sound fu).pw_expr (hg.t (le33.t (le48.t le51))) m53 m56 (m12.up (le33.t (le48.t le51))) ((m19.up (le33.t (le48.t le51))).sb 2 4) g58 hS) ?_
 rintro _ w7 ⟨μ4,v60,v62,cs63,rfl,le59,hS,m61,m64⟩
 refine po (nx ?_)
 iterate 4 refine st ?_
 refine ld ((m19 _ ((le33.t (le48.t (le51.t le59))) _ hS.a)).one d6) ?_
 obtain ⟨r65,g66,h⟩:=bI h
 replace hS:=(hS.bg Y1).bg Y1
 refine ca (IH.pw_body (hg.t (le33.t (le48.t (le51.t le59)))) m61 m64 (m15.up (le33.t (le48.t (le51.t le59)))) g66 hS) ?_
 rintro _ w8 ⟨μ5,v68,v70,cs71,rfl,le67,hS,m69,m72⟩
 refine po (ny (cseq ?_))
 refine ccutE (rg 42 12) (by decide) (fun m w=>∃ μx b73,m=(yK20 (yK20 (yK2 (yO10 42 (yO2 52 (.i (.bool b73)::[]))))))∧pw_stat_j3 self p_2 r65 b73=some r∧Le μ5 μx∧Sq μx w0 w (.blk b1 36 [v68,v70]::.row v70 5 1 r65.length cs71::rsF)) (by rintro _ _ ⟨_,_,rfl,_⟩; rfl) ?_ ?_
 refine creg ?_
 iterate 3 refine st ?_
 refine ld ((m19 _ ((le33.t (le48.t (le51.t (le59.t le67)))) _ hS.a)).one d0) ?_
 iterate 2 refine st ?_
 refine zWd 47 h ?_ ?_
 intro h74 h
 refine sy rfl (sy rfl (sy rfl (wy rfl (k40 d7) (s_load ti42 (et (k50 d0)) ((m19 _ ((le33.t (le48.t (le51.t (le59.t le67)))) _ hS.a)).one d7) (dt (q50 p1)) (wy rfl (k40 d7) (su (u_lensl underlying42 (et (k50 d1))) (dt (q50 p2)) (sy rfl (st (wnil (xl ?_))))))))))
 replace hS:=hS.drop (Rm.s (Rm.s Rm.z))
 exact ⟨_,_,rfl,(aK20 (aK20 (aK2 (aO10 (aO2 (aI aZ)))))),_,(decide ((0:Int)<(p_2.Else.length:Int))),rfl,h,Le.r,hS⟩
 intro h74 h
 refine sn rfl rfl (sn rfl rfl (sn rfl rfl (sn rfl rfl (sn rfl rfl (sn rfl rfl (st (wnil (xl ?_))))))))
 replace hS:=hS.drop (Rm.s (Rm.s Rm.z))
 exact ⟨_,_,rfl,(aK20 (aK20 (aK2 (aO10 (aO2 (aI aZ)))))),_,false,rfl,h,Le.r,hS⟩
 rintro _ t w9 ⟨μ6,b73,rfl,h,le75,hS⟩
 unfold pw_stat_j3 at h
 refine nrm (mK20 (mK20 (mK2 (mO10 (mO2 (mi mz)))))) (xn ?_)
 refine zCb h ?_ ?_
 intro h76 h
 refine nz (st ?_)
 refine wl (s_bsl underlying64 ti9 (Parts.s ec rfl Parts.z) rfl rfl hS ?_); clear hS; intro b77 w10 hb78 hS; refine po ?_
 obtain ⟨μ7,le80,m79,hS⟩:=Sep.frzBlk (l:=([[101,108,115,101]]:List (List UInt8))) hS (Rw.one (α:=List UInt8) rfl) (Nat.le_of_ble_eq_true rfl)
 obtain ⟨r81,g82,h⟩:=bI h
 replace hS:=(hS.bg Y1).bg Y1
 refine ca (pw_put_w (hg.t (le33.t (le48.t (le51.t (le59.t (le67.t (le75.t le80))))))) (m69.up (le75.t le80)) (m72.up (le75.t le80)) m79 g82 hS) ?_
 rintro _ w11 ⟨μ8,v84,v86,cs87,rfl,le83,hS,m85,m88⟩
 refine po (nw (creg ?_))
 iterate 4 refine st ?_
 refine ld ((m19 _ ((le33.t (le48.t (le51.t (le59.t (le67.t (le75.t (le80.t le83))))))) _ hS.a)).one d7) ?_
 obtain ⟨r89,g90,h⟩:=bI h
 replace hS:=(hS.bg Y1).bg Y1
 refine ca (IH.pw_body (hg.t (le33.t (le48.t (le51.t (le59.t (le67.t (le75.t (le80.t le83)))))))) m85 m88 (m18.up (le33.t (le48.t (le51.t (le59.t (le67.t (le75.t (le80.t le83)))))))) g90 hS) ?_
 rintro _ w12 ⟨μ9,v92,v94,cs95,rfl,le91,hS,m93,m96⟩
 refine po (nw (cret ?_))
 refine (fun h=>br (xr (xr h))) ?_
 obtain rfl:=oI h
 refine ret0 rfl ?_
 exact ⟨_,_,_,_,rfl,(le33.t (le48.t (le51.t (le59.t (le67.t (le75.t (le80.t (le83.t le91)))))))),hS,m93,m96⟩
 intro h76 h
 refine cskip (xn (cret ?_))
 refine (fun h=>br (xr (xr h))) ?_
 obtain rfl:=oI h
 refine ret0 rfl ?_
 exact ⟨_,_,_,_,rfl,(le33.t (le48.t (le51.t (le59.t (le67.t le75))))),hS,(m69.up le75),(m72.up le75)⟩
 intro h34 h
 refine nz ?_
 iterate 2 refine st ?_
 refine nw ?_
 refine zCd h ?_ ?_
 intro h97 h
 refine creg ?_
 iterate 4 refine st ?_
 refine ld ((m19 _ (le33 _ hS.a)).one d1) ?_
 refine wl (s_bsl underlying64 ti9 (Parts.s ec rfl (Parts.s (et (k70 d0)) rfl (Parts.s ec rfl Parts.z))) rfl rfl hS ?_); clear hS; intro b98 w13 hb99 hS; refine po ?_
 obtain ⟨μ10,le101,m100,hS⟩:=Sep.frzBlk (l:=([[108,101,116],p_2.Name,[61]]:List (List UInt8))) hS (Rw.cons (α:=List UInt8) (cs:=[S [108,101,116]]) rfl (Rw.cons (α:=List UInt8) (cs:=[S p_2.Name]) rfl (Rw.cons (α:=List UInt8) (cs:=[S [61]]) rfl Rw.nil))) (Nat.le_of_ble_eq_true rfl)
 obtain ⟨r102,g103,h⟩:=bI h
 replace hS:=(hS.bg Y1).bg Y1
 refine ca (pw_put_w (hg.t (le33.t le101)) (m3.up (le33.t le101)) (m7.up (le33.t le101)) m100 g103 hS) ?_
 rintro _ w14 ⟨μ11,v105,v107,cs108,rfl,le104,hS,m106,m109⟩
 refine po (wnil ?_)
 refine (fun h=>bn (xl h)) ?_
 exact ⟨_,_,rfl,(aK8 (aO50 (aO20 (aO10 (aO3 aZ))))),_,_,_,_,_,rfl,h,(le33.t (le101.t le104)),hS,m106,m109⟩
 intro h97 h
 refine nz ?_
 iterate 2 refine st ?_
 refine nw ?_
 refine zCd h ?_ ?_
 intro h110 h
 refine creg ?_
 iterate 4 refine st ?_
 refine ld ((m19 _ (le33 _ hS.a)).one d1) ?_
 refine wl (s_bsl underlying64 ti9 (Parts.s (et (k70 d9)) rfl (Parts.s ec rfl Parts.z)) rfl rfl hS ?_); clear hS; intro b111 w15 hb112 hS; refine po ?_
 obtain ⟨μ12,le114,m113,hS⟩:=Sep.frzBlk (l:=([p_2.Name,[61]]:List (List UInt8))) hS (Rw.cons (α:=List UInt8) (cs:=[S p_2.Name]) rfl (Rw.cons (α:=List UInt8) (cs:=[S [61]]) rfl Rw.nil)) (Nat.le_of_ble_eq_true rfl)
 obtain ⟨r115,g116,h⟩:=bI h
 replace hS:=(hS.bg Y1).bg Y1
 refine ca (pw_put_w (hg.t (le33.t le114)) (m3.up (le33.t le114)) (m7.up (le33.t le114)) m113 g116 hS) ?_
 rintro _ w16 ⟨μ13,v118,v120,cs121,rfl,le117,hS,m119,m122⟩
 refine po (wnil ?_)
 refine (fun h=>bn (xl h)) ?_
 exact ⟨_,_,rfl,(aK8 (aO50 (aO20 (aO10 (aO3 aZ))))),_,_,_,_,_,rfl,h,(le33.t (le114.t le117)),hS,m119,m122⟩
 intro h110 h
 refine nz ?_
 iterate 2 refine st ?_
 refine nw ?_
 refine zCd h ?_ ?_
 intro h123 h
 refine creg ?_
 iterate 4 refine st ?_
 refine ld ((m19 _ (le33 _ hS.a)).one d1) ?_
 refine wl (s_bsl underlying64 ti9 (Parts.s ec rfl (Parts.s (et (k80 d8)) rfl Parts.z)) rfl rfl hS ?_); clear hS; intro b124 w17 hb125 hS; refine po ?_
 obtain ⟨μ14,le127,m126,hS⟩:=Sep.frzBlk (l:=([[115,101,110,100],p_2.Name]:List (List UInt8))) hS (Rw.cons (α:=List UInt8) (cs:=[S [115,101,110,100]]) rfl (Rw.cons (α:=List UInt8) (cs:=[S p_2.Name]) rfl Rw.nil)) (Nat.le_of_ble_eq_true rfl)
 obtain ⟨r128,g129,h⟩:=bI h
 replace hS:=(hS.bg Y1).bg Y1
 refine ca (pw_put_w (hg.t (le33.t le127)) (m3.up (le33.t le127)) (m7.up (le33.t le127)) m126 g129 hS) ?_
 rintro _ w18 ⟨μ15,v131,v133,cs134,rfl,le130,hS,m132,m135⟩
 refine po (wnil ?_)
 refine (fun h=>bn (xl h)) ?_
 exact ⟨_,_,rfl,(aK8 (aO50 (aO20 (aO10 (aO3 aZ))))),_,_,_,_,_,rfl,h,(le33.t (le127.t le130)),hS,m132,m135⟩
 intro h123 h
 refine creg (st ?_)
 refine wl (s_mkmap hS ?_); clear hS; intro b136 w19 hb137 hS; refine po ?_
 refine wl (s_minsM (κ:=Int) (β:=List UInt8) (kk:=5) (xx:=[114,101,116,117,114,110]) underlying61 underlying3 (et d9) ec ec rfl hS d0 (Mq.nil (κ:=Int) (β:=List UInt8) (μ:=μ1) (c:=0)) dn ?_); clear hS; intro es138 c139 w20 rs_ m140 hp_ hS; cases (show _=rs_ from hp_)
 replace hS:=Sep.reput hS p0
 refine wl (s_minsM (κ:=Int) (β:=List UInt8) (kk:=6) (xx:=[115,116,111,112]) underlying61 underlying3 (et d9) ec ec rfl hS d0 m140 dn ?_); clear hS; intro es141 c142 w21 rs_ m143 hp_ hS; cases (show _=rs_ from hp_)
 replace hS:=Sep.reput hS p0
 refine wl (s_minsM (κ:=Int) (β:=List UInt8) (kk:=8) (xx:=[111,117,116]) underlying61 underlying3 (et d9) ec ec rfl hS d0 m143 dn ?_); clear hS; intro es144 c145 w22 rs_ m146 hp_ hS; cases (show _=rs_ from hp_)
 replace hS:=Sep.reput hS p0
 refine wl (s_minsM (κ:=Int) (β:=List UInt8) (kk:=9) (xx:=[100,111]) underlying61 underlying3 (et d9) ec ec rfl hS d0 m146 dn ?_); clear hS; intro es147 c148 w23 rs_ m149 hp_ hS; cases (show _=rs_ from hp_)
 replace hS:=Sep.reput hS p0
 iterate 4 refine st ?_
 refine ld ((m19 _ (le33 _ hS.a)).one d0) ?_
 refine wl (s_mget1 (κ:=Int) (k:=p_2.Kind) (β:=List UInt8) (zx:=[]) underlying61 underlying3 (et (k10 d0)) (et (k10 d4)) zv9 rfl (hS.get d0) m149 ?_); rintro _ rfl; refine po ?_
 refine wl (s_bsl underlying64 ti9 (Parts.s (et (k10 d5)) rfl Parts.z) rfl rfl hS ?_); clear hS; intro b152 w24 hb153 hS; refine po ?_
 obtain ⟨μ16,le155,m154,hS⟩:=Sep.frzBlk (l:=([((mget (mput (mput (mput (mput ([]:List (Int×List UInt8)) 5 [114,101,116,117,114,110]) 6 [115,116,111,112]) 8 [111,117,116]) 9 [100,111]) p_2.Kind).getD [])]:List (List UInt8))) hS (Rw.one (α:=List UInt8) rfl) (Nat.le_of_ble_eq_true rfl)
 obtain ⟨r156,g157,h⟩:=bI h
 replace hS:=(hS.bg Y2).bg Y2
 refine ca (pw_put_w (hg.t (le33.t le155)) (m3.up (le33.t le155)) (m7.up (le33.t le155)) m154 g157 hS) ?_
 rintro _ w25 ⟨μ17,v159,v161,cs162,rfl,le158,hS,m160,m163⟩
 refine po (wnil ?_)
 refine (fun h=>bn (xl h)) ?_
 replace hS:=hS.drop (Rm.s (Rm.s Rm.z))
 exact ⟨_,_,rfl,(aK8 (aO50 (aO20 (aO10 (aO3 aZ))))),_,_,_,_,_,rfl,h,(le33.t (le155.t le158)),hS,m160,m163⟩
 rintro _ t w26 ⟨μ18,v25,l29,v27,cs28,rfl,h,le164,hS,m165,m166⟩
 unfold pw_stat_j1 at h
 refine nrm (mK8 (mO50 (mO20 (mO10 (mO3 mz))))) (xn (cseq (nz ?_)))
 iterate 3 refine st ?_
 refine ld ((m19 _ (le164 _ hS.a)).one d0) (st (nw ?_))
 refine ccutE (rg 96 5) (by decide) (fun m w=>∃ μx v167 l171 v169 cs170,m=(yK50 (yK20 (yK20 (yK6 (yO5 96 [])))))∧pw_stat_j4 l171=some r∧Le μ18 μx∧Sq μx w0 w (.blk b1 36 [v167,v169]::.row v169 5 1 l171.length cs170::rsF)∧Bp μx b1 v167∧Rw μx cs170 l171) (by rintro _ _ ⟨_,_,_,_,_,rfl,_⟩; rfl) ?_ ?_
 refine zCd h ?_ ?_
 intro h173 h
 refine creg ?_
 iterate 4 refine st ?_
 obtain ⟨r174,g175,h⟩:=bI h
 replace hS:=(hS.bg Y1).bg Y1
 refine ca ((PrE_sound fu).pw_expr (hg.t le164) m165 m166 (m12.up le164) ((m19.up le164).sb 2 4) g175 hS) ?_
 rintro _ w27 ⟨μ19,v177,v179,cs180,rfl,le176,hS,m178,m181⟩
 refine po (wnil (xl ?_))
 exact ⟨_,_,rfl,(aK50 (aK20 (aK20 (aK6 (aO5 aZ))))),_,_,_,_,_,rfl,h,le176,hS,m178,m181⟩
 intro h173 h
 refine cskip (xl ?_)
 exact ⟨_,_,rfl,(aK50 (aK20 (aK20 (aK6 (aO5 aZ))))),_,_,_,_,_,rfl,h,Le.r,hS,m165,m166⟩
 rintro _ t w28 ⟨μ20,v167,l171,v169,cs170,rfl,h,le182,hS,m183,m184⟩
 unfold pw_stat_j4 at h
 refine nrm (mK50 (mK20 (mK20 (mK6 (mO5 mz))))) (xn (creg (st ?_)))
 refine wl (s_bsl underlying64 ti9 (Parts.s ec rfl Parts.z) rfl rfl hS ?_); clear hS; intro b185 w29 hb186 hS; refine po ?_
 obtain ⟨μ21,le188,m187,hS⟩:=Sep.frzBlk (l:=([[59]]:List (List UInt8))) hS (Rw.one (α:=List UInt8) rfl) (Nat.le_of_ble_eq_true rfl)
 obtain ⟨r189,g190,h⟩:=bI h
 replace hS:=(hS.bg Y1).bg Y1
 refine ca (pw_put_w (hg.t (le164.t (le182.t le188))) (m183.up le188) (m184.up le188) m187 g190 hS) ?_
 rintro _ w30 ⟨μ22,v192,v194,cs195,rfl,le191,hS,m193,m196⟩
 refine po (wnil ?_)
 obtain rfl:=oI h
 refine end0 rfl ?_
 exact ⟨_,_,_,_,rfl,(le164.t (le182.t (le188.t le191))),hS,m193,m196⟩
theorem PrS_sound:∀ n,PrSSound (PrS_run n)
  | 0=>⟨(by intro; intros; rename_i h _; cases h),(by intro; intros; rename_i h _; cases h)⟩
  | n+1=>⟨pw_body_w (PrS_sound n),pw_stat_w (PrS_sound n)⟩
theorem pw_def_w (hg:Le Gm μ0) {buf_4:List UInt8} {p_2:TDef} {r:List UInt8} (m3:Bp μ0 b1 v2) (m7:Rw μ0 cs6 buf_4) (m12:Sl μ0 a10 c11 p_2.Params) (m15:Sl μ0 a13 c14 p_2.Body) (m16:At μ0 b8 o9 [.int .i64 p_2.Kind,S p_2.Name,.int .i64 p_2.Typ.Kind,S p_2.Typ.Gen,.int .i64 p_2.Takes.Kind,S p_2.Takes.Gen,.int .i64 p_2.Cap,.slice a10 p_2.Params.length c11,.slice a13 p_2.Body.length c14]) (h:pw_def fu buf_4 p_2=some r) (hS:Sq μ0 w0 w (.blk b1 36 [v2,v5]::.row v5 5 1 buf_4.length cs6::rsF)):CallsV prog 8 [.pointer (some ⟨b1,0,none⟩),.pointer (some ⟨b8,o9,none⟩)] w (fun v w'=>∃ (μ':M) (v17:Value) (v19:Value) (cs20:List Value),v=.tuple ⟨[]⟩∧Le μ0 μ'∧Sq μ' w0 w' (.blk b1 36 [v17,v19]::.row v19 5 1 r.length cs20::rsF)∧Bp μ' b1 v17∧Rw μ' cs20 r):=by
 unfold pw_def at h
 refine enter func8 rfl (frm:=_::_::u2 (u2 (u50 (u50 [])))) rfl (cseq (nz ?_))
 iterate 3 refine st ?_
 refine ld ((m16 _ hS.a).one d0) (nw ?_)
 refine ccutE (rg 4 2++rg 10 90) (by decide +kernel) (fun m w=>∃ μx v22 l26 v24 cs25,m=(yK4 (yO2 4 (yK4 (yO50 10 (yO20 60 (yO20 80 []))))))∧pw_def_j1 fu p_2 l26=some r∧Le μ0 μx∧Sq μx w0 w (.blk b1 36 [v22,v24]::.row v24 5 1 l26.length cs25::rsF)∧Bp μx b1 v22∧Rw μx cs25 l26) (by rintro _ _ ⟨_,_,_,_,_,rfl,_⟩; rfl) ?_ ?_
 refine cblock (nz ?_)
 iterate 2 refine st ?_
 refine nw ?_
 refine zCd h ?_ ?_
 intro h28 h
 refine cseq ?_
 refine ccutE (rg 74 17) (by decide) (fun m w=>∃ μx v29 l33 v31 cs32,m=(yK50 (yK20 (yK4 (yO10 74 (yO7 84 [])))))∧pw_def_j2 l33=some r∧Le μ0 μx∧Sq μx w0 w (.blk b1 36 [v29,v31]::.row v31 5 1 l33.length cs32::rsF)∧Bp μx b1 v29∧Rw μx cs32 l33) (by rintro _ _ ⟨_,_,_,_,_,rfl,_⟩; rfl) ?_ ?_
 refine cdw hS ?_; clear hS; intro w1 hS
 refine sf_start (fpi 0 [0,16] rfl (fpi 1 [1,2,3,4,15,16] rfl (fpi 2 [2,3,4,15,16] rfl (fpi 3 [3,4,15,16] rfl (fr_ 4 [4,15,16] rfl (u_load ti9 (et (k70 d7)) ((m16 _ hS.a).one d1)) (q70 p8) (fpi 5 [5,6,7,8,9,14,15,16] rfl (fpi 6 [6,7,8,9,14,15,16] rfl (fpi 7 [7,8,9,14,15,16] rfl (fr_ 8 [8,9,14,15,16] rfl (u_loads ti40 (et (k80 d1)) ((m16 _ hS.a).sb 2 2) rfl) (q80 p2) (fpi 10 [10,11,12,13,14,15,16] rfl (fpi 11 [11,12,13,14,15,16] rfl (fpi 12 [12,13,14,15,16] rfl (fr_ 13 [13,14,15,16] rfl (u_load ti3 (et (k80 d6)) ((m16 _ hS.a).one d6)) (q80 p7) ?_)))))))))))))
 obtain ⟨r35,g36,h⟩:=bI h
 refine sf1 rfl rfl rfl rfl (wn0 rfl) (s_callv isfn17 ef (e1 (et (k80 d2)) e0) (pr_type_w hg g36 hS) ?_)
 rintro _ w2 ⟨μ1,rfl,le37,hS⟩
 refine po ?_
 refine ⟨(Mons.s (u_load ti3 (et (k80 d6)) ((m16 _ (le37 _ hS.a)).one d6)) (Mons.s (u_load ti9 (et (k70 d7)) ((m16 _ (le37 _ hS.a)).one d1)) Mons.z)),?_⟩
 obtain ⟨s38,g39,h⟩:=bI h
 refine sf1 rfl rfl rfl rfl (wn0 rfl) (s_callv isfn12 ef (e1 (et (k80 d7)) e0) (itoa_w (hg.t le37) g39 hS) ?_); clear hS; rintro _ w3 ⟨rfl,hS⟩; refine po ?_
 refine ⟨(Mons.s (u_load ti9 (et (k70 d7)) ((m16 _ (le37 _ hS.a)).one d1)) Mons.z),?_⟩
 refine sf1 rfl rfl rfl rfl (wn0 rfl) (s_bsl underlying64 ti9 (Parts.s ec rfl (Parts.s (et (k70 d8)) rfl (Parts.s (et (k80 d3)) rfl (Parts.s (et (k80 d8)) rfl (Parts.s ec rfl Parts.z))))) rfl rfl hS ?_); clear hS; intro b40 w4 hb41 hS; refine po ?_
 refine ⟨Mons.z,?_⟩
 obtain ⟨μ2,le43,m42,hS⟩:=Sep.frzBlk (l:=([[98,111,120],p_2.Name,r35,s38,[59]]:List (List UInt8))) hS (Rw.cons (α:=List UInt8) (cs:=[S [98,111,120]]) rfl (Rw.cons (α:=List UInt8) (cs:=[S p_2.Name]) rfl (Rw.cons (α:=List UInt8) (cs:=[S r35]) rfl (Rw.cons (α:=List UInt8) (cs:=[S s38]) rfl (Rw.cons (α:=List UInt8) (cs:=[S [59]]) rfl Rw.nil))))) (Nat.le_of_ble_eq_true rfl)
 obtain ⟨r44,g45,h⟩:=bI h
 replace hS:=(hS.bg Y1).bg Y1
 refine sf1 rfl rfl rfl rfl (wn0 rfl) (s_callv isfn16 ef (e1 (et (k70 d4)) (e1 (et (k80 d9)) e0)) (pw_put_w (hg.t (le37.t le43)) (m3.up (le37.t le43)) (m7.up (le37.t le43)) m42 g45 hS) ?_)
 rintro _ w5 ⟨μ3,v47,v49,cs50,rfl,le46,hS,m48,m51⟩
 refine po ?_
 refine ⟨Mons.z,?_⟩
 refine sf_nil (xl ?_)
 exact ⟨_,_,rfl,(aK50 (aK20 (aK4 (aO10 (aO7 aZ))))),_,_,_,_,_,rfl,h,(le37.t (le43.t le46)),hS,m48,m51⟩
 rintro _ t w6 ⟨μ4,v29,l33,v31,cs32,rfl,h,le52,hS,m53,m54⟩
 unfold pw_def_j2 at h
 refine nrm (mK50 (mK20 (mK4 (mO10 (mO7 mz))))) (xn (cret ?_))
 refine (fun h=>br (xr (xr h))) ?_
 obtain rfl:=oI h
 refine ret0 rfl ?_
 exact ⟨_,_,_,_,rfl,le52,hS,m53,m54⟩
 intro h28 h
 refine nz ?_
 iterate 2 refine st ?_
 refine nw ?_
 refine zCd h ?_ ?_
 intro h55 h
 refine creg ?_
 iterate 4 refine st ?_
 refine ld ((m16 _ hS.a).one d1) ?_
 refine wl (s_bsl underlying64 ti9 (Parts.s ec rfl (Parts.s (et (k90 d7)) rfl Parts.z)) rfl rfl hS ?_); clear hS; intro b56 w7 hb57 hS; refine po ?_
 obtain ⟨μ5,le59,m58,hS⟩:=Sep.frzBlk (l:=([[116,97,115,107],p_2.Name]:List (List UInt8))) hS (Rw.cons (α:=List UInt8) (cs:=[S [116,97,115,107]]) rfl (Rw.cons (α:=List UInt8) (cs:=[S p_2.Name]) rfl Rw.nil)) (Nat.le_of_ble_eq_true rfl)
 obtain ⟨r60,g61,h⟩:=bI h
 replace hS:=(hS.bg Y1).bg Y1
 refine ca (pw_put_w (hg.t le59) (m3.up le59) (m7.up le59) m58 g61 hS) ?_
 rintro _ w8 ⟨μ6,v63,v65,cs66,rfl,le62,hS,m64,m67⟩
 refine po (wnil ?_)
 refine (fun h=>bn (xl h)) ?_
 exact ⟨_,_,rfl,(aK4 (aO2 (aK4 (aO50 (aO20 (aO20 aZ)))))),_,_,_,_,_,rfl,h,(le59.t le62),hS,m64,m67⟩
 intro h55 h
 refine cseq ?_
 refine ccutE (rg 10 14) (by decide) (fun m w=>∃ μx v68 l72 v70 cs71,m=(yK10 (yO10 10 (yO4 20 [])))∧pw_def_j3 fu p_2 l72=some r∧Le μ0 μx∧Sq μx w0 w (.blk b1 36 [v68,v70]::.row v70 5 1 l72.length cs71::rsF)∧Bp μx b1 v68∧Rw μx cs71 l72) (by rintro _ _ ⟨_,_,_,_,_,rfl,_⟩; rfl) ?_ ?_
 refine cdw hS ?_; clear hS; intro w9 hS
 refine sf_start (fpi 0 [0,15] rfl (fpi 5 [5,6,7,8,9,14,15] rfl (fpi 6 [6,7,8,9,14,15] rfl (fpi 7 [7,8,9,14,15] rfl (fr_ 8 [8,9,14,15] rfl (u_load ti3 (et (k10 d5)) ((m16 _ hS.a).one d0)) (q10 p6) (fpi 10 [10,11,12,13,14,15] rfl (fpi 11 [11,12,13,14,15] rfl (fpi 12 [12,13,14,15] rfl (fr_ 13 [13,14,15] rfl (u_load ti9 (et (k20 d0)) ((m16 _ hS.a).one d1)) (q20 p1) ?_)))))))))
 refine sf1 rfl rfl rfl rfl (wn0 rfl) (s_mkmap hS ?_); clear hS; intro b74 w10 hb75 hS; refine po ?_
 refine ⟨(Mons.s (u_load ti9 (et (k20 d0)) ((m16 _ hS.a).one d1)) (Mons.s (u_load ti3 (et (k10 d5)) ((m16 _ hS.a).one d0)) Mons.z)),?_⟩
 refine sf2 (i:=2) (j:=3) rfl rfl rfl rfl rfl rfl rfl (wn0 rfl) (wn0 rfl) ?_ ?_
 refine id (s_minsM (κ:=Int) (β:=List UInt8) (kk:=2) (xx:=[102,110]) underlying61 underlying3 (et (k10 d1)) ec ec rfl hS d0 (Mq.nil (κ:=Int) (β:=List UInt8) (μ:=μ0) (c:=0)) dn ?_); clear hS; intro es76 c77 w11 rs_ m78 hp_ hS; cases (show _=rs_ from hp_)
 replace hS:=Sep.reput hS p0
 refine ⟨(Mons.s (u_load ti9 (et (k20 d0)) ((m16 _ hS.a).one d1)) (Mons.s (u_load ti3 (et (k10 d5)) ((m16 _ hS.a).one d0)) Mons.z)),?_⟩
 refine sf1 rfl rfl rfl rfl (wn0 rfl) (s_minsM (κ:=Int) (β:=List UInt8) (kk:=3) (xx:=[103,101,110]) underlying61 underlying3 (et (k10 d1)) ec ec rfl hS d0 m78 dn ?_); clear hS; intro es79 c80 w12 rs_ m81 hp_ hS; cases (show _=rs_ from hp_)
 replace hS:=Sep.reput hS p0
 refine ⟨(Mons.s (u_load ti9 (et (k20 d0)) ((m16 _ hS.a).one d1)) (Mons.s (u_load ti3 (et (k10 d5)) ((m16 _ hS.a).one d0)) Mons.z)),?_⟩
 refine fpi 4 [4,9,14,15] rfl ?_
 refine sf1 rfl rfl rfl rfl (wn0 rfl) (s_mget1 (κ:=Int) (k:=p_2.Kind) (β:=List UInt8) (zx:=[]) underlying61 underlying3 (et (k10 d2)) (et (k10 d6)) zv9 rfl (hS.get d0) m81 ?_); rintro _ rfl; refine po ?_
 refine ⟨(Mons.s (u_load ti9 (et (k20 d0)) ((m16 _ hS.a).one d1)) Mons.z),?_⟩
 refine sf1 rfl rfl rfl rfl (wn0 rfl) (s_bsl underlying64 ti9 (Parts.s (et (k10 d7)) rfl (Parts.s (et (k20 d1)) rfl (Parts.s ec rfl Parts.z))) rfl rfl hS ?_); clear hS; intro b84 w13 hb85 hS; refine po ?_
 refine ⟨Mons.z,?_⟩
 obtain ⟨μ7,le87,m86,hS⟩:=Sep.frzBlk (l:=([((mget (mput (mput ([]:List (Int×List UInt8)) 2 [102,110]) 3 [103,101,110]) p_2.Kind).getD []),p_2.Name,[40]]:List (List UInt8))) hS (Rw.cons (α:=List UInt8) (cs:=[S ((mget (mput (mput ([]:List (Int×List UInt8)) 2 [102,110]) 3 [103,101,110]) p_2.Kind).getD [])]) rfl (Rw.cons (α:=List UInt8) (cs:=[S p_2.Name]) rfl (Rw.cons (α:=List UInt8) (cs:=[S [40]]) rfl Rw.nil))) (Nat.le_of_ble_eq_true rfl)
 obtain ⟨r88,g89,h⟩:=bI h
 replace hS:=(hS.bg Y2).bg Y2
 refine sf1 rfl rfl rfl rfl (wn0 rfl) (s_callv isfn16 ef (e1 (et (k10 d0)) (e1 (et (k20 d2)) e0)) (pw_put_w (hg.t le87) (m3.up le87) (m7.up le87) m86 g89 hS) ?_)
 rintro _ w14 ⟨μ8,v91,v93,cs94,rfl,le90,hS,m92,m95⟩
 refine po ?_
 refine ⟨Mons.z,?_⟩
 refine sf_nil (xl ?_)
 replace hS:=hS.drop (Rm.s (Rm.s Rm.z))
 exact ⟨_,_,rfl,(aK10 (aO10 (aO4 aZ))),_,_,_,_,_,rfl,h,(le87.t le90),hS,m92,m95⟩
 obtain ⟨r88,g89,h⟩:=bI h
 refine id (s_minsM (κ:=Int) (β:=List UInt8) (kk:=3) (xx:=[103,101,110]) underlying61 underlying3 (et (k10 d1)) ec ec rfl hS d0 (Mq.nil (κ:=Int) (β:=List UInt8) (μ:=μ0) (c:=0)) dn ?_); clear hS; intro es96 c97 w15 rs_ m98 hp_ hS; cases (show _=rs_ from hp_)
 replace hS:=Sep.reput hS p0
 refine ⟨(Mons.s (u_load ti9 (et (k20 d0)) ((m16 _ hS.a).one d1)) (Mons.s (u_load ti3 (et (k10 d5)) ((m16 _ hS.a).one d0)) Mons.z)),?_⟩
 refine sf1 rfl rfl rfl rfl (wn0 rfl) (s_minsM (κ:=Int) (β:=List UInt8) (kk:=2) (xx:=[102,110]) underlying61 underlying3 (et (k10 d1)) ec ec rfl hS d0 m98 dn ?_); clear hS; intro es99 c100 w16 rs_ m101 hp_ hS; cases (show _=rs_ from hp_)
 replace hS:=Sep.reput hS p0
 refine ⟨(Mons.s (u_load ti9 (et (k20 d0)) ((m16 _ hS.a).one d1)) (Mons.s (u_load ti3 (et (k10 d5)) ((m16 _ hS.a).one d0)) Mons.z)),?_⟩
 refine fpi 4 [4,9,14,15] rfl ?_
 refine sf1 rfl rfl rfl rfl (wn0 rfl) (s_mget1 (κ:=Int) (k:=p_2.Kind) (β:=List UInt8) (zx:=[]) underlying61 underlying3 (et (k10 d2)) (et (k10 d6)) zv9 rfl (hS.get d0) m101 ?_); rintro _ rfl; refine po ?_
 rw [show mget (mput (mput ([]:List (Int×List UInt8)) 3 [103,101,110]) 2 [102,110]) p_2.Kind=mget (mput (mput ([]:List (Int×List UInt8)) 2 [102,110]) 3 [103,101,110]) p_2.Kind from mget_swap (by decide)]
 refine ⟨(Mons.s (u_load ti9 (et (k20 d0)) ((m16 _ hS.a).one d1)) Mons.z),?_⟩
 refine sf1 rfl rfl rfl rfl (wn0 rfl) (s_bsl underlying64 ti9 (Parts.s (et (k10 d7)) rfl (Parts.s (et (k20 d1)) rfl (Parts.s ec rfl Parts.z))) rfl rfl hS ?_); clear hS; intro b104 w17 hb105 hS; refine po ?_
 refine ⟨Mons.z,?_⟩
 obtain ⟨μ9,le107,m106,hS⟩:=Sep.frzBlk (l:=([((mget (mput (mput ([]:List (Int×List UInt8)) 2 [102,110]) 3 [103,101,110]) p_2.Kind).getD []),p_2.Name,[40]]:List (List UInt8))) hS (Rw.cons (α:=List UInt8) (cs:=[S ((mget (mput (mput ([]:List (Int×List UInt8)) 2 [102,110]) 3 [103,101,110]) p_2.Kind).getD [])]) rfl (Rw.cons (α:=List UInt8) (cs:=[S p_2.Name]) rfl (Rw.cons (α:=List UInt8) (cs:=[S [40]]) rfl Rw.nil))) (Nat.le_of_ble_eq_true rfl)
 replace hS:=(hS.bg Y2).bg Y2
 refine sf1 rfl rfl rfl rfl (wn0 rfl) (s_callv isfn16 ef (e1 (et (k10 d0)) (e1 (et (k20 d2)) e0)) (pw_put_w (hg.t le107) (m3.up le107) (m7.up le107) m106 g89 hS) ?_)
 rintro _ w18 ⟨μ10,v109,v111,cs112,rfl,le108,hS,m110,m113⟩
 refine po ?_
 refine ⟨Mons.z,?_⟩
 refine sf_nil (xl ?_)
 replace hS:=hS.drop (Rm.s (Rm.s Rm.z))
 exact ⟨_,_,rfl,(aK10 (aO10 (aO4 aZ))),_,_,_,_,_,rfl,h,(le107.t le108),hS,m110,m113⟩
 rintro _ t w19 ⟨μ11,v68,l72,v70,cs71,rfl,h,le114,hS,m115,m116⟩
 unfold pw_def_j3 at h
 refine nrm (mK10 (mO10 (mO4 mz))) (xn (cseq (nz ?_)))
 iterate 3 refine st ?_
 refine ld ((m16 _ (le114 _ hS.a)).one d7) (wl (su (u_lensl underlying41 (et (k20 d7))) (dt (q20 p8)) (st (nw (cblock ?_)))))
 refine cloopE (rg 4 2++rg 30 18) (by decide) (fun n m w=>∃ μx i162 v163 l167 v165 cs166,m=(yK4 (yO2 4 (yK20 (yK3 (.i (.int .i64 i162)::(yO10 30 (yO8 40 [])))))))∧pw_def_l1 fu p_2 n i162 l167=some r∧Le μ11 μx∧Sq μx w0 w (.blk b1 36 [v163,v165]::.row v165 5 1 l167.length cs166::rsF)∧Bp μx b1 v163∧Rw μx cs166 l167) (by rintro _ _ _ ⟨_,_,_,_,_,_,rfl,_⟩; rfl) _ _ (aK4 (aO2 (aK20 (aK3 (aI (aO10 (aO8 aZ))))))) ⟨_,0,v68,l72,v70,cs71,rfl,h,Le.r,hS,m115,m116⟩ ?_
 rintro n_1 _ t w20 ⟨μ12,i162,v163,l167,v165,cs166,rfl,h,le214,hS,m215,m216⟩
 rcases n_1 with _|n_1
 cases h
 unfold pw_def_l1 at h
 refine cnrm (mK4 (mO2 (mK20 (mK3 (mi (mO10 (mO8 mz))))))) (nz (st (ny ?_)))
 refine zCd h ?_ ?_
 intro h217 h
 refine cskip (xn (cseq (cblock (nz (st ?_)))))
 obtain ⟨x218,g219,h⟩:=bI h
 obtain ⟨b220,o221,cs222,e223,f224,m225⟩:=SlR.elem (m12.up (le114.t le214)) g219
 obtain rfl:=m225
 refine wl (su (u_iax underlying41 ti51 (et (k20 d7)) (et (k20 d9)) e223) (dt (q30 p2)) (lds (f224 _ hS.a) rfl ?_))
 refine wl (s_alloc ti51 hS ?_); clear hS; intro b226 w21 hb227 hS; refine po ?_
 refine st (wl (s_storeA ti51 (et d5) (et (k30 d3)) rfl rfl hS d0 rfl p0 dn ?_))
 clear hS; intro w22 hS
 refine ny (nz ?_)
 iterate 2 refine st ?_
 refine nw ?_
 refine ccutE (rg 36 3) (by decide) (fun m w=>∃ μx v228 l232 v230 cs231,m=(yK20 (yK10 (yK6 (yO3 36 []))))∧pw_def_j4 i162 x218 (pw_def_l1 fu p_2 n_1) l232=some r∧Le μ12 μx∧Sq μx w0 w (.blk b1 36 [v228,v230]::.row v230 5 1 l232.length cs231::.blk b226 51 [S x218.Name,.int .i64 x218.Typ.Kind,S x218.Typ.Gen]::rsF)∧Bp μx b1 v228∧Rw μx cs231 l232) (by rintro _ _ ⟨_,_,_,_,_,rfl,_⟩; rfl) ?_ ?_
 refine zCd h ?_ ?_
 intro h234 h
 refine creg (st ?_)
 refine wl (s_bsl underlying64 ti9 (Parts.s ec rfl Parts.z) rfl rfl hS ?_); clear hS; intro b235 w23 hb236 hS; refine po ?_
 obtain ⟨μ13,le238,m237,hS⟩:=Sep.frzBlk (l:=([[44]]:List (List UInt8))) hS (Rw.one (α:=List UInt8) rfl) (Nat.le_of_ble_eq_true rfl)
 obtain ⟨r239,g240,h⟩:=bI h
 replace hS:=(hS.bg Y2).bg Y2
 refine ca (pw_put_w (hg.t (le114.t (le214.t le238))) (m215.up le238) (m216.up le238) m237 g240 hS) ?_
 rintro _ w24 ⟨μ14,v242,v244,cs245,rfl,le241,hS,m243,m246⟩
 refine po (wnil (xl ?_))
 exact ⟨_,_,rfl,(aK20 (aK10 (aK6 (aO3 aZ)))),_,_,_,_,_,rfl,h,(le238.t le241),hS,m243,m246⟩
 intro h234 h
 refine cskip (xl ?_)
 replace hS:=(hS.bg Y2).bg Y2
 exact ⟨_,_,rfl,(aK20 (aK10 (aK6 (aO3 aZ)))),_,_,_,_,_,rfl,h,Le.r,hS,m215,m216⟩
 rintro _ t w25 ⟨μ15,v228,l232,v230,cs231,rfl,h,le247,hS,m248,m249⟩
 unfold pw_def_j4 at h
 refine nrm (mK20 (mK10 (mK6 (mO3 mz)))) (xn ?_)
 refine ccutE (rg 39 8) (by decide) (fun m w=>∃ μx v250 l254 v252 cs253,m=(yK20 (yK10 (yK9 (yO8 39 []))))∧pw_def_j5 i162 (pw_def_l1 fu p_2 n_1) l254=some r∧Le μ15 μx∧Sq μx w0 w (.blk b1 36 [v250,v252]::.row v252 5 1 l254.length cs253::rsF)∧Bp μx b1 v250∧Rw μx cs253 l254) (by rintro _ _ ⟨_,_,_,_,_,rfl,_⟩; rfl) ?_ ?_
 refine cdw hS ?_; clear hS; intro w26 hS
 refine sf_start (fpi 0 [0,7] rfl (fpi 1 [1,2,6,7] rfl (fr_ 2 [2,6,7] rfl (u_load ti9 (et (k40 d0)) ((hS.blk d2).cell d0)) (q40 p1) (fpi 3 [3,4,5,6,7] rfl (fr_ 4 [4,5,6,7] rfl (u_loads ti40 (et (k40 d2)) ((hS.blk d2).cellsAt (Sb.s d1 (Sb.s d2 Sb.z))) rfl) (q40 p3) ?_)))))
 obtain ⟨r256,g257,h⟩:=bI h
 refine sf1 rfl rfl rfl rfl (wn0 rfl) (s_callv isfn17 ef (e1 (et (k40 d3)) e0) (pr_type_w (hg.t (le114.t (le214.t le247))) g257 hS) ?_)
 rintro _ w27 ⟨μ16,rfl,le258,hS⟩
 refine po ?_
 refine ⟨(Mons.s (u_load ti9 (et (k40 d0)) ((hS.blk d2).cell d0)) Mons.z),?_⟩
 refine sf1 rfl rfl rfl rfl (wn0 rfl) (s_bsl underlying64 ti9 (Parts.s (et (k40 d1)) rfl (Parts.s (et (k40 d4)) rfl Parts.z)) rfl rfl hS ?_); clear hS; intro b259 w28 hb260 hS; refine po ?_
 refine ⟨Mons.z,?_⟩
 obtain ⟨μ17,le262,m261,hS⟩:=Sep.frzBlk (l:=([x218.Name,r256]:List (List UInt8))) hS (Rw.cons (α:=List UInt8) (cs:=[S x218.Name]) rfl (Rw.cons (α:=List UInt8) (cs:=[S r256]) rfl Rw.nil)) (Nat.le_of_ble_eq_true rfl)
 obtain ⟨r263,g264,h⟩:=bI h
 replace hS:=(hS.bg Y1).bg Y1
 refine sf1 rfl rfl rfl rfl (wn0 rfl) (s_callv isfn16 ef (e1 (et (k30 d9)) (e1 (et (k40 d5)) e0)) (pw_put_w (hg.t (le114.t (le214.t (le247.t (le258.t le262))))) (m248.up (le258.t le262)) (m249.up (le258.t le262)) m261 g264 hS) ?_)
 rintro _ w29 ⟨μ18,v266,v268,cs269,rfl,le265,hS,m267,m270⟩
 refine po ?_
 refine ⟨Mons.z,?_⟩
 refine sf_nil (xl ?_)
 replace hS:=hS.drop (Rm.s (Rm.s Rm.z))
 exact ⟨_,_,rfl,(aK20 (aK10 (aK9 (aO8 aZ)))),_,_,_,_,_,rfl,h,(le258.t (le262.t le265)),hS,m267,m270⟩
 rintro _ t w30 ⟨μ19,v250,l254,v252,cs253,rfl,h,le271,hS,m272,m273⟩
 unfold pw_def_j5 at h
 refine nrm (mK20 (mK10 (mK9 (mO8 mz)))) ?_
 refine (fun h=>bn (xn h)) ?_
 refine creg ?_
 obtain ⟨i274,g275,h⟩:=bI h
 refine wl (su (u_addc (et (k20 d9)) ec g275) (dt (q40 p7)) (st (wnil (xl ?_))))
 exact ⟨n_1,_,_,rfl,(aK4 (aO2 (aK20 (aK3 (aI (aO10 (aO8 aZ))))))),⟨_,i274,v250,l254,v252,cs253,rfl,h,(le214.t (le247.t le271)),hS,m272,m273⟩,Nat.lt_succ_self _⟩
 intro h217 h
 refine cexit ?_
 refine (fun h=>xe (xe (bh h))) ?_
 refine xn (nz (st ?_))
 refine wl (s_bsl underlying64 ti9 (Parts.s ec rfl Parts.z) rfl rfl hS ?_); clear hS; intro b276 w31 hb277 hS; refine po ?_
 obtain ⟨μ20,le279,m278,hS⟩:=Sep.frzBlk (l:=([[41]]:List (List UInt8))) hS (Rw.one (α:=List UInt8) rfl) (Nat.le_of_ble_eq_true rfl)
 obtain ⟨r280,g281,h⟩:=bI h
 replace hS:=(hS.bg Y1).bg Y1
 refine ca (pw_put_w (hg.t (le114.t (le214.t le279))) (m215.up le279) (m216.up le279) m278 g281 hS) ?_
 rintro _ w32 ⟨μ21,v283,v285,cs286,rfl,le282,hS,m284,m287⟩
 refine po (ny (nz ?_))
 iterate 3 refine st ?_
 refine ld ((m16 _ ((le114.t (le214.t (le279.t le282))) _ hS.a)).one d0) (st (nw ?_))
 refine ccutE (rg 56 8) (by decide) (fun m w=>∃ μx v288 l292 v290 cs291,m=(yK50 (yK6 (yO8 56 [])))∧pw_def_j6 fu p_2 l292=some r∧Le μ21 μx∧Sq μx w0 w (.blk b1 36 [v288,v290]::.row v290 5 1 l292.length cs291::rsF)∧Bp μx b1 v288∧Rw μx cs291 l292) (by rintro _ _ ⟨_,_,_,_,_,rfl,_⟩; rfl) ?_ ?_
 refine zCd h ?_ ?_
 intro h294 h
 refine creg ?_
 iterate 4 refine st ?_
 refine lds ((m16 _ ((le114.t (le214.t (le279.t le282))) _ hS.a)).sb 4 2) rfl ?_
 obtain ⟨r295,g296,h⟩:=bI h
 refine ca (pr_type_w (hg.t (le114.t (le214.t (le279.t le282)))) g296 hS) ?_
 rintro _ w33 ⟨μ22,rfl,le297,hS⟩
 refine po ?_
 refine wl (s_bsl underlying64 ti9 (Parts.s ec rfl (Parts.s (et (k60 d1)) rfl (Parts.s ec rfl Parts.z))) rfl rfl hS ?_); clear hS; intro b298 w34 hb299 hS; refine po ?_
 obtain ⟨μ23,le301,m300,hS⟩:=Sep.frzBlk (l:=([[116,97,107,101,115],r295,[121,105,101,108,100,115]]:List (List UInt8))) hS (Rw.cons (α:=List UInt8) (cs:=[S [116,97,107,101,115]]) rfl (Rw.cons (α:=List UInt8) (cs:=[S r295]) rfl (Rw.cons (α:=List UInt8) (cs:=[S [121,105,101,108,100,115]]) rfl Rw.nil))) (Nat.le_of_ble_eq_true rfl)
 obtain ⟨r302,g303,h⟩:=bI h
 replace hS:=(hS.bg Y1).bg Y1
 refine ca (pw_put_w (hg.t (le114.t (le214.t (le279.t (le282.t (le297.t le301)))))) (m284.up (le297.t le301)) (m287.up (le297.t le301)) m300 g303 hS) ?_
 rintro _ w35 ⟨μ24,v305,v307,cs308,rfl,le304,hS,m306,m309⟩
 refine po (wnil (xl ?_))
 exact ⟨_,_,rfl,(aK50 (aK6 (aO8 aZ))),_,_,_,_,_,rfl,h,(le297.t (le301.t le304)),hS,m306,m309⟩
 intro h294 h
 refine cskip (xl ?_)
 exact ⟨_,_,rfl,(aK50 (aK6 (aO8 aZ))),_,_,_,_,_,rfl,h,Le.r,hS,m284,m287⟩
 rintro _ t w36 ⟨μ25,v288,l292,v290,cs291,rfl,h,le310,hS,m311,m312⟩
 unfold pw_def_j6 at h
 refine nrm (mK50 (mK6 (mO8 mz))) (xn (creg ?_))
 iterate 4 refine st ?_
 refine lds ((m16 _ ((le114.t (le214.t (le279.t (le282.t le310)))) _ hS.a)).sb 2 2) rfl ?_
 obtain ⟨r313,g314,h⟩:=bI h
 refine ca (pr_type_w (hg.t (le114.t (le214.t (le279.t (le282.t le310))))) g314 hS) ?_
 rintro _ w37 ⟨μ26,rfl,le315,hS⟩
 refine po ?_
 refine wl (s_bsl underlying64 ti9 (Parts.s (et (k60 d9)) rfl Parts.z) rfl rfl hS ?_); clear hS; intro b316 w38 hb317 hS; refine po ?_
 obtain ⟨μ27,le319,m318,hS⟩:=Sep.frzBlk (l:=([r313]:List (List UInt8))) hS (Rw.one (α:=List UInt8) rfl) (Nat.le_of_ble_eq_true rfl)
 obtain ⟨r320,g321,h⟩:=bI h
 replace hS:=(hS.bg Y1).bg Y1
 refine ca (pw_put_w (hg.t (le114.t (le214.t (le279.t (le282.t (le310.t (le315.t le319))))))) (m311.up (le315.t le319)) (m312.up (le315.t le319)) m318 g321 hS) ?_
 rintro _ w39 ⟨μ28,v323,v325,cs326,rfl,le322,hS,m324,m327⟩
 refine po (wnil ?_)
 refine (fun h=>bn (xl h)) ?_
 exact ⟨_,_,rfl,(aK4 (aO2 (aK4 (aO50 (aO20 (aO20 aZ)))))),_,_,_,_,_,rfl,h,(le114.t (le214.t (le279.t (le282.t (le310.t (le315.t (le319.t le322))))))),hS,m324,m327⟩
 rintro _ t w40 ⟨μ29,v22,l26,v24,cs25,rfl,h,le328,hS,m329,m330⟩
 unfold pw_def_j1 at h
 refine nrm (mK4 (mO2 (mK4 (mO50 (mO20 (mO20 mz)))))) (xn (creg ?_))
 iterate 4 refine st ?_
 refine ld ((m16 _ (le328 _ hS.a)).one d8) ?_
 obtain ⟨r331,g332,h⟩:=bI h
 replace hS:=(hS.bg Y1).bg Y1
 refine ca ((PrS_sound fu).pw_body (hg.t le328) m329 m330 (m15.up le328) g332 hS) ?_
 rintro _ w41 ⟨μ30,v334,v336,cs337,rfl,le333,hS,m335,m338⟩
 refine po (wnil ?_)
 obtain rfl:=oI h
 refine end0 rfl ?_
 exact ⟨_,_,_,_,rfl,(le328.t le333),hS,m335,m338⟩
theorem syn_print_w (hg:Le Gm μ0) {p_1:List TDef} {r:List UInt8×TFault} (m3:Sl μ0 a1 c2 p_1) (h:syn_print fu p_1=some r) (hS:Sq μ0 w0 w (rsF)):CallsV prog 4 [.slice a1 p_1.length c2] w (fun v w'=>∃ (μ':M) ,v=.tuple ⟨[S r.1,.agg ⟨[.int .i64 r.2.Err,.int .i64 r.2.At]⟩]⟩∧Le μ0 μ'∧Sq μ' w0 w' (rsF)):=by
 unfold syn_print at h
 refine enter func4 rfl (frm:=_::u1 (u5 (u10 (u20 [])))) rfl (nz (st ?_))
 refine wl (s_alloc ti25 hS ?_); clear hS; intro b4 w1 hb5 hS; refine po ?_
 refine ny (nz (st ?_))
 obtain ⟨r6,g7,h⟩:=bI h
 refine ca (syn_wrong_w hg m3 g7 hS) ?_
 rintro _ w2 ⟨μ1,rfl,le8,hS⟩
 refine po ?_
 refine wl (s_alloc ti25 hS ?_); clear hS; intro b9 w3 hb10 hS; refine po ?_
 refine wl (s_storeA ti25 (et d4) (et d8) rfl rfl hS d0 rfl p0 dn ?_)
 clear hS; intro w4 hS
 refine nx (st (ld ((hS.blk d0).cell d0) (st (nw ?_))))
 refine zCd h ?_ ?_
 intro h11 h
 refine cseq ?_
 refine cdw hS ?_; clear hS; intro w5 hS
 refine sf_start (fr_ 0 [0,2] rfl (u_loads ti25 (et d4) (hS.blk d0).cells rfl) (q10 p2) (fpi 1 [1,2] rfl (sf1 rfl rfl rfl rfl (wn0 rfl) (s_storeA ti25 (et d3) (et (k10 d2)) rfl rfl hS d1 rfl p1 dn ?_))))
 clear hS; intro w6 hS
 refine ⟨Mons.z,?_⟩
 refine sf_nil (xn (cret (xr ?_)))
 obtain rfl:=oI h
 refine retN rfl (RVs.s (.t d2) (RVs.s (.a d3 ti25 (hS.blk d1).cells rfl) RVs.z)) ?_
 replace hS:=(hS.drop Rm.z).drop Rm.z
 exact ⟨_,rfl,le8,hS⟩
 intro h11 h
 refine cskip (xn (nz (wl (s_build ti36 pl36 Fl.z (dt (q10 p3)) ?_))))
 refine wl (s_box (et (k10 d3)) rfl hS ?_); clear hS; intro b12 w7 hb13 hS; refine po ?_
 refine st (ny (nz (st (wl (su (u_lensl underlying22 (et (k10 d5))) (dt (q10 p6)) (st (nw (cblock ?_))))))))
 replace hS:=hS.nilRow 5 (Mo.sz UInt8)
 replace hS:=((hS.drop (Rm.s (Rm.s Rm.z))).bg Y1).bg Y2
 refine cloopE ([6]++rg 18 8) (by decide) (fun n m w=>∃ μx i39 v40 l44 v42 cs43,m=(yK6 (yO1 6 (yK10 (.i (.int .i64 i39)::(yO8 18 [])))))∧syn_print_l1 fu p_1 n i39 l44=some r∧Le μ1 μx∧Sq μx w0 w (.blk b4 25 [.int .i64 0,.int .i64 0]::.blk b12 36 [v40,v42]::.row v42 5 1 l44.length cs43::rsF)∧Bp μx b12 v40∧Rw μx cs43 l44) (by rintro _ _ _ ⟨_,_,_,_,_,_,rfl,_⟩; rfl) _ _ (aK6 (aO1 (aK10 (aI (aO8 aZ))))) ⟨_,0,(.pointer none),[],(.slice none 0 0),[],rfl,h,Le.r,hS,Bp.nil,Rw.nil⟩ ?_
 rintro n_1 _ t w8 ⟨μ2,i39,v40,l44,v42,cs43,rfl,h,le70,hS,m71,m72⟩
 rcases n_1 with _|n_1
 cases h
 unfold syn_print_l1 at h
 refine cnrm (mK6 (mO1 (mK10 (mi (mO8 mz))))) (nz (st (ny ?_)))
 refine zCd h ?_ ?_
 intro h73 h
 refine cskip (xn (cseq (cblock (nz ?_))))
 iterate 2 refine st ?_
 refine nw (creg ?_)
 iterate 3 refine st ?_
 obtain ⟨x74,g75,h⟩:=bI h
 obtain ⟨b76,o77,cs78,e79,f80,m81⟩:=SlR.elem (m3.up (le8.t le70)) g75
 obtain ⟨a82,c83,a85,c86,rfl,m84,m87⟩:=m81
 refine wl (su (u_iax underlying22 ti44 (et (k20 d1)) (et (k20 d2)) e79) (dt (q20 p3)) ?_)
 obtain ⟨r88,g89,h⟩:=bI h
 replace hS:=(hS.bg Y2).bg Y2
 refine ca (pw_def_w (hg.t (le8.t le70)) m71 m72 m84 m87 f80 g89 hS) ?_
 rintro _ w9 ⟨μ3,v91,v93,cs94,rfl,le90,hS,m92,m95⟩
 refine po (wnil ?_)
 refine (fun h=>bn (xn h)) ?_
 refine creg ?_
 obtain ⟨i96,g97,h⟩:=bI h
 refine wl (su (u_addc (et (k10 d7)) ec g97) (dt (q20 p5)) (st (wnil (xl ?_))))
 replace hS:=((hS.bg Y1).bg Y1).bg Y2
 exact ⟨n_1,_,_,rfl,(aK6 (aO1 (aK10 (aI (aO8 aZ))))),⟨_,i96,v91,r88,v93,cs94,rfl,h,(le70.t le90),hS,m92,m95⟩,Nat.lt_succ_self _⟩
 intro h73 h
 refine cexit ?_
 refine (fun h=>xe (xe (bh h))) ?_
 refine xn (cseq (nz ?_))
 iterate 3 refine st ?_
 obtain ⟨r98,g99,h⟩:=bI h
 replace hS:=(hS.bg Y2).bg Y2
 refine ca (bd_len_w (hg.t (le8.t le70)) m71 m72 g99 hS) ?_
 rintro _ w10 ⟨μ4,rfl,le100,hS⟩
 refine po (st (nw ?_))
 refine zCd h ?_ ?_
 intro h101 h
 refine nz (wl (s_build ti25 pl25 (Fl.o rfl ec rfl rfl p0 Fl.z) (dt (q30 p1)) (st (wl (s_storeA ti25 (et d3) (et (k30 d1)) rfl rfl hS d2 rfl p2 dn ?_)))))
 clear hS; intro w11 hS
 refine nw (cret (xr ?_))
 obtain rfl:=oI h
 refine retN rfl (RVs.s (.t d2) (RVs.s (.a d3 ti25 (hS.blk d2).cells rfl) RVs.z)) ?_
 replace hS:=((hS.drop Rm.z).drop Rm.z).drop Rm.z
 exact ⟨_,rfl,(le8.t (le70.t le100)),hS⟩
 intro h101 h
 refine cskip (xn (nz ?_))
 iterate 3 refine st ?_
 replace hS:=(hS.bg Y1).bg Y1
 refine ca (bw_string (m72.up le100) hS) ?_
 rintro _ w12 ⟨μ5,rfl,le102,hS⟩; refine po ?_
 refine wl (s_build ti25 pl25 Fl.z (dt (q30 p6)) (st (wl (s_storeA ti25 (et d3) (et (k30 d6)) rfl rfl hS d0 rfl p0 dn ?_))))
 clear hS; intro w13 hS
 refine nw (cret ?_)
 obtain rfl:=oI h
 refine retN rfl (RVs.s (.t d2) (RVs.s (.a d3 ti25 (hS.blk d0).cells rfl) RVs.z)) ?_
 replace hS:=hS.drop Rm.z
 exact ⟨_,rfl,(le8.t (le70.t (le100.t le102))),hS⟩
end Go.Proofs.YteiemedhecjgiaaDoor
set_option maxRecDepth 100000
set_option maxHeartbeats 20000000
namespace Go.Proofs.YteiemedhecjgiaaDoor
open Go.Wk Go.Xt Go.Y Tryd
variable {c2 fu:Nat} {a1:Option Addr} {μ0:M} {w0 w:World} {rsF:List Res}
theorem law_synp_w (hg:Le Gm μ0) {p_1:List TDef} {r:Bool} (m3:Sl μ0 a1 c2 p_1) (h:law_synp fu p_1=some r) (hS:Sq μ0 w0 w (rsF)):CallsV prog 3 [.slice a1 p_1.length c2] w (fun v w'=>∃ (μ':M) ,v=.bool r∧Le μ0 μ'∧Sq μ' w0 w' (rsF)):=by
 unfold law_synp at h
 refine enter func3 rfl (frm:=_::u1 (u10 (u20 []))) rfl (nz (st (nx (st ?_))))
 obtain ⟨r4,g5,h⟩:=bI h
 refine ca (syn_print_w hg m3 g5 hS) ?_
 rintro _ w1 ⟨μ1,rfl,le6,hS⟩
 refine po ?_
 iterate 3 refine st ?_
 refine wl (s_alloc ti25 hS ?_); clear hS; intro b7 w2 hb8 hS; refine po ?_
 refine st (wl (s_storeA ti25 (et d4) (et (k10 d1)) rfl rfl hS d0 rfl p0 dn ?_))
 clear hS; intro w3 hS
 refine nx (st ?_)
 obtain ⟨r9,g10,h⟩:=bI h
 refine ca (r2_print_w (hg.t le6) (m3.up le6) g10 hS) ?_
 rintro _ w4 ⟨μ2,rfl,le11,hS⟩
 refine po ?_
 iterate 3 refine st ?_
 refine wl (s_alloc ti25 hS ?_); clear hS; intro b12 w5 hb13 hS; refine po ?_
 refine st (wl (s_storeA ti25 (et d6) (et (k10 d6)) rfl rfl hS d0 rfl p0 dn ?_))
 clear hS; intro w6 hS
 refine nx (st ?_)
 obtain ⟨r14,g15,h⟩:=bI h
 refine ca (syn_wrong_w (hg.t (le6.t le11)) (m3.up (le6.t le11)) g15 hS) ?_
 rintro _ w7 ⟨μ3,rfl,le16,hS⟩
 refine po (st ?_)
 obtain ⟨r17,g18,h⟩:=bI h
 refine ca (r2_wrong_w (hg.t (le6.t (le11.t le16))) (m3.up (le6.t (le11.t le16))) g18 hS) ?_
 rintro _ w8 ⟨μ4,rfl,le19,hS⟩
 refine po (wl (s_eqa (ES.mk underlying25 eh25 eg25) (et (k10 d8)) (et (k20 d0)) (EqFs.o rfl rfl rfl ti23 d0 d0 (eq_int underlying23) (EqFs.o rfl rfl rfl ti3 d1 d1 (eq_int underlying3) EqFs.z)) rfl (dt (q20 p1)) (st ?_)))
 refine zWb 22 h ?_ ?_
 intro h20 h
 refine sy rfl (sy rfl (wy rfl (k20 d2) (su (u_eqs (et (k20 d3)) (et (k20 d4))) (dt (q20 p5)) ?_)))
 iterate 2 refine st ?_
 refine zWd 27 h ?_ ?_
 intro h21 h
 refine wy rfl (k20 d7) (s_loads ti25 (et d4) (hS.blk d1).cells rfl (dt (q20 p8)) (wy rfl (k20 d7) (s_loads ti25 (et d6) (hS.blk d0).cells rfl (dt (q20 p9)) (wy rfl (k20 d7) (s_eqa (ES.mk underlying25 eh25 eg25) (et (k20 d8)) (et (k20 d9)) (EqFs.o rfl rfl rfl ti23 d0 d0 (eq_int underlying23) (EqFs.o rfl rfl rfl ti3 d1 d1 (eq_int underlying3) EqFs.z)) rfl (dt (q30 p0)) ?_)))))
 iterate 2 refine st ?_
 refine nw (cret ?_)
 obtain rfl:=oI h
 refine ret1 rfl d2 ?_
 replace hS:=(hS.drop Rm.z).drop Rm.z
 exact ⟨_,rfl,(le6.t (le11.t (le16.t le19))),hS⟩
 intro h21 h
 refine sn rfl rfl (sn rfl rfl (sn rfl rfl ?_))
 iterate 2 refine st ?_
 refine nw (cret ?_)
 obtain rfl:=oI h
 refine ret1 rfl d2 ?_
 replace hS:=(hS.drop Rm.z).drop Rm.z
 exact ⟨_,rfl,(le6.t (le11.t (le16.t le19))),hS⟩
 intro h20 h
 refine sn rfl rfl (sn rfl rfl (sn rfl rfl ?_))
 iterate 2 refine st ?_
 refine sn rfl rfl (sn rfl rfl (sn rfl rfl ?_))
 iterate 2 refine st ?_
 refine nw (cret ?_)
 obtain rfl:=oI h
 refine ret1 rfl d2 ?_
 replace hS:=(hS.drop Rm.z).drop Rm.z
 exact ⟨_,rfl,(le6.t (le11.t (le16.t le19))),hS⟩
end Go.Proofs.YteiemedhecjgiaaDoor
