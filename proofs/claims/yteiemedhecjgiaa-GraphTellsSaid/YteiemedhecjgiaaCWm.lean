/- Texts of GraphTells Wm. -/
import Derived.Test.YteiemedhecjgiaaCXu
import Derived.Test.YteiemedhecjgiaaCPl
import Derived.Test.YteiemedhecjgiaaCWl
import Derived.Test.YteiemedhecjgiaaCFl
import Derived.Test.YteiemedhecjgiaaCWc
set_option linter.unusedSimpArgs false
set_option linter.unusedVariables false
set_option linter.unusedSectionVars false
set_option maxRecDepth 100000
set_option maxHeartbeats 20000000
namespace Go.Proofs.Yteiemedhecjgiaa
open Go.Wk Go.Xt Go.Y Try
variable {c2 fu:Nat} {a1:Option Addr} {μ0:M} {w0 w:World} {rsF:List Res}
def r3_speaks_S (q:TExpr→Int→(List UInt8)→Option Bool):Prop:=∀ {μ0:M} {w0 w:World} {rsF:List Res} (hg:Le Gm μ0) {p_1:TExpr} {a1:Option Addr} {c2:Nat} {p_2:Int} {p_3:List UInt8} {r:Bool} (m3:Sl μ0 a1 c2 p_1.Kids) (h:q p_1 p_2 p_3=some r) (hS:Sq μ0 w0 w (rsF)),CallsV prog 46 [.agg ⟨[.int .i64 p_1.Kind,.int .i64 p_1.N,S p_1.Name,.slice a1 p_1.Kids.length c2]⟩,.int .i64 p_2,S p_3] w (fun v w'=>∃ (μ':M) ,v=.bool r∧Le μ0 μ'∧Sq μ' w0 w' (rsF))
structure R3KSound (sf:R3K):Prop where
  r3_speaks:r3_speaks_S sf.r3_speaks
theorem r3_speaks_w {self:R3K} (IH:R3KSound self):r3_speaks_S (r3_speaks self):=by
 intro μ0 w0 w rsF hg p_1 a1 c2 p_2 p_3 r m3 h hS
 unfold r3_speaks at h
 refine enter func46 rfl (frm:=_::_::_::u1 (u2 (u5 (u20 [])))) rfl (nz ?_)
 refine wl (s_box (et d0) rfl hS ?_); clear hS; intro b4 w1 hb5 hS; refine po ?_
 refine st (ny (cseq ?_))
 refine ccutE (rg 9 9) (by decide) (fun m w=>∃ μx b6,m=(yK9 (yO9 9 (.i (.bool b6)::[])))∧r3_speaks_j1 self p_1 p_2 p_3 b6=some r∧Le μ0 μx∧Sq μx w0 w (.blk b4 119 [.int .i64 p_1.Kind,.int .i64 p_1.N,S p_1.Name,.slice a1 p_1.Kids.length c2]::rsF)) (by rintro _ _ ⟨_,_,rfl,_⟩; rfl) ?_ ?_
 refine creg (st (ld ((hS.blk d0).cell d0) ?_))
 iterate 3 refine st ?_
 refine zWd 13 h ?_ ?_
 intro h7 h
 refine sy rfl (wy rfl (k10 d3) (s_load ti9 (et (k10 d4)) ((hS.blk d0).cell d2) (dt (q10 p5)) (sy rfl (wy rfl (k10 d3) (su (u_eqs (et (k10 d5)) (et (k10 d6))) (dt (q10 p7)) (st (wnil (xl ?_))))))))
 exact ⟨_,_,rfl,(aK9 (aO9 (aI aZ))),_,(decide (p_1.Name=p_3)),rfl,h,Le.r,hS⟩
 intro h7 h
 refine sn rfl rfl (sn rfl rfl (sn rfl rfl (sn rfl rfl (st (wnil (xl ?_))))))
 exact ⟨_,_,rfl,(aK9 (aO9 (aI aZ))),_,false,rfl,h,Le.r,hS⟩
 rintro _ t w2 ⟨μ1,b6,rfl,h,le8,hS⟩
 unfold r3_speaks_j1 at h
 refine nrm (mK9 (mO9 (mi mz))) (xn ?_)
 refine zCb h ?_ ?_
 intro h9 h
 refine nz (st (nw (cret (xr ?_))))
 obtain rfl:=oI h
 refine ret1 rfl d6 ?_
 replace hS:=hS.drop Rm.z
 exact ⟨_,rfl,le8,hS⟩
 intro h9 h
 refine cskip (xn (cseq (nz (st (ld ((hS.blk d0).cell d3) (wl (su (u_lensl underlying117 (et (k20 d0))) (dt (q20 p1)) (st (nw (cblock ?_))))))))))
 replace hS:=hS.drop Rm.z
 refine cloopE ([6]++[8]++rg 23 8) (by decide) (fun n m w=>∃ μx i28,m=(yK6 (yO1 6 (yK1 (yO1 8 (yK10 (yK3 (.i (.int .i64 i28)::(yO8 23 []))))))))∧r3_speaks_l1 self p_1 p_2 p_3 n i28=some r∧Le μ1 μx∧Sq μx w0 w (rsF)) (by rintro _ _ _ ⟨_,_,rfl,_⟩; rfl) _ _ (aK6 (aO1 (aK1 (aO1 (aK10 (aK3 (aI (aO8 aZ)))))))) ⟨_,0,rfl,h,Le.r,hS⟩ ?_
 rintro n_1 _ t w3 ⟨μ2,i28,rfl,h,le47,hS⟩
 rcases n_1 with _|n_1
 cases h
 unfold r3_speaks_l1 at h
 refine cnrm (mK6 (mO1 (mK1 (mO1 (mK10 (mK3 (mi (mO8 mz)))))))) (nz (st (ny ?_)))
 refine zCd h ?_ ?_
 intro h48 h
 refine cskip (xn (cseq (cblock (nz ?_))))
 obtain ⟨x49,g50,h⟩:=bI h
 obtain ⟨b51,o52,cs53,e54,f55,m56⟩:=SlR.elem (m3.up (le8.t le47)) g50
 obtain ⟨a57,c58,rfl,m59⟩:=TExpr.o m56
 refine wl (su (u_iax underlying117 ti119 (et (k20 d0)) (et (k20 d2)) e54) (dt (q20 p4)) (lds (f55 _ hS.a) rfl ?_))
 refine wl (s_alloc ti119 hS ?_); clear hS; intro b60 w4 hb61 hS; refine po ?_
 refine wl (s_storeA ti119 (et d8) (et (k20 d5)) rfl rfl hS d0 rfl p0 dn ?_)
 clear hS; intro w5 hS
 refine nx (lds (hS.blk d0).cells rfl ?_)
 iterate 2 refine st ?_
 obtain ⟨r62,g63,h⟩:=bI h
 refine ca (IH.r3_speaks (hg.t (le8.t le47)) m59 g63 hS) ?_
 rintro _ w6 ⟨μ3,rfl,le64,hS⟩
 refine po (nw ?_)
 refine zCb h ?_ ?_
 intro h65 h
 refine nz (st (nw (cret ?_)))
 refine (fun h=>br (xr (xr (br (xr h))))) ?_
 obtain rfl:=oI h
 refine ret1 rfl d6 ?_
 replace hS:=hS.drop Rm.z
 exact ⟨_,rfl,(le8.t (le47.t le64)),hS⟩
 intro h65 h
 refine cskip ?_
 refine (fun h=>bn (xn h)) ?_
 refine creg ?_
 obtain ⟨i66,g67,h⟩:=bI h
 refine wl (su (u_addc (et (k20 d2)) ec g67) (dt (q30 p0)) (st (wnil (xl ?_))))
 replace hS:=hS.drop Rm.z
 exact ⟨n_1,_,_,rfl,(aK6 (aO1 (aK1 (aO1 (aK10 (aK3 (aI (aO8 aZ)))))))),⟨_,i66,rfl,h,(le47.t le64),hS⟩,Nat.lt_succ_self _⟩
 intro h48 h
 refine cexit ?_
 refine (fun h=>xe (xe (bh h))) ?_
 refine xn (nz (st (nw (cret ?_))))
 obtain rfl:=oI h
 refine ret1 rfl d6 ?_
 exact ⟨_,rfl,(le8.t le47),hS⟩
theorem R3K_sound:∀ n,R3KSound (R3K_run n)
  | 0=>⟨(by intro; intros; rename_i h _; cases h)⟩
  | n+1=>⟨r3_speaks_w (R3K_sound n)⟩
def r3_says_S (q:(List TStat)→Int→(List UInt8)→Option Bool):Prop:=∀ {μ0:M} {w0 w:World} {rsF:List Res} (hg:Le Gm μ0) {p_1:List TStat} {a1:Option Addr} {c2:Nat} {p_2:Int} {p_3:List UInt8} {r:Bool} (m3:Sl μ0 a1 c2 p_1) (h:q p_1 p_2 p_3=some r) (hS:Sq μ0 w0 w (rsF)),CallsV prog 24 [.slice a1 p_1.length c2,.int .i64 p_2,S p_3] w (fun v w'=>∃ (μ':M) ,v=.bool r∧Le μ0 μ'∧Sq μ' w0 w' (rsF))
structure R3SSound (sf:R3S):Prop where
  r3_says:r3_says_S sf.r3_says
theorem r3_says_w {fu:Nat} {self:R3S} (IH:R3SSound self):r3_says_S (r3_says fu self):=by
 intro μ0 w0 w rsF hg p_1 a1 c2 p_2 p_3 r m3 h hS
 unfold r3_says at h
 refine enter func24 rfl (frm:=_::_::_::u2 (u50 [])) rfl (nz (st (ny (nz (st ?_)))))
 obtain ⟨r4,g5,h⟩:=bI h
 refine ca ((BareS_sound fu).r2_bstats hg m3 g5 hS) ?_
 rintro _ w1 ⟨μ1,a7,c8,rfl,le6,hS,m9⟩
 refine po (wl (su (u_lensl underlying57 (et (k10 d0))) (dt (q10 p1)) (st (nw (cblock ?_)))))
 refine cloopE ([6]++[8]++rg 13 42) (by decide +kernel) (fun n m w=>∃ μx i92,m=(yK6 (yO1 6 (yK1 (yO1 8 (yK3 (.i (.int .i64 i92)::(yO20 13 (yO20 33 (yO2 53 [])))))))))∧r3_says_l1 fu self p_2 p_3 r4 n i92=some r∧Le μ1 μx∧Sq μx w0 w (rsF)) (by rintro _ _ _ ⟨_,_,rfl,_⟩; rfl) _ _ (aK6 (aO1 (aK1 (aO1 (aK3 (aI (aO20 (aO20 (aO2 aZ))))))))) ⟨_,0,rfl,h,Le.r,hS⟩ ?_
 rintro n_1 _ t w2 ⟨μ2,i92,rfl,h,le175,hS⟩
 rcases n_1 with _|n_1
 cases h
 unfold r3_says_l1 at h
 refine cnrm (mK6 (mO1 (mK1 (mO1 (mK3 (mi (mO20 (mO20 (mO2 mz))))))))) (nz (st (ny ?_)))
 refine zCd h ?_ ?_
 intro h176 h
 refine cskip (xn (cseq (cblock (nz ?_))))
 obtain ⟨x177,g178,h⟩:=bI h
 obtain ⟨b179,o180,cs181,e182,f183,m184⟩:=SlR.elem (m9.up le175) g178
 obtain ⟨a185,c186,a188,c189,a191,c192,rfl,m187,m190,m193⟩:=TStat.o m184
 refine wl (su (u_iax underlying57 ti121 (et (k10 d0)) (et (k10 d2)) e182) (dt (q10 p4)) (lds (f183 _ hS.a) rfl ?_))
 refine wl (s_alloc ti121 hS ?_); clear hS; intro b194 w3 hb195 hS; refine po ?_
 refine wl (s_storeA ti121 (et d8) (et (k10 d5)) rfl rfl hS d0 rfl p0 dn ?_)
 clear hS; intro w4 hS
 refine ny ?_
 refine ccutE (rg 16 37) (by decide +kernel) (fun m w=>∃ μx b196,m=(yK10 (yK6 (yO20 16 (yO10 36 (yO7 46 (.i (.bool b196)::[]))))))∧r3_says_j1 i92 (r3_says_l1 fu self p_2 p_3 r4 n_1) b196=some r∧Le μ2 μx∧Sq μx w0 w (rsF)) (by rintro _ _ ⟨_,_,rfl,_⟩; rfl) ?_ ?_
 refine creg ?_
 iterate 3 refine st ?_
 refine zWd 18 h ?_ ?_
 intro h197 h
 refine sy rfl (wy rfl (k10 d8) (s_load ti3 (et (k10 d9)) ((hS.blk d0).cell d0) (dt (q20 p0)) (sy rfl ?_)))
 iterate 2 refine st ?_
 refine zWd 23 h ?_ ?_
 intro h198 h
 refine sy rfl (wy rfl (k20 d3) (s_load ti9 (et (k20 d4)) ((hS.blk d0).cell d1) (dt (q20 p5)) (sy rfl (wy rfl (k20 d3) (su (u_eqs (et (k20 d5)) (et (k20 d6))) (dt (q20 p7)) ?_)))))
 iterate 2 refine st ?_
 refine zWd 29 h ?_ ?_
 intro h199 h
 refine sn rfl rfl (sn rfl rfl (sn rfl rfl (wu rfl (k30 d2) (dt (q30 p3)) (wu rfl (k30 d2) (dt (q30 p4)) (wu rfl (k30 d2) (dt (q30 p5)) (wu rfl (k30 d2) (dt (q30 p6)) (wu rfl (k30 d2) (dt (q30 p7)) (sn rfl rfl ?_))))))))
 iterate 2 refine st ?_
 refine sn rfl rfl (sn rfl rfl (sn rfl rfl (sn rfl rfl (sn rfl rfl ?_))))
 iterate 2 refine st ?_
 refine sn rfl rfl (sn rfl rfl (sn rfl rfl (sn rfl rfl (sn rfl rfl (st (wnil (xl ?_)))))))
 replace hS:=hS.drop Rm.z
 exact ⟨_,_,rfl,(aK10 (aK6 (aO20 (aO10 (aO7 (aI aZ)))))),_,true,rfl,h,Le.r,hS⟩
 intro h199 h
 refine sy rfl (sy rfl (sy rfl ?_))
 refine zWd 32 h ?_ ?_
 intro h200 h
 refine sy rfl (wy rfl (k30 d2) (s_loads ti119 (et (k30 d3)) ((hS.blk d0).cellsAt (Sb.s d2 (Sb.s d3 (Sb.s d4 (Sb.s d5 Sb.z))))) rfl (dt (q30 p4)) (sy rfl (sy rfl ?_))))
 obtain ⟨r201,g202,h⟩:=bI h
 refine wy rfl (k30 d2) (s_callv isfn46 ef (e1 (et (k30 d4)) (e1 (et (k30 d5)) (e1 (et (k30 d6)) e0))) ((R3K_sound fu).r3_speaks (hg.t (le6.t le175)) m187 g202 hS) ?_)
 rintro _ w5 ⟨μ3,rfl,le203,hS⟩
 refine po (sy rfl ?_)
 iterate 2 refine st ?_
 refine zWb 40 h ?_ ?_
 intro h204 h
 refine sn rfl rfl (sn rfl rfl (sn rfl rfl (sn rfl rfl (sn rfl rfl ?_))))
 iterate 2 refine st ?_
 refine sn rfl rfl (sn rfl rfl (sn rfl rfl (sn rfl rfl (sn rfl rfl (st (wnil (xl ?_)))))))
 replace hS:=hS.drop Rm.z
 exact ⟨_,_,rfl,(aK10 (aK6 (aO20 (aO10 (aO7 (aI aZ)))))),_,true,rfl,h,le203,hS⟩
 intro h204 h
 refine sy rfl (wy rfl (k40 d0) (s_load ti57 (et (k40 d1)) ((hS.blk d0).cell d6) (dt (q40 p2)) (sy rfl (sy rfl ?_))))
 obtain ⟨r205,g206,h⟩:=bI h
 refine wy rfl (k40 d0) (s_callv isfn24 ef (e1 (et (k40 d2)) (e1 (et (k40 d3)) (e1 (et (k40 d4)) e0))) (IH.r3_says (hg.t (le6.t (le175.t le203))) (m190.up le203) g206 hS) ?_)
 rintro _ w6 ⟨μ4,rfl,le207,hS⟩
 refine po ?_
 iterate 2 refine st ?_
 refine zWb 47 h ?_ ?_
 intro h208 h
 refine sn rfl rfl (sn rfl rfl (sn rfl rfl (sn rfl rfl (sn rfl rfl (st (wnil (xl ?_)))))))
 replace hS:=hS.drop Rm.z
 exact ⟨_,_,rfl,(aK10 (aK6 (aO20 (aO10 (aO7 (aI aZ)))))),_,true,rfl,h,(le203.t le207),hS⟩
 intro h208 h
 refine sy rfl (wy rfl (k40 d7) (s_load ti57 (et (k40 d8)) ((hS.blk d0).cell d7) (dt (q40 p9)) (sy rfl (sy rfl ?_))))
 obtain ⟨r209,g210,h⟩:=bI h
 refine wy rfl (k40 d7) (s_callv isfn24 ef (e1 (et (k40 d9)) (e1 (et (k50 d0)) (e1 (et (k50 d1)) e0))) (IH.r3_says (hg.t (le6.t (le175.t (le203.t le207)))) (m193.up (le203.t le207)) g210 hS) ?_)
 rintro _ w7 ⟨μ5,rfl,le211,hS⟩
 refine po (st (wnil (xl ?_)))
 replace hS:=hS.drop Rm.z
 exact ⟨_,_,rfl,(aK10 (aK6 (aO20 (aO10 (aO7 (aI aZ)))))),_,_,rfl,h,(le203.t (le207.t le211)),hS⟩
 intro h200 h
 refine sn rfl rfl (sn rfl rfl (sn rfl rfl (sn rfl rfl (sn rfl rfl (sy rfl ?_)))))
 iterate 2 refine st ?_
 refine sy rfl (wy rfl (k40 d0) (s_load ti57 (et (k40 d1)) ((hS.blk d0).cell d6) (dt (q40 p2)) (sy rfl (sy rfl ?_))))
 obtain ⟨r212,g213,h⟩:=bI h
 refine wy rfl (k40 d0) (s_callv isfn24 ef (e1 (et (k40 d2)) (e1 (et (k40 d3)) (e1 (et (k40 d4)) e0))) (IH.r3_says (hg.t (le6.t le175)) m190 g213 hS) ?_)
 rintro _ w8 ⟨μ6,rfl,le214,hS⟩
 refine po ?_
 iterate 2 refine st ?_
 refine zWb 47 h ?_ ?_
 intro h215 h
 refine sn rfl rfl (sn rfl rfl (sn rfl rfl (sn rfl rfl (sn rfl rfl (st (wnil (xl ?_)))))))
 replace hS:=hS.drop Rm.z
 exact ⟨_,_,rfl,(aK10 (aK6 (aO20 (aO10 (aO7 (aI aZ)))))),_,true,rfl,h,le214,hS⟩
 intro h215 h
 refine sy rfl (wy rfl (k40 d7) (s_load ti57 (et (k40 d8)) ((hS.blk d0).cell d7) (dt (q40 p9)) (sy rfl (sy rfl ?_))))
 obtain ⟨r216,g217,h⟩:=bI h
 refine wy rfl (k40 d7) (s_callv isfn24 ef (e1 (et (k40 d9)) (e1 (et (k50 d0)) (e1 (et (k50 d1)) e0))) (IH.r3_says (hg.t (le6.t (le175.t le214))) (m193.up le214) g217 hS) ?_)
 rintro _ w9 ⟨μ7,rfl,le218,hS⟩
 refine po (st (wnil (xl ?_)))
 replace hS:=hS.drop Rm.z
 exact ⟨_,_,rfl,(aK10 (aK6 (aO20 (aO10 (aO7 (aI aZ)))))),_,_,rfl,h,(le214.t le218),hS⟩
 intro h198 h
 refine sn rfl rfl (sn rfl rfl (sn rfl rfl (sn rfl rfl ?_)))
 iterate 2 refine st ?_
 refine sy rfl (sy rfl (sy rfl ?_))
 refine zWd 32 h ?_ ?_
 intro h219 h
 refine sy rfl (wy rfl (k30 d2) (s_loads ti119 (et (k30 d3)) ((hS.blk d0).cellsAt (Sb.s d2 (Sb.s d3 (Sb.s d4 (Sb.s d5 Sb.z))))) rfl (dt (q30 p4)) (sy rfl (sy rfl ?_))))
 obtain ⟨r220,g221,h⟩:=bI h
 refine wy rfl (k30 d2) (s_callv isfn46 ef (e1 (et (k30 d4)) (e1 (et (k30 d5)) (e1 (et (k30 d6)) e0))) ((R3K_sound fu).r3_speaks (hg.t (le6.t le175)) m187 g221 hS) ?_)
 rintro _ w10 ⟨μ8,rfl,le222,hS⟩
 refine po (sy rfl ?_)
 iterate 2 refine st ?_
 refine zWb 40 h ?_ ?_
 intro h223 h
 refine sn rfl rfl (sn rfl rfl (sn rfl rfl (sn rfl rfl (sn rfl rfl ?_))))
 iterate 2 refine st ?_
 refine sn rfl rfl (sn rfl rfl (sn rfl rfl (sn rfl rfl (sn rfl rfl (st (wnil (xl ?_)))))))
 replace hS:=hS.drop Rm.z
 exact ⟨_,_,rfl,(aK10 (aK6 (aO20 (aO10 (aO7 (aI aZ)))))),_,true,rfl,h,le222,hS⟩
 intro h223 h
 refine sy rfl (wy rfl (k40 d0) (s_load ti57 (et (k40 d1)) ((hS.blk d0).cell d6) (dt (q40 p2)) (sy rfl (sy rfl ?_))))
 obtain ⟨r224,g225,h⟩:=bI h
 refine wy rfl (k40 d0) (s_callv isfn24 ef (e1 (et (k40 d2)) (e1 (et (k40 d3)) (e1 (et (k40 d4)) e0))) (IH.r3_says (hg.t (le6.t (le175.t le222))) (m190.up le222) g225 hS) ?_)
 rintro _ w11 ⟨μ9,rfl,le226,hS⟩
 refine po ?_
 iterate 2 refine st ?_
 refine zWb 47 h ?_ ?_
 intro h227 h
 refine sn rfl rfl (sn rfl rfl (sn rfl rfl (sn rfl rfl (sn rfl rfl (st (wnil (xl ?_)))))))
 replace hS:=hS.drop Rm.z
 exact ⟨_,_,rfl,(aK10 (aK6 (aO20 (aO10 (aO7 (aI aZ)))))),_,true,rfl,h,(le222.t le226),hS⟩
 intro h227 h
 refine sy rfl (wy rfl (k40 d7) (s_load ti57 (et (k40 d8)) ((hS.blk d0).cell d7) (dt (q40 p9)) (sy rfl (sy rfl ?_))))
 obtain ⟨r228,g229,h⟩:=bI h
 refine wy rfl (k40 d7) (s_callv isfn24 ef (e1 (et (k40 d9)) (e1 (et (k50 d0)) (e1 (et (k50 d1)) e0))) (IH.r3_says (hg.t (le6.t (le175.t (le222.t le226)))) (m193.up (le222.t le226)) g229 hS) ?_)
 rintro _ w12 ⟨μ10,rfl,le230,hS⟩
 refine po (st (wnil (xl ?_)))
 replace hS:=hS.drop Rm.z
 exact ⟨_,_,rfl,(aK10 (aK6 (aO20 (aO10 (aO7 (aI aZ)))))),_,_,rfl,h,(le222.t (le226.t le230)),hS⟩
 intro h219 h
 refine sn rfl rfl (sn rfl rfl (sn rfl rfl (sn rfl rfl (sn rfl rfl (sy rfl ?_)))))
 iterate 2 refine st ?_
 refine sy rfl (wy rfl (k40 d0) (s_load ti57 (et (k40 d1)) ((hS.blk d0).cell d6) (dt (q40 p2)) (sy rfl (sy rfl ?_))))
 obtain ⟨r231,g232,h⟩:=bI h
 refine wy rfl (k40 d0) (s_callv isfn24 ef (e1 (et (k40 d2)) (e1 (et (k40 d3)) (e1 (et (k40 d4)) e0))) (IH.r3_says (hg.t (le6.t le175)) m190 g232 hS) ?_)
 rintro _ w13 ⟨μ11,rfl,le233,hS⟩
 refine po ?_
 iterate 2 refine st ?_
 refine zWb 47 h ?_ ?_
 intro h234 h
 refine sn rfl rfl (sn rfl rfl (sn rfl rfl (sn rfl rfl (sn rfl rfl (st (wnil (xl ?_)))))))
 replace hS:=hS.drop Rm.z
 exact ⟨_,_,rfl,(aK10 (aK6 (aO20 (aO10 (aO7 (aI aZ)))))),_,true,rfl,h,le233,hS⟩
 intro h234 h
 refine sy rfl (wy rfl (k40 d7) (s_load ti57 (et (k40 d8)) ((hS.blk d0).cell d7) (dt (q40 p9)) (sy rfl (sy rfl ?_))))
 obtain ⟨r235,g236,h⟩:=bI h
 refine wy rfl (k40 d7) (s_callv isfn24 ef (e1 (et (k40 d9)) (e1 (et (k50 d0)) (e1 (et (k50 d1)) e0))) (IH.r3_says (hg.t (le6.t (le175.t le233))) (m193.up le233) g236 hS) ?_)
 rintro _ w14 ⟨μ12,rfl,le237,hS⟩
 refine po (st (wnil (xl ?_)))
 replace hS:=hS.drop Rm.z
 exact ⟨_,_,rfl,(aK10 (aK6 (aO20 (aO10 (aO7 (aI aZ)))))),_,_,rfl,h,(le233.t le237),hS⟩
 intro h197 h
 refine sn rfl rfl (sn rfl rfl (sn rfl rfl ?_))
 iterate 2 refine st ?_
 refine sn rfl rfl (sn rfl rfl (sn rfl rfl (sn rfl rfl ?_)))
 iterate 2 refine st ?_
 refine sy rfl (sy rfl (sy rfl ?_))
 refine zWd 32 h ?_ ?_
 intro h238 h
 refine sy rfl (wy rfl (k30 d2) (s_loads ti119 (et (k30 d3)) ((hS.blk d0).cellsAt (Sb.s d2 (Sb.s d3 (Sb.s d4 (Sb.s d5 Sb.z))))) rfl (dt (q30 p4)) (sy rfl (sy rfl ?_))))
 obtain ⟨r239,g240,h⟩:=bI h
 refine wy rfl (k30 d2) (s_callv isfn46 ef (e1 (et (k30 d4)) (e1 (et (k30 d5)) (e1 (et (k30 d6)) e0))) ((R3K_sound fu).r3_speaks (hg.t (le6.t le175)) m187 g240 hS) ?_)
 rintro _ w15 ⟨μ13,rfl,le241,hS⟩
 refine po (sy rfl ?_)
 iterate 2 refine st ?_
 refine zWb 40 h ?_ ?_
 intro h242 h
 refine sn rfl rfl (sn rfl rfl (sn rfl rfl (sn rfl rfl (sn rfl rfl ?_))))
 iterate 2 refine st ?_
 refine sn rfl rfl (sn rfl rfl (sn rfl rfl (sn rfl rfl (sn rfl rfl (st (wnil (xl ?_)))))))
 replace hS:=hS.drop Rm.z
 exact ⟨_,_,rfl,(aK10 (aK6 (aO20 (aO10 (aO7 (aI aZ)))))),_,true,rfl,h,le241,hS⟩
 intro h242 h
 refine sy rfl (wy rfl (k40 d0) (s_load ti57 (et (k40 d1)) ((hS.blk d0).cell d6) (dt (q40 p2)) (sy rfl (sy rfl ?_))))
 obtain ⟨r243,g244,h⟩:=bI h
 refine wy rfl (k40 d0) (s_callv isfn24 ef (e1 (et (k40 d2)) (e1 (et (k40 d3)) (e1 (et (k40 d4)) e0))) (IH.r3_says (hg.t (le6.t (le175.t le241))) (m190.up le241) g244 hS) ?_)
 rintro _ w16 ⟨μ14,rfl,le245,hS⟩
 refine po ?_
 iterate 2 refine st ?_
 refine zWb 47 h ?_ ?_
 intro h246 h
 refine sn rfl rfl (sn rfl rfl (sn rfl rfl (sn rfl rfl (sn rfl rfl (st (wnil (xl ?_)))))))
 replace hS:=hS.drop Rm.z
 exact ⟨_,_,rfl,(aK10 (aK6 (aO20 (aO10 (aO7 (aI aZ)))))),_,true,rfl,h,(le241.t le245),hS⟩
 intro h246 h
 refine sy rfl (wy rfl (k40 d7) (s_load ti57 (et (k40 d8)) ((hS.blk d0).cell d7) (dt (q40 p9)) (sy rfl (sy rfl ?_))))
 obtain ⟨r247,g248,h⟩:=bI h
 refine wy rfl (k40 d7) (s_callv isfn24 ef (e1 (et (k40 d9)) (e1 (et (k50 d0)) (e1 (et (k50 d1)) e0))) (IH.r3_says (hg.t (le6.t (le175.t (le241.t le245)))) (m193.up (le241.t le245)) g248 hS) ?_)
 rintro _ w17 ⟨μ15,rfl,le249,hS⟩
 refine po (st (wnil (xl ?_)))
 replace hS:=hS.drop Rm.z
 exact ⟨_,_,rfl,(aK10 (aK6 (aO20 (aO10 (aO7 (aI aZ)))))),_,_,rfl,h,(le241.t (le245.t le249)),hS⟩
 intro h238 h
 refine sn rfl rfl (sn rfl rfl (sn rfl rfl (sn rfl rfl (sn rfl rfl (sy rfl ?_)))))
 iterate 2 refine st ?_
 refine sy rfl (wy rfl (k40 d0) (s_load ti57 (et (k40 d1)) ((hS.blk d0).cell d6) (dt (q40 p2)) (sy rfl (sy rfl ?_))))
 obtain ⟨r250,g251,h⟩:=bI h
 refine wy rfl (k40 d0) (s_callv isfn24 ef (e1 (et (k40 d2)) (e1 (et (k40 d3)) (e1 (et (k40 d4)) e0))) (IH.r3_says (hg.t (le6.t le175)) m190 g251 hS) ?_)
 rintro _ w18 ⟨μ16,rfl,le252,hS⟩
 refine po ?_
 iterate 2 refine st ?_
 refine zWb 47 h ?_ ?_
 intro h253 h
 refine sn rfl rfl (sn rfl rfl (sn rfl rfl (sn rfl rfl (sn rfl rfl (st (wnil (xl ?_)))))))
 replace hS:=hS.drop Rm.z
 exact ⟨_,_,rfl,(aK10 (aK6 (aO20 (aO10 (aO7 (aI aZ)))))),_,true,rfl,h,le252,hS⟩
 intro h253 h
 refine sy rfl (wy rfl (k40 d7) (s_load ti57 (et (k40 d8)) ((hS.blk d0).cell d7) (dt (q40 p9)) (sy rfl (sy rfl ?_))))
 obtain ⟨r254,g255,h⟩:=bI h
 refine wy rfl (k40 d7) (s_callv isfn24 ef (e1 (et (k40 d9)) (e1 (et (k50 d0)) (e1 (et (k50 d1)) e0))) (IH.r3_says (hg.t (le6.t (le175.t le252))) (m193.up le252) g255 hS) ?_)
 rintro _ w19 ⟨μ17,rfl,le256,hS⟩
 refine po (st (wnil (xl ?_)))
 replace hS:=hS.drop Rm.z
 exact ⟨_,_,rfl,(aK10 (aK6 (aO20 (aO10 (aO7 (aI aZ)))))),_,_,rfl,h,(le252.t le256),hS⟩
 rintro _ t w20 ⟨μ18,b196,rfl,h,le257,hS⟩
 unfold r3_says_j1 at h
 refine nrm (mK10 (mK6 (mO20 (mO10 (mO7 (mi mz)))))) (xn ?_)
 refine zCb h ?_ ?_
 intro h258 h
 refine nz (st (nw (cret ?_)))
 refine (fun h=>br (xr (xr (br (xr h))))) ?_
 obtain rfl:=oI h
 refine ret1 rfl d6 ?_
 exact ⟨_,rfl,(le6.t (le175.t le257)),hS⟩
 intro h258 h
 refine cskip ?_
 refine (fun h=>bn (xn h)) ?_
 refine creg ?_
 obtain ⟨i259,g260,h⟩:=bI h
 refine wl (su (u_addc (et (k10 d2)) ec g260) (dt (q50 p4)) (st (wnil (xl ?_))))
 exact ⟨n_1,_,_,rfl,(aK6 (aO1 (aK1 (aO1 (aK3 (aI (aO20 (aO20 (aO2 aZ))))))))),⟨_,i259,rfl,h,(le175.t le257),hS⟩,Nat.lt_succ_self _⟩
 intro h176 h
 refine cexit ?_
 refine (fun h=>xe (xe (bh h))) ?_
 refine xn (nz (st (nw (cret ?_))))
 obtain rfl:=oI h
 refine ret1 rfl d6 ?_
 exact ⟨_,rfl,(le6.t le175),hS⟩
theorem R3S_sound:∀ n,R3SSound (R3S_run n)
  | 0=>⟨(by intro; intros; rename_i h _; cases h)⟩
  | n+1=>⟨r3_says_w (R3S_sound n)⟩
theorem r3_reaches_w (hg:Le Gm μ0) {p_1:List TDef} {p_2:List UInt8} {r:List TDef} (m3:Sl μ0 a1 c2 p_1) (h:r3_reaches fu p_1 p_2=some r) (hS:Sq μ0 w0 w (rsF)):CallsV prog 23 [.slice a1 p_1.length c2,S p_2] w (fun v w'=>∃ (μ':M) (a4:Option Addr) (c5:Nat),v=.slice a4 r.length c5∧Le μ0 μ'∧Sq μ' w0 w' (rsF)∧Sl μ' a4 c5 r):=by
 unfold r3_reaches at h
 refine enter func23 rfl (frm:=_::_::u5 (u20 (u50 []))) rfl (nz (st (nx ?_)))
 iterate 2 refine st ?_
 obtain ⟨r7,g8,h⟩:=bI h
 refine ca (r3_find_w hg m3 g8 hS) ?_
 rintro _ w1 ⟨μ1,a10,c11,a13,c14,rfl,le9,hS,m12,m15⟩
 refine po ?_
 iterate 3 refine st ?_
 refine wl (s_alloc ti59 hS ?_); clear hS; intro b16 w2 hb17 hS; refine po ?_
 refine wl (s_storeA ti59 (et d5) (et (k10 d9)) rfl rfl hS d0 rfl p0 dn ?_)
 clear hS; intro w3 hS
 refine st (nx (lds (hS.blk d0).cells rfl ?_))
 refine wl (s_bsl1 underlying22 ti59 rfl (et (k20 d1)) rfl hS ?_); clear hS; intro b18 w4 hb19 hS; refine po ?_
 refine st (ny (nz (st (nw (cblock ?_)))))
 replace hS:=hS.blkRow (n:=1) (sz:=Mo.sz TDef) d0 rfl (by decide) p0
 have m20:Rw μ1 [.int .i64 r7.1.Kind,S r7.1.Name,.int .i64 r7.1.Typ.Kind,S r7.1.Typ.Gen,.int .i64 r7.1.Takes.Kind,S r7.1.Takes.Gen,.int .i64 r7.1.Cap,.slice a10 r7.1.Params.length c11,.slice a13 r7.1.Body.length c14] ([r7.1]:List TDef):=(Rw.one (α:=TDef) (⟨a10,c11,a13,c14,rfl,m12,m15⟩))
 replace hS:=hS.drop (Rm.s Rm.z)
 refine cloopE (rg 10 3++[14]++rg 23 53) (by decide +kernel) (fun n m w=>∃ μx i454 l457 v455 cs456,m=(yK7 (.i (v455)::(.i (.int .i64 i454)::(yK1 (yO3 10 (yK1 (yO1 14 (yK8 (yO50 23 (yO3 73 []))))))))))∧r3_reaches_l1 fu p_1 n i454 l457=some r∧Le μ1 μx∧Sq μx w0 w (.row v455 59 9 l457.length cs456::rsF)∧Rw μx cs456 l457) (by rintro _ _ _ ⟨_,_,_,_,_,rfl,_⟩; rfl) _ _ (aK7 (aI (aI (aK1 (aO3 (aK1 (aO1 (aK8 (aO50 (aO3 aZ)))))))))) ⟨_,0,([r7.1]:List TDef),(.slice (some ⟨b18,0,none⟩) 1 1),[.int .i64 r7.1.Kind,S r7.1.Name,.int .i64 r7.1.Typ.Kind,S r7.1.Typ.Gen,.int .i64 r7.1.Takes.Kind,S r7.1.Takes.Gen,.int .i64 r7.1.Cap,.slice a10 r7.1.Params.length c11,.slice a13 r7.1.Body.length c14],rfl,h,Le.r,hS,m20⟩ ?_
 rintro n_1 _ t w5 ⟨μ2,i454,l457,v455,cs456,rfl,h,le892,hS,m893⟩
 rcases n_1 with _|n_1
 cases h
 unfold r3_reaches_l1 at h
 refine cnrm (mK7 (mi (mi (mK1 (mO3 (mK1 (mO1 (mK8 (mO50 (mO3 mz)))))))))) (cseq (nz ?_))
 iterate 2 refine st ?_
 refine wl (su (u_lenv underlying22 (et (k20 d4)) (hS.get d0).isSl) (dt (q20 p5)) (st (nw ?_)))
 refine zCd h ?_ ?_
 intro h894 h
 refine cskip (xn (cseq (cblock (nz (st (wl (su (u_lensl underlying22 (et (k20 d9))) (dt (q30 p0)) (st (nw (cblock ?_))))))))))
 refine cloopE (rg 10 3++[14]++rg 32 44) (by decide +kernel) (fun n m w=>∃ μx i1037 l1040 v1038 cs1039,m=(yK7 (.i (v1038)::(yK2 (yO3 10 (yK1 (yO1 14 (yK10 (yK6 (.i (.int .i64 i1037)::(yO20 32 (yO20 52 (yO4 72 []))))))))))))∧r3_reaches_l2 fu p_1 i454 (r3_reaches_l1 fu p_1 n_1) n i1037 l1040=some r∧Le μ2 μx∧Sq μx w0 w (.row v1038 59 9 l1040.length cs1039::rsF)∧Rw μx cs1039 l1040) (by rintro _ _ _ ⟨_,_,_,_,_,rfl,_⟩; rfl) _ _ (aK7 (aI (aK2 (aO3 (aK1 (aO1 (aK10 (aK6 (aI (aO20 (aO20 (aO4 aZ)))))))))))) ⟨_,0,l457,v455,cs456,rfl,h,Le.r,hS,m893⟩ ?_
 rintro n_2 _ t w6 ⟨μ3,i1037,l1040,v1038,cs1039,rfl,h,le1184,hS,m1185⟩
 rcases n_2 with _|n_2
 cases h
 unfold r3_reaches_l2 at h
 refine cnrm (mK7 (mi (mK2 (mO3 (mK1 (mO1 (mK10 (mK6 (mi (mO20 (mO20 (mO4 mz)))))))))))) (nz (st (ny ?_)))
 refine zCd h ?_ ?_
 intro h1186 h
 refine cskip (xn (cseq (cblock (nz ?_))))
 obtain ⟨x1187,g1188,h⟩:=bI h
 obtain ⟨b1189,o1190,cs1191,e1192,f1193,m1194⟩:=SlR.elem (m3.up (le9.t (le892.t le1184))) g1188
 obtain ⟨a1195,c1196,a1198,c1199,rfl,m1197,m1200⟩:=m1194
 refine wl (su (u_iax underlying22 ti59 (et (k20 d9)) (et (k30 d1)) e1192) (dt (q30 p3)) (lds (f1193 _ hS.a) rfl ?_))
 refine wl (s_alloc ti59 hS ?_); clear hS; intro b1201 w7 hb1202 hS; refine po ?_
 refine wl (s_storeA ti59 (et (k10 d0)) (et (k30 d4)) rfl rfl hS d0 rfl p0 dn ?_)
 clear hS; intro w8 hS
 refine nx ?_
 refine wl (s_mkmap hS ?_); clear hS; intro b1203 w9 hb1204 hS; refine po ?_
 refine wl (s_minsM (κ:=Int) (β:=Int) (kk:=2) (xx:=19) underlying115 underlying3 (et (k30 d5)) ec ec rfl hS d0 (Mq.nil (κ:=Int) (β:=Int) (μ:=μ3) (c:=0)) dn ?_); clear hS; intro es1205 c1206 w10 rs_ m1207 hp_ hS; cases (show _=rs_ from hp_)
 replace hS:=Sep.reput hS p0
 refine wl (s_minsM (κ:=Int) (β:=Int) (kk:=3) (xx:=22) underlying115 underlying3 (et (k30 d5)) ec ec rfl hS d0 m1207 dn ?_); clear hS; intro es1208 c1209 w11 rs_ m1210 hp_ hS; cases (show _=rs_ from hp_)
 replace hS:=Sep.reput hS p0
 iterate 2 refine st ?_
 refine ld ((hS.blk d1).cell d0) ?_
 refine wl (s_mget1 (κ:=Int) (k:=x1187.Kind) (β:=Int) (zx:=0) underlying115 underlying3 (et (k30 d6)) (et (k30 d8)) zv3 rfl (hS.get d0) m1210 ?_); rintro _ rfl; refine po ?_
 refine st (ny (cseq ?_))
 refine ccutE (rg 40 13) (by decide) (fun m w=>∃ μx b1213,m=(yK20 (yK20 (yO10 40 (yO3 50 (.i (.bool b1213)::[])))))∧r3_reaches_j1 i1037 l1040 x1187 (r3_reaches_l2 fu p_1 i454 (r3_reaches_l1 fu p_1 n_1) n_2) b1213=some r∧Le μ3 μx∧Sq μx w0 w (.row v1038 59 9 l1040.length cs1039::.blk b1201 59 [.int .i64 x1187.Kind,S x1187.Name,.int .i64 x1187.Typ.Kind,S x1187.Typ.Gen,.int .i64 x1187.Takes.Kind,S x1187.Takes.Gen,.int .i64 x1187.Cap,.slice a1195 x1187.Params.length c1196,.slice a1198 x1187.Body.length c1199]::rsF)) (by rintro _ _ ⟨_,_,rfl,_⟩; rfl) ?_ ?_
 refine cdw hS ?_; clear hS; intro w12 hS
 refine sf_start (fpi 0 [0,1,2,3,4,5,6,7,8,9,10,11,12,13] rfl (fpi 1 [1,2,3,4,5,6,7,8,9,10,11,12,13] rfl (fpi 2 [2,3,4,5,6,7,8,9,10,11,12,13] rfl ?_)))
 refine zFd 42 h ?_ ?_
 intro h1214 h
 refine fpN 3 [3,5,6,7,11,12,13] rfl rfl (k40 d2) rfl (q40 p3) (fpN 4 [4,5,6,7,11,12,13] rfl rfl (k40 d2) rfl (q40 p4) (fpN 5 [5,6,7,11,12,13] rfl rfl (k40 d2) rfl (q40 p5) (fpN 6 [6,7,11,12,13] rfl rfl (k40 d2) rfl (q40 p6) (fpN 7 [7,11,12,13] rfl rfl (k40 d2) rfl (q40 p7) (fpN 8 [8,11,12,13] rfl rfl (k40 d2) rfl (q40 p8) (fpN 9 [9,10,11,12,13] rfl rfl (k40 d2) rfl (q40 p9) (fpN 10 [10,11,12,13] rfl rfl (k40 d2) rfl (q50 p0) (fpN 11 [11,12,13] rfl rfl (k40 d2) rfl (q50 p1) (fpN 12 [12,13] rfl rfl (k40 d2) rfl (q50 p2) (fpi 13 [13] rfl (sf_nil (xl ?_))))))))))))
 replace hS:=(hS.drop Rm.z).bg Y1
 exact ⟨_,_,rfl,(aK20 (aK20 (aO10 (aO3 (aI aZ))))),_,true,rfl,h,Le.r,hS⟩
 intro h1214 h
 refine fpY 3 [3,5,6,7,11,12,13] rfl rfl (k40 d2) (u_move (et d7)) (q40 p3) (fpY 4 [4,5,6,7,11,12,13] rfl rfl (k40 d2) (u_move (et d8)) (q40 p4) ?_)
 obtain ⟨x1215,g1216,h⟩:=bI h
 obtain ⟨b1217,o1218,pc1219,cs1220,sc1221,ec1222,e1223,f1224,m1225,pn1226,st1227,m1228⟩:=Row.elemS (α:=TDef) (hS.get d2) m1185 rfl g1216
 rw [ec1222] at hS
 obtain ⟨a1229,c1230,a1232,c1233,rfl,m1231,m1234⟩:=m1225
 refine fpY 5 [5,6,7,11,12,13] rfl rfl (k40 d2) (u_iax underlying22 ti59 (et (k40 d3)) (et (k40 d4)) e1223) (q40 p5) (fpY 6 [6,7,11,12,13] rfl rfl (k40 d2) (u_fa fa59_6 (et (k40 d5)) rfl) (q40 p6) (fr_Y 7 [7,11,12,13] rfl rfl (k40 d2) (u_load ti57 (et (k40 d6)) ((f1224 _ _ _ (hS.get d2) rfl).one d8)) (q40 p7) (fpY 8 [8,11,12,13] rfl rfl (k40 d2) (u_move (et (k10 d1))) (q40 p8) (fpY 9 [9,10,11,12,13] rfl rfl (k40 d2) (u_fa fa59_1 (et (k10 d0)) rfl) (q40 p9) (fr_Y 10 [10,11,12,13] rfl rfl (k40 d2) (u_load ti9 (et (k40 d9)) ((hS.blk d1).cell d1)) (q50 p0) ?_)))))
 obtain ⟨r1235,g1236,h⟩:=bI h
 refine sf1 rfl rfl rfl rfl (wanted_t rfl rfl (k40 d2)) (s_callv isfn24 ef (e1 (et (k40 d7)) (e1 (et (k40 d8)) (e1 (et (k50 d0)) e0))) ((R3S_sound fu).r3_says (hg.t (le9.t (le892.t le1184))) m1234 g1236 hS) ?_)
 rintro _ w13 ⟨μ4,rfl,le1237,hS⟩
 refine po ?_
 refine ⟨Mons.z,?_⟩
 refine fpY 12 [12,13] rfl rfl (k40 d2) (u_not (et (k50 d1))) (q50 p2) (fpi 13 [13] rfl (sf_nil (xl ?_)))
 rw [← ec1222] at hS
 replace hS:=(hS.drop Rm.z).bg Y1
 exact ⟨_,_,rfl,(aK20 (aK20 (aO10 (aO3 (aI aZ))))),_,(!r1235),rfl,h,le1237,hS⟩
 rintro _ t w14 ⟨μ5,b1213,rfl,h,le1238,hS⟩
 unfold r3_reaches_j1 at h
 refine nrm (mK20 (mK20 (mO10 (mO3 (mi mz))))) (xn ?_)
 refine zCb h ?_ ?_
 intro h1239 h
 refine cexit ?_
 refine (fun h=>xe (bh h)) ?_
 refine xn (creg ?_)
 obtain ⟨i1240,g1241,h⟩:=bI h
 refine wl (su (u_addc (et (k30 d1)) ec g1241) (dt (q70 p5)) (st (wnil (xl ?_))))
 replace hS:=hS.drop (Rm.s Rm.z)
 exact ⟨n_2,_,_,rfl,(aK7 (aI (aK2 (aO3 (aK1 (aO1 (aK10 (aK6 (aI (aO20 (aO20 (aO4 aZ)))))))))))),⟨_,i1240,l1040,v1038,cs1039,rfl,h,(le1184.t le1238),hS,(m1185.up le1238)⟩,Nat.lt_succ_self _⟩
 intro h1239 h
 refine cskip (xn (nz (st (ny (nz (st (wl (su (u_lenv underlying22 (et (k50 d4)) (hS.get d0).isSl) (dt (q50 p5)) (st (nw (cblock ?_)))))))))))
 refine cloopE ([14]++rg 57 12) (by decide) (fun n m w=>∃ μx b1266 i1267,m=(yK10 (yK2 (.i (.bool b1266)::(yK1 (yO1 14 (yK20 (yK20 (yK1 (.i (.int .i64 i1267)::(yO10 57 (yO2 67 [])))))))))))∧r3_reaches_l3 i1037 l1040 x1187 (r3_reaches_l2 fu p_1 i454 (r3_reaches_l1 fu p_1 n_1) n_2) n b1266 i1267=some r∧Le μ5 μx∧Sq μx w0 w (.row v1038 59 9 l1040.length cs1039::.blk b1201 59 [.int .i64 x1187.Kind,S x1187.Name,.int .i64 x1187.Typ.Kind,S x1187.Typ.Gen,.int .i64 x1187.Takes.Kind,S x1187.Takes.Gen,.int .i64 x1187.Cap,.slice a1195 x1187.Params.length c1196,.slice a1198 x1187.Body.length c1199]::rsF)) (by rintro _ _ _ ⟨_,_,_,rfl,_⟩; rfl) _ _ (aK10 (aK2 (aI (aK1 (aO1 (aK20 (aK20 (aK1 (aI (aO10 (aO2 aZ))))))))))) ⟨_,false,0,rfl,h,Le.r,hS⟩ ?_
 rintro n_3 _ t w15 ⟨μ6,b1266,i1267,rfl,h,le1294,hS⟩
 rcases n_3 with _|n_3
 cases h
 unfold r3_reaches_l3 at h
 refine cnrm (mK10 (mK2 (mi (mK1 (mO1 (mK20 (mK20 (mK1 (mi (mO10 (mO2 mz))))))))))) (nz (st (ny ?_)))
 refine zCd h ?_ ?_
 intro h1295 h
 refine cskip (xn (cseq (cblock (nz ?_))))
 obtain ⟨x1296,g1297,h⟩:=bI h
 obtain ⟨b1298,o1299,pc1300,cs1301,sc1302,ec1303,e1304,f1305,m1306,pn1307,st1308,m1309⟩:=Row.elemS (α:=TDef) (hS.get d0) (m1185.up (le1238.t le1294)) rfl g1297
 rw [ec1303] at hS
 obtain ⟨a1310,c1311,a1313,c1314,rfl,m1312,m1315⟩:=m1306
 refine wl (su (u_iax underlying22 ti59 (et (k50 d4)) (et (k50 d6)) e1304) (dt (q50 p8)) (lds (f1305 _ _ _ (hS.get d0) rfl) rfl ?_))
 refine wl (s_alloc ti59 hS ?_); clear hS; intro b1316 w16 hb1317 hS; refine po ?_
 refine wl (s_storeA ti59 (et (k10 d4)) (et (k50 d9)) rfl rfl hS d0 rfl p0 dn ?_)
 clear hS; intro w17 hS
 refine nw (creg ?_)
 iterate 2 refine st ?_
 refine zWb 61 h ?_ ?_
 intro h1318 h
 refine sn rfl rfl (sn rfl rfl (sn rfl rfl (sn rfl rfl (sn rfl rfl ?_))))
 iterate 2 refine st ?_
 refine wnil ?_
 refine (fun h=>bn (xn h)) ?_
 refine creg ?_
 obtain ⟨i1319,g1320,h⟩:=bI h
 refine wl (su (u_addc (et (k50 d6)) ec g1320) (dt (q60 p8)) (st (wnil (xl ?_))))
 rw [← ec1303] at hS
 replace hS:=hS.drop Rm.z
 exact ⟨n_3,_,_,rfl,(aK10 (aK2 (aI (aK1 (aO1 (aK20 (aK20 (aK1 (aI (aO10 (aO2 aZ))))))))))),⟨_,true,i1319,rfl,h,le1294,hS⟩,Nat.lt_succ_self _⟩
 intro h1318 h
 refine sy rfl (wy rfl (k60 d1) (s_load ti9 (et (k60 d2)) ((hS.blk d0).cell d1) (dt (q60 p3)) (sy rfl (wy rfl (k60 d1) (s_load ti9 (et (k60 d4)) ((hS.blk d2).cell d1) (dt (q60 p5)) (wy rfl (k60 d1) (su (u_eqs (et (k60 d3)) (et (k60 d5))) (dt (q60 p6)) ?_)))))))
 iterate 2 refine st ?_
 refine wnil ?_
 refine (fun h=>bn (xn h)) ?_
 refine creg ?_
 obtain ⟨i1321,g1322,h⟩:=bI h
 refine wl (su (u_addc (et (k50 d6)) ec g1322) (dt (q60 p8)) (st (wnil (xl ?_))))
 rw [← ec1303] at hS
 replace hS:=hS.drop Rm.z
 exact ⟨n_3,_,_,rfl,(aK10 (aK2 (aI (aK1 (aO1 (aK20 (aK20 (aK1 (aI (aO10 (aO2 aZ))))))))))),⟨_,(decide (x1296.Name=x1187.Name)),i1321,rfl,h,le1294,hS⟩,Nat.lt_succ_self _⟩
 intro h1295 h
 refine cexit ?_
 refine (fun h=>xe (xe (bh h))) ?_
 refine xn (nz ?_)
 iterate 2 refine st ?_
 refine nw ?_
 refine zCe h ?_ ?_
 intro h1323 h
 refine creg (st (lds (hS.blk d1).cells rfl ?_))
 refine wl (s_bsl1 underlying22 ti59 rfl (et (k70 d2)) rfl hS ?_); clear hS; intro b1324 w18 hb1325 hS; refine po ?_
 obtain ⟨l1328,g1329,h⟩:=bI h
 have m1330:Rw μ6 [.int .i64 x1187.Kind,S x1187.Name,.int .i64 x1187.Typ.Kind,S x1187.Typ.Gen,.int .i64 x1187.Takes.Kind,S x1187.Takes.Gen,.int .i64 x1187.Cap,.slice a1195 x1187.Params.length c1196,.slice a1198 x1187.Body.length c1199] [x1187]:=(Rw.one (α:=TDef) (⟨a1195,c1196,a1198,c1199,rfl,(m1197.up (le1238.t le1294)),(m1200.up (le1238.t le1294))⟩))
 have m1327:=Rw.app (m1185.up (le1238.t le1294)) m1330 g1329
 refine wl (s_app1 underlying22 ti59 rfl (et (k70 d1)) (et (k70 d3)) hS d1 (hS.blk d0).cells m1330 rfl g1329 (by decide) ?_); clear hS; intro v1326 w19 rs_ hp_ hS; cases (show _=rs_ from hp_)
 replace hS:=Sep.reput hS p1; refine po ?_
 replace hS:=hS.drop Rm.z
 refine st (wnil ?_)
 refine (fun h=>bn (xn h)) ?_
 refine creg ?_
 obtain ⟨i1331,g1332,h⟩:=bI h
 refine wl (su (u_addc (et (k30 d1)) ec g1332) (dt (q70 p5)) (st (wnil (xl ?_))))
 replace hS:=hS.drop (Rm.s Rm.z)
 exact ⟨n_2,_,_,rfl,(aK7 (aI (aK2 (aO3 (aK1 (aO1 (aK10 (aK6 (aI (aO20 (aO20 (aO4 aZ)))))))))))),⟨_,i1331,l1328,v1326,(cs1039++[.int .i64 x1187.Kind,S x1187.Name,.int .i64 x1187.Typ.Kind,S x1187.Typ.Gen,.int .i64 x1187.Takes.Kind,S x1187.Takes.Gen,.int .i64 x1187.Cap,.slice a1195 x1187.Params.length c1196,.slice a1198 x1187.Body.length c1199]),rfl,h,(le1184.t (le1238.t le1294)),hS,m1327⟩,Nat.lt_succ_self _⟩
 intro h1323 h
 refine cskip ?_
 refine (fun h=>bn (xn h)) ?_
 refine creg ?_
 obtain ⟨i1333,g1334,h⟩:=bI h
 refine wl (su (u_addc (et (k30 d1)) ec g1334) (dt (q70 p5)) (st (wnil (xl ?_))))
 replace hS:=hS.drop (Rm.s Rm.z)
 exact ⟨n_2,_,_,rfl,(aK7 (aI (aK2 (aO3 (aK1 (aO1 (aK10 (aK6 (aI (aO20 (aO20 (aO4 aZ)))))))))))),⟨_,i1333,l1040,v1038,cs1039,rfl,h,(le1184.t (le1238.t le1294)),hS,(m1185.up (le1238.t le1294))⟩,Nat.lt_succ_self _⟩
 intro h1186 h
 refine cexit ?_
 refine (fun h=>xe (xe (bh h))) ?_
 refine (fun h=>bn (xn h)) ?_
 refine creg (st ?_)
 obtain ⟨i1335,g1336,h⟩:=bI h
 refine wl (su (u_addc (et (k20 d7)) ec g1336) (dt (q20 p8)) (st (wnil (xl ?_))))
 exact ⟨n_1,_,_,rfl,(aK7 (aI (aI (aK1 (aO3 (aK1 (aO1 (aK8 (aO50 (aO3 aZ)))))))))),⟨_,i1335,l1040,v1038,cs1039,rfl,h,(le892.t le1184),hS,m1185⟩,Nat.lt_succ_self _⟩
 intro h894 h
 refine cexit ?_
 refine (fun h=>xe (xe (bh h))) ?_
 refine xn (nz ?_)
 iterate 2 refine st ?_
 refine nw (cret ?_)
 obtain ⟨μ7,a1337,c1338,e1341,le1340,m1339,hq_⟩:=Sep.frzRow hS m893 rfl; clear hS
 subst e1341; have hS:=hq_; clear hq_
 obtain rfl:=oI h
 refine ret1 rfl d4 ?_
 exact ⟨_,_,_,rfl,(le9.t (le892.t le1340)),hS,m1339⟩
theorem r3_owners_w (hg:Le Gm μ0) {p_1:List TDef} {r:List TOwner×TFault} (m3:Sl μ0 a1 c2 p_1) (h:r3_owners fu p_1=some r) (hS:Sq μ0 w0 w (rsF)):CallsV prog 7 [.slice a1 p_1.length c2] w (fun v w'=>∃ (μ':M) (a4:Option Addr) (c5:Nat),v=.tuple ⟨[.slice a4 r.1.length c5,.agg ⟨[.int .i64 r.2.Err,.int .i64 r.2.At]⟩]⟩∧Le μ0 μ'∧Sq μ' w0 w' (rsF)∧Sl μ' a4 c5 r.1):=by
 unfold r3_owners at h
 refine enter func7 rfl (frm:=_::u1 (u5 (u20 (u50 (u50 (u50 [])))))) rfl (nz (st ?_))
 refine wl (s_alloc ti26 hS ?_); clear hS; intro b7 w1 hb8 hS; refine po ?_
 refine ny (nz (st ?_))
 obtain ⟨r9,g10,h⟩:=bI h
 refine ca (r2_wrong_w hg m3 g10 hS) ?_
 rintro _ w2 ⟨μ1,rfl,le11,hS⟩
 refine po ?_
 refine wl (s_alloc ti26 hS ?_); clear hS; intro b12 w3 hb13 hS; refine po ?_
 refine wl (s_storeA ti26 (et d4) (et (k20 d1)) rfl rfl hS d0 rfl p0 dn ?_)
 clear hS; intro w4 hS
 refine nx (st (ld ((hS.blk d0).cell d0) (st (nw ?_))))
 refine zCd h ?_ ?_
 intro h14 h
 refine cseq ?_
 refine cdw hS ?_; clear hS; intro w5 hS
 refine sf_start (fr_ 0 [0,2] rfl (u_loads ti26 (et d4) (hS.blk d0).cells rfl) (q20 p5) (fpi 1 [1,2] rfl (sf1 rfl rfl rfl rfl (wn0 rfl) (s_storeA ti26 (et d3) (et (k20 d5)) rfl rfl hS d1 rfl p1 dn ?_))))
 clear hS; intro w6 hS
 refine ⟨Mons.z,?_⟩
 refine sf_nil (xn (cret (xr ?_)))
 obtain rfl:=oI h
 refine retN rfl (RVs.s (.t d2) (RVs.s (.a d3 ti26 (hS.blk d1).cells rfl) RVs.z)) ?_
 replace hS:=(hS.drop Rm.z).drop Rm.z
 exact ⟨_,none,0,rfl,le11,hS,Sl.nil⟩
 intro h14 h
 refine cskip (xn (nz (st (ny (nz (st (wl (su (u_lensl underlying22 (et (k20 d6))) (dt (q20 p7)) (st (nw (cblock ?_)))))))))))
 replace hS:=hS.drop Rm.z
 refine cloopE ([2]++rg 6 2++rg 29 29) (by decide +kernel) (fun n m w=>∃ μx i125 i126,m=(yK2 (yO1 2 (yK2 (.i (.int .i64 i125)::(yO2 6 (yK20 (.i (.int .i64 i126)::(yO20 29 (yO9 49 [])))))))))∧r3_owners_l1 fu p_1 n i125 i126=some r∧Le μ1 μx∧Sq μx w0 w (.blk b7 26 [.int .i64 0,.int .i64 0]::rsF)) (by rintro _ _ _ ⟨_,_,_,rfl,_⟩; rfl) _ _ (aK2 (aO1 (aK2 (aI (aO2 (aK20 (aI (aO20 (aO9 aZ))))))))) ⟨_,0,0,rfl,h,Le.r,hS⟩ ?_
 rintro n_1 _ t w7 ⟨μ2,i125,i126,rfl,h,le237,hS⟩
 rcases n_1 with _|n_1
 cases h
 unfold r3_owners_l1 at h
 refine cnrm (mK2 (mO1 (mK2 (mi (mO2 (mK20 (mi (mO20 (mO9 mz))))))))) (nz (st (ny ?_)))
 refine zCd h ?_ ?_
 intro h238 h
 refine cskip (xn (cseq (cblock (nz ?_))))
 iterate 2 refine st ?_
 refine ny (nz (st (nw (cblock ?_))))
 refine cloopE ([2]++rg 31 18) (by decide) (fun n m w=>∃ μx i269,m=(yK2 (yO1 2 (yK4 (.i (.int .i64 i269)::(yK20 (yK3 (yO10 31 (yO8 41 []))))))))∧r3_owners_l2 p_1 i125 i126 (r3_owners_l1 fu p_1 n_1) n i269=some r∧Le μ2 μx∧Sq μx w0 w (.blk b7 26 [.int .i64 0,.int .i64 0]::rsF)) (by rintro _ _ _ ⟨_,_,rfl,_⟩; rfl) _ _ (aK2 (aO1 (aK4 (aI (aK20 (aK3 (aO10 (aO8 aZ)))))))) ⟨_,0,rfl,h,Le.r,hS⟩ ?_
 rintro n_2 _ t w8 ⟨μ3,i269,rfl,h,le300,hS⟩
 rcases n_2 with _|n_2
 cases h
 unfold r3_owners_l2 at h
 refine cnrm (mK2 (mO1 (mK4 (mi (mK20 (mK3 (mO10 (mO8 mz)))))))) (cseq (nz ?_))
 iterate 3 refine st ?_
 refine nw ?_
 refine zCd h ?_ ?_
 intro h301 h
 refine cskip (xn (cseq (cblock (cseq ?_))))
 refine cdw hS ?_; clear hS; intro w9 hS
 refine sf_start (fpi 0 [0,2,3,4,10] rfl (fpi 1 [1,2,3,4,10] rfl ?_))
 obtain ⟨x302,g303,h⟩:=bI h
 obtain ⟨b304,o305,cs306,e307,f308,m309⟩:=SlR.elem (m3.up (le11.t (le237.t le300))) g303
 obtain ⟨a310,c311,a313,c314,rfl,m312,m315⟩:=m309
 refine fp 2 [2,3,4,10] rfl (u_iax underlying22 ti59 (et (k30 d6)) (et (k30 d7)) e307) (q30 p8) (fpi 3 [3,4,10] rfl (fr_ 4 [4,10] rfl (u_load ti9 (et (k30 d9)) ((f308 _ hS.a).one d1)) (q40 p0) (fpi 5 [5,7,8,9,10] rfl (fpi 6 [6,7,8,9,10] rfl ?_))))
 obtain ⟨x316,g317,h⟩:=bI h
 obtain ⟨b318,o319,cs320,e321,f322,m323⟩:=SlR.elem (m3.up (le11.t (le237.t le300))) g317
 obtain ⟨a324,c325,a327,c328,rfl,m326,m329⟩:=m323
 refine fp 7 [7,8,9,10] rfl (u_iax underlying22 ti59 (et (k40 d1)) (et (k40 d2)) e321) (q40 p3) (fpi 8 [8,9,10] rfl (fr_ 9 [9,10] rfl (u_load ti9 (et (k40 d4)) ((f322 _ hS.a).one d1)) (q40 p5) (fp 10 [10] rfl (u_eqs (et (k40 d0)) (et (k40 d5))) (q40 p6) (sf_nil (xn ?_)))))
 refine zCd h ?_ ?_
 intro h330 h
 refine nz (st (wl (s_build ti26 pl26 (Fl.o rfl ec rfl rfl p0 (Fl.o rfl (et (k40 d7)) rfl rfl p1 Fl.z)) (dt (q40 p8)) (st (wl (s_storeA ti26 (et d3) (et (k40 d8)) rfl rfl hS d0 rfl p0 dn ?_))))))
 clear hS; intro w10 hS
 refine nw (cret ((fun h=>br (xr (xr (br (xr (br (xr (xr (br (xr h)))))))))) ?_))
 obtain rfl:=oI h
 refine retN rfl (RVs.s (.t d2) (RVs.s (.a d3 ti26 (hS.blk d0).cells rfl) RVs.z)) ?_
 replace hS:=hS.drop Rm.z
 exact ⟨_,none,0,rfl,(le11.t (le237.t le300)),hS,Sl.nil⟩
 intro h330 h
 refine cskip ?_
 refine (fun h=>bn (xn h)) ?_
 refine creg (st ?_)
 obtain ⟨i331,g332,h⟩:=bI h
 refine wl (su (u_addc (et (k30 d4)) ec g332) (dt (q30 p5)) (st (wnil (xl ?_))))
 exact ⟨n_2,_,_,rfl,(aK2 (aO1 (aK4 (aI (aK20 (aK3 (aO10 (aO8 aZ)))))))),⟨_,i331,rfl,h,le300,hS⟩,Nat.lt_succ_self _⟩
 intro h301 h
 refine cexit ?_
 refine (fun h=>xe (xe (bh h))) ?_
 refine xn (nz ?_)
 iterate 2 refine st ?_
 obtain ⟨x333,g334,h⟩:=bI h
 obtain ⟨b335,o336,cs337,e338,f339,m340⟩:=SlR.elem (m3.up (le11.t (le237.t le300))) g334
 obtain ⟨a341,c342,a344,c345,rfl,m343,m346⟩:=m340
 refine wl (su (u_iax underlying22 ti59 (et (k40 d9)) (et (k50 d0)) e338) (dt (q50 p1)) (st (ld ((f339 _ hS.a).one d0) (st (nw ?_)))))
 refine zCd h ?_ ?_
 intro h347 h
 refine creg (st ?_)
 obtain ⟨i348,g349,h⟩:=bI h
 refine wl (su (u_addc (et (k50 d5)) ec g349) (dt (q50 p6)) (st (wnil ?_)))
 refine (fun h=>bn (xn h)) ?_
 refine creg ?_
 obtain ⟨i350,g351,h⟩:=bI h
 refine wl (su (u_addc (et (k20 d8)) ec g351) (dt (q50 p7)) (st (wnil (xl ?_))))
 exact ⟨n_1,_,_,rfl,(aK2 (aO1 (aK2 (aI (aO2 (aK20 (aI (aO20 (aO9 aZ))))))))),⟨_,i348,i350,rfl,h,(le237.t le300),hS⟩,Nat.lt_succ_self _⟩
 intro h347 h
 refine cskip ?_
 refine (fun h=>bn (xn h)) ?_
 refine creg ?_
 obtain ⟨i352,g353,h⟩:=bI h
 refine wl (su (u_addc (et (k20 d8)) ec g353) (dt (q50 p7)) (st (wnil (xl ?_))))
 exact ⟨n_1,_,_,rfl,(aK2 (aO1 (aK2 (aI (aO2 (aK20 (aI (aO20 (aO9 aZ))))))))),⟨_,i125,i352,rfl,h,(le237.t le300),hS⟩,Nat.lt_succ_self _⟩
 intro h238 h
 refine cexit ?_
 refine (fun h=>xe (xe (bh h))) ?_
 refine xn (cseq (nz ?_))
 iterate 2 refine st ?_
 refine nw ?_
 refine zCd h ?_ ?_
 intro h354 h
 refine nz (st (wl (su (u_lensl underlying22 (et (k60 d0))) (dt (q60 p1)) (wl (s_build ti26 pl26 (Fl.o rfl ec rfl rfl p0 (Fl.o rfl (et (k60 d1)) rfl rfl p1 Fl.z)) (dt (q60 p2)) (st (wl (s_storeA ti26 (et d3) (et (k60 d2)) rfl rfl hS d0 rfl p0 dn ?_))))))))
 clear hS; intro w11 hS
 refine nw (cret (xr ?_))
 obtain rfl:=oI h
 refine retN rfl (RVs.s (.t d2) (RVs.s (.a d3 ti26 (hS.blk d0).cells rfl) RVs.z)) ?_
 replace hS:=hS.drop Rm.z
 exact ⟨_,none,0,rfl,(le11.t le237),hS,Sl.nil⟩
 intro h354 h
 refine cskip (xn (cseq (nz (st (wl (su (u_lensl underlying22 (et (k60 d3))) (dt (q60 p4)) (st (nw (cblock ?_)))))))))
 refine cloopE ([2]++rg 8 2++rg 66 14) (by decide) (fun n m w=>∃ μx i374,m=(yK2 (yO1 2 (yK5 (yO2 8 (yK50 (yK5 (.i (.int .i64 i374)::(yO10 66 (yO4 76 [])))))))))∧r3_owners_l3 fu p_1 n i374=some r∧Le μ2 μx∧Sq μx w0 w (.blk b7 26 [.int .i64 0,.int .i64 0]::rsF)) (by rintro _ _ _ ⟨_,_,rfl,_⟩; rfl) _ _ (aK2 (aO1 (aK5 (aO2 (aK50 (aK5 (aI (aO10 (aO4 aZ))))))))) ⟨_,0,rfl,h,Le.r,hS⟩ ?_
 rintro n_3 _ t w12 ⟨μ4,i374,rfl,h,le394,hS⟩
 rcases n_3 with _|n_3
 cases h
 unfold r3_owners_l3 at h
 refine cnrm (mK2 (mO1 (mK5 (mO2 (mK50 (mK5 (mi (mO10 (mO4 mz))))))))) (nz (st (ny ?_)))
 refine zCd h ?_ ?_
 intro h395 h
 refine cskip (xn (cseq (cblock (nz ?_))))
 iterate 2 refine st ?_
 refine nx ?_
 iterate 3 refine st ?_
 obtain ⟨x396,g397,h⟩:=bI h
 obtain ⟨b398,o399,cs400,e401,f402,m403⟩:=SlR.elem (m3.up (le11.t (le237.t le394))) g397
 obtain ⟨a404,c405,a407,c408,rfl,m406,m409⟩:=m403
 refine wl (su (u_iax underlying22 ti59 (et (k60 d9)) (et (k70 d0)) e401) (dt (q70 p1)) (lds (f402 _ hS.a) rfl ?_))
 obtain ⟨r410,g411,h⟩:=bI h
 refine ca (r3_head_w (hg.t (le11.t (le237.t le394))) (m3.up (le11.t (le237.t le394))) m406 m409 g411 hS) ?_
 rintro _ w13 ⟨μ5,rfl,le412,hS⟩
 refine po (st (nx ?_))
 iterate 2 refine st ?_
 refine nw ?_
 refine zCd h ?_ ?_
 intro h413 h
 refine nz ?_
 iterate 2 refine st ?_
 refine wl (s_build ti26 pl26 (Fl.o rfl (et (k70 d6)) rfl rfl p0 (Fl.o rfl (et (k70 d7)) rfl rfl p1 Fl.z)) (dt (q70 p8)) (st (wl (s_storeA ti26 (et d3) (et (k70 d8)) rfl rfl hS d0 rfl p0 dn ?_))))
 clear hS; intro w14 hS
 refine nw (cret ?_)
 refine (fun h=>br (xr (xr (br (xr h))))) ?_
 obtain rfl:=oI h
 refine retN rfl (RVs.s (.t d2) (RVs.s (.a d3 ti26 (hS.blk d0).cells rfl) RVs.z)) ?_
 replace hS:=hS.drop Rm.z
 exact ⟨_,none,0,rfl,(le11.t (le237.t (le394.t le412))),hS,Sl.nil⟩
 intro h413 h
 refine cskip ?_
 refine (fun h=>bn (xn h)) ?_
 refine creg ?_
 obtain ⟨i414,g415,h⟩:=bI h
 refine wl (su (u_addc (et (k60 d5)) ec g415) (dt (q70 p9)) (st (wnil (xl ?_))))
 exact ⟨n_3,_,_,rfl,(aK2 (aO1 (aK5 (aO2 (aK50 (aK5 (aI (aO10 (aO4 aZ))))))))),⟨_,i414,rfl,h,(le394.t le412),hS⟩,Nat.lt_succ_self _⟩
 intro h395 h
 refine cexit ?_
 refine (fun h=>xe (xe (bh h))) ?_
 refine xn (cseq (nz (st (wl (su (u_lensl underlying22 (et (k80 d0))) (dt (q80 p1)) (st (nw (cblock ?_))))))))
 refine cloopE ([2]++rg 10 2++rg 83 14) (by decide) (fun n m w=>∃ μx i435,m=(yK2 (yO1 2 (yK7 (yO2 10 (yK50 (yK20 (.i (.int .i64 i435)::(yO10 83 (yO4 93 [])))))))))∧r3_owners_l4 fu p_1 n i435=some r∧Le μ4 μx∧Sq μx w0 w (.blk b7 26 [.int .i64 0,.int .i64 0]::rsF)) (by rintro _ _ _ ⟨_,_,rfl,_⟩; rfl) _ _ (aK2 (aO1 (aK7 (aO2 (aK50 (aK20 (aI (aO10 (aO4 aZ))))))))) ⟨_,0,rfl,h,Le.r,hS⟩ ?_
 rintro n_4 _ t w15 ⟨μ6,i435,rfl,h,le455,hS⟩
 rcases n_4 with _|n_4
 cases h
 unfold r3_owners_l4 at h
 refine cnrm (mK2 (mO1 (mK7 (mO2 (mK50 (mK20 (mi (mO10 (mO4 mz))))))))) (nz (st (ny ?_)))
 refine zCd h ?_ ?_
 intro h456 h
 refine cskip (xn (cseq (cblock (nz ?_))))
 iterate 2 refine st ?_
 refine nx ?_
 iterate 3 refine st ?_
 obtain ⟨x457,g458,h⟩:=bI h
 obtain ⟨b459,o460,cs461,e462,f463,m464⟩:=SlR.elem (m3.up (le11.t (le237.t (le394.t le455)))) g458
 obtain ⟨a465,c466,a468,c469,rfl,m467,m470⟩:=m464
 refine wl (su (u_iax underlying22 ti59 (et (k80 d6)) (et (k80 d7)) e462) (dt (q80 p8)) (lds (f463 _ hS.a) rfl ?_))
 obtain ⟨r471,g472,h⟩:=bI h
 refine ca (r3_body_w (hg.t (le11.t (le237.t (le394.t le455)))) (m3.up (le11.t (le237.t (le394.t le455)))) m467 m470 g472 hS) ?_
 rintro _ w16 ⟨μ7,rfl,le473,hS⟩
 refine po (st (nx ?_))
 iterate 2 refine st ?_
 refine nw ?_
 refine zCd h ?_ ?_
 intro h474 h
 refine nz ?_
 iterate 2 refine st ?_
 refine wl (s_build ti26 pl26 (Fl.o rfl (et (k90 d3)) rfl rfl p0 (Fl.o rfl (et (k90 d4)) rfl rfl p1 Fl.z)) (dt (q90 p5)) (st (wl (s_storeA ti26 (et d3) (et (k90 d5)) rfl rfl hS d0 rfl p0 dn ?_))))
 clear hS; intro w17 hS
 refine nw (cret ?_)
 refine (fun h=>br (xr (xr (br (xr h))))) ?_
 obtain rfl:=oI h
 refine retN rfl (RVs.s (.t d2) (RVs.s (.a d3 ti26 (hS.blk d0).cells rfl) RVs.z)) ?_
 replace hS:=hS.drop Rm.z
 exact ⟨_,none,0,rfl,(le11.t (le237.t (le394.t (le455.t le473)))),hS,Sl.nil⟩
 intro h474 h
 refine cskip ?_
 refine (fun h=>bn (xn h)) ?_
 refine creg ?_
 obtain ⟨i475,g476,h⟩:=bI h
 refine wl (su (u_addc (et (k80 d2)) ec g476) (dt (q90 p6)) (st (wnil (xl ?_))))
 exact ⟨n_4,_,_,rfl,(aK2 (aO1 (aK7 (aO2 (aK50 (aK20 (aI (aO10 (aO4 aZ))))))))),⟨_,i475,rfl,h,(le455.t le473),hS⟩,Nat.lt_succ_self _⟩
 intro h456 h
 refine cexit ?_
 refine (fun h=>xe (xe (bh h))) ?_
 refine xn (nz (st (ny (nz (st (wl (su (u_lensl underlying22 (et (k90 d7))) (dt (q90 p8)) (st (nw (cblock ?_))))))))))
 replace hS:=hS.nilRow 31 (Mo.sz TOwner)
 replace hS:=hS.bg Y1
 refine cloopE ([2]++rg 13 3++[17]++[19]++rg 100 75) (by decide +kernel) (fun n m w=>∃ μx i869 l872 v870 cs871,m=(yK2 (yO1 2 (yK9 (.i (v870)::(yO3 13 (yK1 (yO1 17 (yK1 (yO1 19 (yK50 (yK20 (yK9 (.i (.int .i64 i869)::(yO50 100 (yO20 150 (yO5 170 []))))))))))))))))∧r3_owners_l5 fu p_1 n i869 l872=some r∧Le μ6 μx∧Sq μx w0 w (.blk b7 26 [.int .i64 0,.int .i64 0]::.row v870 31 3 l872.length cs871::rsF)∧Rw μx cs871 l872) (by rintro _ _ _ ⟨_,_,_,_,_,rfl,_⟩; rfl) _ _ (aK2 (aO1 (aK9 (aI (aO3 (aK1 (aO1 (aK1 (aO1 (aK50 (aK20 (aK9 (aI (aO50 (aO20 (aO5 aZ)))))))))))))))) ⟨_,0,[],(.slice none 0 0),[],rfl,h,Le.r,hS,Rw.nil⟩ ?_
 rintro n_5 _ t w18 ⟨μ8,i869,l872,v870,cs871,rfl,h,le1265,hS,m1266⟩
 rcases n_5 with _|n_5
 cases h
 unfold r3_owners_l5 at h
 refine cnrm (mK2 (mO1 (mK9 (mi (mO3 (mK1 (mO1 (mK1 (mO1 (mK50 (mK20 (mK9 (mi (mO50 (mO20 (mO5 mz)))))))))))))))) (nz (st (ny ?_)))
 refine zCd h ?_ ?_
 intro h1267 h
 refine cskip (xn (cseq (cblock (nz (st ?_)))))
 obtain ⟨x1268,g1269,h⟩:=bI h
 obtain ⟨b1270,o1271,cs1272,e1273,f1274,m1275⟩:=SlR.elem (m3.up (le11.t (le237.t (le394.t (le455.t le1265))))) g1269
 obtain ⟨a1276,c1277,a1279,c1280,rfl,m1278,m1281⟩:=m1275
 refine wl (su (u_iax underlying22 ti59 (et (k90 d7)) (et (k90 d9)) e1273) (dt (q100 p2)) (lds (f1274 _ hS.a) rfl ?_))
 refine wl (s_alloc ti59 hS ?_); clear hS; intro b1282 w19 hb1283 hS; refine po ?_
 refine st (wl (s_storeA ti59 (et (k10 d4)) (et (k100 d3)) rfl rfl hS d0 rfl p0 dn ?_))
 clear hS; intro w20 hS
 refine ny (nz (st (ld ((hS.blk d0).cell d0) (st (nw ?_)))))
 refine zCd h ?_ ?_
 intro h1284 h
 refine cexit ?_
 refine (fun h=>xe (bh h)) ?_
 refine xn (creg ?_)
 obtain ⟨i1285,g1286,h⟩:=bI h
 refine wl (su (u_addc (et (k90 d9)) ec g1286) (dt (q100 (q70 p4))) (st (wnil (xl ?_))))
 replace hS:=hS.drop Rm.z
 exact ⟨n_5,_,_,rfl,(aK2 (aO1 (aK9 (aI (aO3 (aK1 (aO1 (aK1 (aO1 (aK50 (aK20 (aK9 (aI (aO50 (aO20 (aO5 aZ)))))))))))))))),⟨_,i1285,l872,v870,cs871,rfl,h,le1265,hS,m1266⟩,Nat.lt_succ_self _⟩
 intro h1284 h
 refine cskip (xn (nz (st (ld ((hS.blk d0).cell d1) (wl (s_build ti31 pl31 (Fl.o rfl (et (k100 d8)) rfl rfl p0 Fl.z) (dt (q100 p9)) ?_))))))
 refine wl (s_alloc ti31 hS ?_); clear hS; intro b1287 w21 hb1288 hS; refine po ?_
 refine wl (s_storeA ti31 (et (k10 d5)) (et (k100 d9)) rfl rfl hS d0 rfl p0 dn ?_)
 clear hS; intro w22 hS
 refine ny (nz (st (wl (su (u_lensl underlying22 (et (k100 (k10 d0)))) (dt (q100 (q10 p1))) (st (nw (cblock ?_)))))))
 replace hS:=((hS.bg Y1).bg Y3).bg Y3
 refine cloopE ([2]++[17]++[19]++rg 113 57) (by decide +kernel) (fun n m w=>∃ μx i1408 s1409 s1410,m=(yK2 (yO1 2 (yK10 (yK4 (yO1 17 (yK1 (yO1 19 (yK50 (yK20 (yK20 (yK2 (.i (.int .i64 i1408)::(yO50 113 (yO7 163 []))))))))))))))∧r3_owners_l6 fu p_1 i869 l872 x1268 (r3_owners_l5 fu p_1 n_5) n i1408 s1409 s1410=some r∧Le μ8 μx∧Sq μx w0 w (.blk b7 26 [.int .i64 0,.int .i64 0]::.row v870 31 3 l872.length cs871::.blk b1282 59 [.int .i64 x1268.Kind,S x1268.Name,.int .i64 x1268.Typ.Kind,S x1268.Typ.Gen,.int .i64 x1268.Takes.Kind,S x1268.Takes.Gen,.int .i64 x1268.Cap,.slice a1276 x1268.Params.length c1277,.slice a1279 x1268.Body.length c1280]::.blk b1287 31 [S x1268.Name,S s1409,S s1410]::rsF)) (by rintro _ _ _ ⟨_,_,_,_,rfl,_⟩; rfl) _ _ (aK2 (aO1 (aK10 (aK4 (aO1 (aK1 (aO1 (aK50 (aK20 (aK20 (aK2 (aI (aO50 (aO7 aZ)))))))))))))) ⟨_,0,[],[],rfl,h,Le.r,hS⟩ ?_
 rintro n_6 _ t w23 ⟨μ9,i1408,s1409,s1410,rfl,h,le1530,hS⟩
 rcases n_6 with _|n_6
 cases h
 unfold r3_owners_l6 at h
 refine cnrm (mK2 (mO1 (mK10 (mK4 (mO1 (mK1 (mO1 (mK50 (mK20 (mK20 (mK2 (mi (mO50 (mO7 mz)))))))))))))) (nz (st (ny ?_)))
 refine zCd h ?_ ?_
 intro h1531 h
 refine cskip (xn (cseq (cblock (nz ?_))))
 obtain ⟨x1532,g1533,h⟩:=bI h
 obtain ⟨b1534,o1535,cs1536,e1537,f1538,m1539⟩:=SlR.elem (m3.up (le11.t (le237.t (le394.t (le455.t (le1265.t le1530)))))) g1533
 obtain ⟨a1540,c1541,a1543,c1544,rfl,m1542,m1545⟩:=m1539
 refine wl (su (u_iax underlying22 ti59 (et (k100 (k10 d0))) (et (k100 (k10 d2))) e1537) (dt (q100 (q10 p4))) (lds (f1538 _ hS.a) rfl ?_))
 refine wl (s_alloc ti59 hS ?_); clear hS; intro b1546 w24 hb1547 hS; refine po ?_
 refine wl (s_storeA ti59 (et (k10 d7)) (et (k100 (k10 d5))) rfl rfl hS d0 rfl p0 dn ?_)
 clear hS; intro w25 hS
 refine ny (nz (st (ld ((hS.blk d0).cell d0) (st (nw ?_)))))
 refine zCd h ?_ ?_
 intro h1548 h
 refine cexit ?_
 refine (fun h=>xe (bh h)) ?_
 refine xn (creg ?_)
 obtain ⟨i1549,g1550,h⟩:=bI h
 refine wl (su (u_addc (et (k100 (k10 d2))) ec g1550) (dt (q100 (q60 p9))) (st (wnil (xl ?_))))
 replace hS:=hS.drop Rm.z
 exact ⟨n_6,_,_,rfl,(aK2 (aO1 (aK10 (aK4 (aO1 (aK1 (aO1 (aK50 (aK20 (aK20 (aK2 (aI (aO50 (aO7 aZ)))))))))))))),⟨_,i1549,s1409,s1410,rfl,h,le1530,hS⟩,Nat.lt_succ_self _⟩
 intro h1548 h
 refine cskip (xn (nz ?_))
 iterate 2 refine st ?_
 refine ld ((hS.blk d0).cell d1) ?_
 obtain ⟨r1551,g1552,h⟩:=bI h
 refine ca (r3_reaches_w (hg.t (le11.t (le237.t (le394.t (le455.t (le1265.t le1530)))))) (m3.up (le11.t (le237.t (le394.t (le455.t (le1265.t le1530)))))) g1552 hS) ?_
 rintro _ w26 ⟨μ10,a1554,c1555,rfl,le1553,hS,m1556⟩
 refine po (wl (su (u_lensl underlying22 (et (k100 (k20 d2)))) (dt (q100 (q20 p3))) (st (nw (cblock ?_)))))
 replace hS:=(((hS.bg Y4).bg Y4).bg Y4).bg Y4
 refine cloopE ([2]++[19]++rg 125 44) (by decide +kernel) (fun n m w=>∃ μx i1587 s1588 s1589,m=(yK2 (yO1 2 (yK10 (yK6 (yO1 19 (yK50 (yK50 (yK4 (.i (.int .i64 i1587)::(yO20 125 (yO20 145 (yO4 165 []))))))))))))∧r3_owners_l7 fu i869 x1268 i1408 x1532 r1551 (r3_owners_l6 fu p_1 i869 l872 x1268 (r3_owners_l5 fu p_1 n_5) n_6) n i1587 s1588 s1589=some r∧Le μ10 μx∧Sq μx w0 w (.blk b7 26 [.int .i64 0,.int .i64 0]::.row v870 31 3 l872.length cs871::.blk b1282 59 [.int .i64 x1268.Kind,S x1268.Name,.int .i64 x1268.Typ.Kind,S x1268.Typ.Gen,.int .i64 x1268.Takes.Kind,S x1268.Takes.Gen,.int .i64 x1268.Cap,.slice a1276 x1268.Params.length c1277,.slice a1279 x1268.Body.length c1280]::.blk b1287 31 [S x1268.Name,S s1588,S s1589]::.blk b1546 59 [.int .i64 x1532.Kind,S x1532.Name,.int .i64 x1532.Typ.Kind,S x1532.Typ.Gen,.int .i64 x1532.Takes.Kind,S x1532.Takes.Gen,.int .i64 x1532.Cap,.slice a1540 x1532.Params.length c1541,.slice a1543 x1532.Body.length c1544]::rsF)) (by rintro _ _ _ ⟨_,_,_,_,rfl,_⟩; rfl) _ _ (aK2 (aO1 (aK10 (aK6 (aO1 (aK50 (aK50 (aK4 (aI (aO20 (aO20 (aO4 aZ)))))))))))) ⟨_,0,s1409,s1410,rfl,h,Le.r,hS⟩ ?_
 rintro n_7 _ t w27 ⟨μ11,i1587,s1588,s1589,rfl,h,le1620,hS⟩
 rcases n_7 with _|n_7
 cases h
 unfold r3_owners_l7 at h
 refine cnrm (mK2 (mO1 (mK10 (mK6 (mO1 (mK50 (mK50 (mK4 (mi (mO20 (mO20 (mO4 mz)))))))))))) (nz (st (ny ?_)))
 refine zCd h ?_ ?_
 intro h1621 h
 refine cskip (xn (cseq (cblock (nz ?_))))
 obtain ⟨x1622,g1623,h⟩:=bI h
 obtain ⟨b1624,o1625,cs1626,e1627,f1628,m1629⟩:=SlR.elem (m1556.up le1620) g1623
 obtain ⟨a1630,c1631,a1633,c1634,rfl,m1632,m1635⟩:=m1629
 refine wl (su (u_iax underlying22 ti59 (et (k100 (k20 d2))) (et (k100 (k20 d4))) e1627) (dt (q100 (q20 p6))) (lds (f1628 _ hS.a) rfl ?_))
 refine wl (s_alloc ti59 hS ?_); clear hS; intro b1636 w28 hb1637 hS; refine po ?_
 refine wl (s_storeA ti59 (et (k10 d9)) (et (k100 (k20 d7))) rfl rfl hS d0 rfl p0 dn ?_)
 clear hS; intro w29 hS
 refine ny (nz (st (ld ((hS.blk d0).cell d8) (st (ld ((hS.blk d3).cell d1) ?_)))))
 obtain ⟨r1638,g1639,h⟩:=bI h
 refine ca ((R3S_sound fu).r3_says (hg.t (le11.t (le237.t (le394.t (le455.t (le1265.t (le1530.t (le1553.t le1620)))))))) m1635 g1639 hS) ?_
 rintro _ w30 ⟨μ12,rfl,le1640,hS⟩
 refine po (nw ?_)
 refine ccutE ([2]++rg 133 15) (by decide) (fun m w=>∃ μx s1641,m=(yK2 (yO1 2 (yK50 (yK50 (yK20 (yK10 (yO10 133 (yO5 143 []))))))))∧r3_owners_j1 fu i869 x1268 x1532 i1587 s1589 x1622 (r3_owners_l7 fu i869 x1268 i1408 x1532 r1551 (r3_owners_l6 fu p_1 i869 l872 x1268 (r3_owners_l5 fu p_1 n_5) n_6) n_7) s1641=some r∧Le μ12 μx∧Sq μx w0 w (.blk b7 26 [.int .i64 0,.int .i64 0]::.row v870 31 3 l872.length cs871::.blk b1282 59 [.int .i64 x1268.Kind,S x1268.Name,.int .i64 x1268.Typ.Kind,S x1268.Typ.Gen,.int .i64 x1268.Takes.Kind,S x1268.Takes.Gen,.int .i64 x1268.Cap,.slice a1276 x1268.Params.length c1277,.slice a1279 x1268.Body.length c1280]::.blk b1287 31 [S x1268.Name,S s1641,S s1589]::.blk b1546 59 [.int .i64 x1532.Kind,S x1532.Name,.int .i64 x1532.Typ.Kind,S x1532.Typ.Gen,.int .i64 x1532.Takes.Kind,S x1532.Takes.Gen,.int .i64 x1532.Cap,.slice a1540 x1532.Params.length c1541,.slice a1543 x1532.Body.length c1544]::.blk b1636 59 [.int .i64 x1622.Kind,S x1622.Name,.int .i64 x1622.Typ.Kind,S x1622.Typ.Gen,.int .i64 x1622.Takes.Kind,S x1622.Takes.Gen,.int .i64 x1622.Cap,.slice a1630 x1622.Params.length c1631,.slice a1633 x1622.Body.length c1634]::rsF)) (by rintro _ _ ⟨_,_,rfl,_⟩; rfl) ?_ ?_
 refine zCb h ?_ ?_
 intro h1642 h
 refine cseq (cseq ?_)
 refine ccutE (rg 133 9) (by decide) (fun m w=>∃ μx b1643,m=(yK50 (yK50 (yK20 (yK10 (yK3 (yO9 133 (.i (.bool b1643)::[])))))))∧r3_owners_j2 fu i869 x1268 x1532 i1587 s1589 x1622 (r3_owners_l7 fu i869 x1268 i1408 x1532 r1551 (r3_owners_l6 fu p_1 i869 l872 x1268 (r3_owners_l5 fu p_1 n_5) n_6) n_7) b1643=some r∧Le μ12 μx∧Sq μx w0 w (.blk b7 26 [.int .i64 0,.int .i64 0]::.row v870 31 3 l872.length cs871::.blk b1282 59 [.int .i64 x1268.Kind,S x1268.Name,.int .i64 x1268.Typ.Kind,S x1268.Typ.Gen,.int .i64 x1268.Takes.Kind,S x1268.Takes.Gen,.int .i64 x1268.Cap,.slice a1276 x1268.Params.length c1277,.slice a1279 x1268.Body.length c1280]::.blk b1287 31 [S x1268.Name,S s1588,S s1589]::.blk b1546 59 [.int .i64 x1532.Kind,S x1532.Name,.int .i64 x1532.Typ.Kind,S x1532.Typ.Gen,.int .i64 x1532.Takes.Kind,S x1532.Takes.Gen,.int .i64 x1532.Cap,.slice a1540 x1532.Params.length c1541,.slice a1543 x1532.Body.length c1544]::.blk b1636 59 [.int .i64 x1622.Kind,S x1622.Name,.int .i64 x1622.Typ.Kind,S x1622.Typ.Gen,.int .i64 x1622.Takes.Kind,S x1622.Takes.Gen,.int .i64 x1622.Cap,.slice a1630 x1622.Params.length c1631,.slice a1633 x1622.Body.length c1634]::rsF)) (by rintro _ _ ⟨_,_,rfl,_⟩; rfl) ?_ ?_
 refine creg (st (ld ((hS.blk d4).cell d1) (wl (su (u_nes (et (k100 (k30 d4))) ec) (dt (q100 (q30 p5))) (st ?_)))))
 refine zWd 136 h ?_ ?_
 intro h1644 h
 refine sy rfl (wy rfl (k100 (k30 d6)) (s_load ti9 (et (k100 (k30 d7))) ((hS.blk d4).cell d1) (dt (q100 (q30 p8))) (sy rfl (wy rfl (k100 (k30 d6)) (s_load ti9 (et (k100 (k30 d9))) ((hS.blk d5).cell d1) (dt (q100 (q40 p0))) (wy rfl (k100 (k30 d6)) (su (u_nes (et (k100 (k30 d8))) (et (k100 (k40 d0)))) (dt (q100 (q40 p1))) (st (wnil (xl ?_))))))))))
 replace hS:=((((hS.bg Y5).bg Y5).bg Y5).bg Y5).bg Y5
 exact ⟨_,_,rfl,(aK50 (aK50 (aK20 (aK10 (aK3 (aO9 (aI aZ))))))),_,(decide (s1588≠x1532.Name)),rfl,h,Le.r,hS⟩
 intro h1644 h
 refine sn rfl rfl (sn rfl rfl (sn rfl rfl (sn rfl rfl (sn rfl rfl (st (wnil (xl ?_)))))))
 replace hS:=((((hS.bg Y5).bg Y5).bg Y5).bg Y5).bg Y5
 exact ⟨_,_,rfl,(aK50 (aK50 (aK20 (aK10 (aK3 (aO9 (aI aZ))))))),_,false,rfl,h,Le.r,hS⟩
 rintro _ t w31 ⟨μ13,b1643,rfl,h,le1645,hS⟩
 unfold r3_owners_j2 at h
 refine nrm (mK50 (mK50 (mK20 (mK10 (mK3 (mO9 (mi mz))))))) (xn ?_)
 refine zCb h ?_ ?_
 intro h1646 h
 refine nz (st (wl (s_build ti26 pl26 (Fl.o rfl ec rfl rfl p0 (Fl.o rfl (et (k100 (k40 d3))) rfl rfl p1 Fl.z)) (dt (q100 (q40 p4))) (st (wl (s_storeA ti26 (et d3) (et (k100 (k40 d4))) rfl rfl hS d0 rfl p0 dn ?_))))))
 clear hS; intro w32 hS
 refine nw (cret ((fun h=>xr (xr (xr (br (xr (xr (br (br (xr (xr (br (xr (br (xr (xr (br (xr h))))))))))))))))) ?_))
 obtain rfl:=oI h
 refine retN rfl (RVs.s (.t d2) (RVs.s (.a d3 ti26 (hS.blk d0).cells rfl) RVs.z)) ?_
 replace hS:=(((((hS.drop Rm.z).drop Rm.z).drop Rm.z).drop Rm.z).drop Rm.z).drop Rm.z
 exact ⟨_,none,0,rfl,(le11.t (le237.t (le394.t (le455.t (le1265.t (le1530.t (le1553.t (le1620.t (le1640.t le1645))))))))),hS,Sl.nil⟩
 intro h1646 h
 refine cskip (xn (creg (st (ld ((hS.blk d4).cell d1) (st (wl (s_store1 ti9 (et (k100 (k40 d7))) (et (k100 (k40 d6))) rfl hS d3 p1 rfl p3 dn ?_)))))))
 clear hS; intro w33 hS
 refine wnil (xl ?_)
 exact ⟨_,_,rfl,(aK2 (aO1 (aK50 (aK50 (aK20 (aK10 (aO10 (aO5 aZ)))))))),_,x1532.Name,rfl,h,le1645,hS⟩
 intro h1642 h
 refine cskip (xl ?_)
 replace hS:=((((hS.bg Y5).bg Y5).bg Y5).bg Y5).bg Y5
 exact ⟨_,_,rfl,(aK2 (aO1 (aK50 (aK50 (aK20 (aK10 (aO10 (aO5 aZ)))))))),_,_,rfl,h,Le.r,hS⟩
 rintro _ t w34 ⟨μ14,s1641,rfl,h,le1647,hS⟩
 unfold r3_owners_j1 at h
 refine nrm (mK2 (mO1 (mK50 (mK50 (mK20 (mK10 (mO10 (mO5 mz)))))))) (xn (nz (st (ld ((hS.blk d5).cell d8) (st (ld ((hS.blk d2).cell d1) ?_))))))
 obtain ⟨r1648,g1649,h⟩:=bI h
 refine ca ((R3S_sound fu).r3_says (hg.t (le11.t (le237.t (le394.t (le455.t (le1265.t (le1530.t (le1553.t (le1620.t (le1640.t le1647)))))))))) (m1635.up (le1640.t le1647)) g1649 hS) ?_
 rintro _ w35 ⟨μ15,rfl,le1650,hS⟩
 refine po (nw ?_)
 refine zCb h ?_ ?_
 intro h1651 h
 refine cseq (cseq ?_)
 refine ccutE (rg 153 9) (by decide) (fun m w=>∃ μx b1652,m=(yK50 (yK50 (yK50 (yK3 (yO9 153 (.i (.bool b1652)::[]))))))∧r3_owners_j3 i869 x1532 i1587 s1641 (r3_owners_l7 fu i869 x1268 i1408 x1532 r1551 (r3_owners_l6 fu p_1 i869 l872 x1268 (r3_owners_l5 fu p_1 n_5) n_6) n_7) b1652=some r∧Le μ15 μx∧Sq μx w0 w (.blk b7 26 [.int .i64 0,.int .i64 0]::.row v870 31 3 l872.length cs871::.blk b1282 59 [.int .i64 x1268.Kind,S x1268.Name,.int .i64 x1268.Typ.Kind,S x1268.Typ.Gen,.int .i64 x1268.Takes.Kind,S x1268.Takes.Gen,.int .i64 x1268.Cap,.slice a1276 x1268.Params.length c1277,.slice a1279 x1268.Body.length c1280]::.blk b1287 31 [S x1268.Name,S s1641,S s1589]::.blk b1546 59 [.int .i64 x1532.Kind,S x1532.Name,.int .i64 x1532.Typ.Kind,S x1532.Typ.Gen,.int .i64 x1532.Takes.Kind,S x1532.Takes.Gen,.int .i64 x1532.Cap,.slice a1540 x1532.Params.length c1541,.slice a1543 x1532.Body.length c1544]::rsF)) (by rintro _ _ ⟨_,_,rfl,_⟩; rfl) ?_ ?_
 refine creg (st (ld ((hS.blk d3).cell d2) (wl (su (u_nes (et (k100 (k50 d4))) ec) (dt (q100 (q50 p5))) (st ?_)))))
 refine zWd 156 h ?_ ?_
 intro h1653 h
 refine sy rfl (wy rfl (k100 (k50 d6)) (s_load ti9 (et (k100 (k50 d7))) ((hS.blk d3).cell d2) (dt (q100 (q50 p8))) (sy rfl (wy rfl (k100 (k50 d6)) (s_load ti9 (et (k100 (k50 d9))) ((hS.blk d4).cell d1) (dt (q100 (q60 p0))) (wy rfl (k100 (k50 d6)) (su (u_nes (et (k100 (k50 d8))) (et (k100 (k60 d0)))) (dt (q100 (q60 p1))) (st (wnil (xl ?_))))))))))
 replace hS:=hS.drop (Rm.s (Rm.s (Rm.s (Rm.s (Rm.s Rm.z)))))
 exact ⟨_,_,rfl,(aK50 (aK50 (aK50 (aK3 (aO9 (aI aZ)))))),_,(decide (s1589≠x1532.Name)),rfl,h,Le.r,hS⟩
 intro h1653 h
 refine sn rfl rfl (sn rfl rfl (sn rfl rfl (sn rfl rfl (sn rfl rfl (st (wnil (xl ?_)))))))
 replace hS:=hS.drop (Rm.s (Rm.s (Rm.s (Rm.s (Rm.s Rm.z)))))
 exact ⟨_,_,rfl,(aK50 (aK50 (aK50 (aK3 (aO9 (aI aZ)))))),_,false,rfl,h,Le.r,hS⟩
 rintro _ t w36 ⟨μ16,b1652,rfl,h,le1654,hS⟩
 unfold r3_owners_j3 at h
 refine nrm (mK50 (mK50 (mK50 (mK3 (mO9 (mi mz)))))) (xn ?_)
 refine zCb h ?_ ?_
 intro h1655 h
 refine nz (st (wl (s_build ti26 pl26 (Fl.o rfl ec rfl rfl p0 (Fl.o rfl (et (k100 (k60 d3))) rfl rfl p1 Fl.z)) (dt (q100 (q60 p4))) (st (wl (s_storeA ti26 (et d3) (et (k100 (k60 d4))) rfl rfl hS d0 rfl p0 dn ?_))))))
 clear hS; intro w37 hS
 refine nw (cret ((fun h=>xr (br (xr (xr (br (br (xr (xr (br (xr (br (xr (xr (br (xr h))))))))))))))) ?_))
 obtain rfl:=oI h
 refine retN rfl (RVs.s (.t d2) (RVs.s (.a d3 ti26 (hS.blk d0).cells rfl) RVs.z)) ?_
 replace hS:=((((hS.drop Rm.z).drop Rm.z).drop Rm.z).drop Rm.z).drop Rm.z
 exact ⟨_,none,0,rfl,(le11.t (le237.t (le394.t (le455.t (le1265.t (le1530.t (le1553.t (le1620.t (le1640.t (le1647.t (le1650.t le1654))))))))))),hS,Sl.nil⟩
 intro h1655 h
 refine cskip (xn (creg (st (ld ((hS.blk d4).cell d1) (st (wl (s_store1 ti9 (et (k100 (k60 d7))) (et (k100 (k60 d6))) rfl hS d3 p2 rfl p3 dn ?_)))))))
 clear hS; intro w38 hS
 refine wnil ?_
 refine (fun h=>bn (xn h)) ?_
 refine creg ?_
 obtain ⟨i1656,g1657,h⟩:=bI h
 refine wl (su (u_addc (et (k100 (k20 d4))) ec g1657) (dt (q100 (q60 p8))) (st (wnil (xl ?_))))
 exact ⟨n_7,_,_,rfl,(aK2 (aO1 (aK10 (aK6 (aO1 (aK50 (aK50 (aK4 (aI (aO20 (aO20 (aO4 aZ)))))))))))),⟨_,i1656,s1641,x1532.Name,rfl,h,(le1620.t (le1640.t (le1647.t (le1650.t le1654)))),hS⟩,Nat.lt_succ_self _⟩
 intro h1651 h
 refine cskip ?_
 refine (fun h=>bn (xn h)) ?_
 refine creg ?_
 obtain ⟨i1658,g1659,h⟩:=bI h
 refine wl (su (u_addc (et (k100 (k20 d4))) ec g1659) (dt (q100 (q60 p8))) (st (wnil (xl ?_))))
 replace hS:=hS.drop (Rm.s (Rm.s (Rm.s (Rm.s (Rm.s Rm.z)))))
 exact ⟨n_7,_,_,rfl,(aK2 (aO1 (aK10 (aK6 (aO1 (aK50 (aK50 (aK4 (aI (aO20 (aO20 (aO4 aZ)))))))))))),⟨_,i1658,s1641,s1589,rfl,h,(le1620.t (le1640.t (le1647.t le1650))),hS⟩,Nat.lt_succ_self _⟩
 intro h1621 h
 refine cexit ?_
 refine (fun h=>xe (xe (bh h))) ?_
 refine (fun h=>bn (xn h)) ?_
 refine creg ?_
 obtain ⟨i1660,g1661,h⟩:=bI h
 refine wl (su (u_addc (et (k100 (k10 d2))) ec g1661) (dt (q100 (q60 p9))) (st (wnil (xl ?_))))
 replace hS:=hS.drop (Rm.s (Rm.s (Rm.s (Rm.s Rm.z))))
 exact ⟨n_6,_,_,rfl,(aK2 (aO1 (aK10 (aK4 (aO1 (aK1 (aO1 (aK50 (aK20 (aK20 (aK2 (aI (aO50 (aO7 aZ)))))))))))))),⟨_,i1660,s1588,s1589,rfl,h,(le1530.t (le1553.t le1620)),hS⟩,Nat.lt_succ_self _⟩
 intro h1531 h
 refine cexit ?_
 refine (fun h=>xe (xe (bh h))) ?_
 refine xn (creg (st (lds (hS.blk d3).cells rfl ?_)))
 refine wl (s_bsl1 underlying23 ti31 rfl (et (k100 (k70 d1))) rfl hS ?_); clear hS; intro b1662 w39 hb1663 hS; refine po ?_
 obtain ⟨l1666,g1667,h⟩:=bI h
 have m1668:Rw μ9 [S x1268.Name,S s1409,S s1410] [(TOwner.mk x1268.Name s1409 s1410)]:=(Rw.one (α:=TOwner) rfl)
 have m1665:=Rw.app (m1266.up le1530) m1668 g1667
 refine wl (s_app1 underlying23 ti31 rfl (et (k100 (k70 d0))) (et (k100 (k70 d2))) hS d2 (hS.blk d0).cells m1668 rfl g1667 (by decide) ?_); clear hS; intro v1664 w40 rs_ hp_ hS; cases (show _=rs_ from hp_)
 replace hS:=Sep.reput hS p2; refine po ?_
 replace hS:=hS.drop Rm.z
 refine st (wnil ?_)
 refine (fun h=>bn (xn h)) ?_
 refine creg ?_
 obtain ⟨i1669,g1670,h⟩:=bI h
 refine wl (su (u_addc (et (k90 d9)) ec g1670) (dt (q100 (q70 p4))) (st (wnil (xl ?_))))
 replace hS:=(hS.drop (Rm.s (Rm.s Rm.z))).drop (Rm.s (Rm.s Rm.z))
 exact ⟨n_5,_,_,rfl,(aK2 (aO1 (aK9 (aI (aO3 (aK1 (aO1 (aK1 (aO1 (aK50 (aK20 (aK9 (aI (aO50 (aO20 (aO5 aZ)))))))))))))))),⟨_,i1669,l1666,v1664,(cs871++[S x1268.Name,S s1409,S s1410]),rfl,h,(le1265.t le1530),hS,m1665⟩,Nat.lt_succ_self _⟩
 intro h1267 h
 refine cexit ?_
 refine (fun h=>xe (xe (bh h))) ?_
 refine xn (nz (st (wl (s_build ti26 pl26 Fl.z (dt (q100 (q70 p6))) (st (wl (s_storeA ti26 (et d3) (et (k100 (k70 d6))) rfl rfl hS d0 rfl p0 dn ?_)))))))
 clear hS; intro w41 hS
 refine nw (cret ?_)
 replace hS:=hS.bg Y1
 obtain ⟨μ17,a1671,c1672,e1675,le1674,m1673,hq_⟩:=Sep.frzRow hS m1266 rfl; clear hS
 subst e1675; have hS:=hq_; clear hq_
 obtain rfl:=oI h
 refine retN rfl (RVs.s (.t d2) (RVs.s (.a d3 ti26 (hS.blk d0).cells rfl) RVs.z)) ?_
 replace hS:=hS.drop Rm.z
 exact ⟨_,_,_,rfl,(le11.t (le237.t (le394.t (le455.t (le1265.t le1674))))),hS,m1673⟩
end Go.Proofs.Yteiemedhecjgiaa
set_option maxRecDepth 100000
set_option maxHeartbeats 20000000
namespace Go.Proofs.Yteiemedhecjgiaa
open Go.Wk Go.Xt Go.Y Try
variable {b1 b4 b7 c2 c5 c8 c11 fu o2 o5 o8:Nat} {a1 a4 a7 a10:Option Addr} {μ0:M} {w0 w:World} {rsF:List Res}
theorem gr_names_w (hg:Le Gm μ0) {p_1:List TDef} {r:List (List UInt8)} (m3:Sl μ0 a1 c2 p_1) (h:gr_names p_1=some r) (hS:Sq μ0 w0 w (rsF)):CallsV prog 25 [.slice a1 p_1.length c2] w (fun v w'=>∃ (μ':M) (v4:Value) (cs5:List Value),v=v4∧Le μ0 μ'∧Sq μ' w0 w' (.row v4 9 1 r.length cs5::rsF)∧Rw μ' cs5 r):=by
 unfold gr_names at h
 refine enter func25 rfl (frm:=_::u1 (u20 [])) rfl (nz (st (nx (st (ny (nz (st (wl (su (u_lensl underlying22 (et d6)) (dt p7) (st (nw (cblock ?_))))))))))))
 replace hS:=hS.nilRow 9 (Mo.sz (List UInt8))
 refine cloopE ([5]++rg 9 12) (by decide) (fun n m w=>∃ μx i37 l40 v38 cs39,m=(yK3 (.i (v38)::(yK1 (yO1 5 (yK2 (.i (.int .i64 i37)::(yO10 9 (yO2 19 []))))))))∧gr_names_l1 p_1 n i37 l40=some r∧Le μ0 μx∧Sq μx w0 w (.row v38 9 1 l40.length cs39::rsF)∧Rw μx cs39 l40) (by rintro _ _ _ ⟨_,_,_,_,_,rfl,_⟩; rfl) _ _ (aK3 (aI (aK1 (aO1 (aK2 (aI (aO10 (aO2 aZ)))))))) ⟨_,0,[],(.slice none 0 0),[],rfl,h,Le.r,hS,Rw.nil⟩ ?_
 rintro n_1 _ t w1 ⟨μ1,i37,l40,v38,cs39,rfl,h,le71,hS,m72⟩
 rcases n_1 with _|n_1
 cases h
 unfold gr_names_l1 at h
 refine cnrm (mK3 (mi (mK1 (mO1 (mK2 (mi (mO10 (mO2 mz)))))))) (nz (st (ny ?_)))
 refine zCd h ?_ ?_
 intro h73 h
 refine cskip (xn (cseq (cblock (nz ?_))))
 obtain ⟨x74,g75,h⟩:=bI h
 obtain ⟨b76,o77,cs78,e79,f80,m81⟩:=SlR.elem (m3.up le71) g75
 obtain ⟨a82,c83,a85,c86,rfl,m84,m87⟩:=m81
 refine wl (su (u_iax underlying22 ti59 (et d6) (et d8) e79) (dt (q10 p0)) (lds (f80 _ hS.a) rfl ?_))
 refine wl (s_alloc ti59 hS ?_); clear hS; intro b88 w2 hb89 hS; refine po ?_
 refine wl (s_storeA ti59 (et d5) (et (k10 d1)) rfl rfl hS d0 rfl p0 dn ?_)
 clear hS; intro w3 hS
 refine nx (st (ld ((hS.blk d0).cell d0) (st (nw ?_))))
 refine zCd h ?_ ?_
 intro h90 h
 refine creg ?_
 iterate 2 refine st ?_
 refine ld ((hS.blk d0).cell d1) ?_
 refine wl (s_bsl underlying38 ti9 (Parts.s (et (k10 d7)) rfl Parts.z) rfl rfl hS ?_); clear hS; intro b91 w4 hb92 hS; refine po ?_
 obtain ⟨l95,g96,h⟩:=bI h
 have m97:Rw μ1 [S x74.Name] [x74.Name]:=(Rw.one (α:=List UInt8) rfl)
 have m94:=Rw.app m72 m97 g96
 refine wl (s_app1 underlying38 ti9 rfl (et (k10 d5)) (et (k10 d8)) hS d2 (hS.blk d0).cells m97 rfl g96 (by decide) ?_); clear hS; intro v93 w5 rs_ hp_ hS; cases (show _=rs_ from hp_)
 replace hS:=Sep.reput hS p2; refine po ?_
 replace hS:=hS.drop Rm.z
 refine st (wnil ?_)
 refine (fun h=>bn (xn h)) ?_
 refine creg ?_
 obtain ⟨i98,g99,h⟩:=bI h
 refine wl (su (u_addc (et d8) ec g99) (dt (q20 p0)) (st (wnil (xl ?_))))
 replace hS:=hS.drop Rm.z
 exact ⟨n_1,_,_,rfl,(aK3 (aI (aK1 (aO1 (aK2 (aI (aO10 (aO2 aZ)))))))),⟨_,i98,l95,v93,(cs39++[S x74.Name]),rfl,h,le71,hS,m94⟩,Nat.lt_succ_self _⟩
 intro h90 h
 refine cskip ?_
 refine (fun h=>bn (xn h)) ?_
 refine creg ?_
 obtain ⟨i100,g101,h⟩:=bI h
 refine wl (su (u_addc (et d8) ec g101) (dt (q20 p0)) (st (wnil (xl ?_))))
 replace hS:=hS.drop Rm.z
 exact ⟨n_1,_,_,rfl,(aK3 (aI (aK1 (aO1 (aK2 (aI (aO10 (aO2 aZ)))))))),⟨_,i100,l40,v38,cs39,rfl,h,le71,hS,m72⟩,Nat.lt_succ_self _⟩
 intro h73 h
 refine cexit ?_
 refine (fun h=>xe (xe (bh h))) ?_
 refine xn (nz ?_)
 iterate 2 refine st ?_
 refine nw (cret ?_)
 obtain rfl:=oI h
 refine ret1 rfl d2 ?_
 exact ⟨_,_,_,rfl,le71,hS,m72⟩
theorem gr_edges_w (hg:Le Gm μ0) {p_1:List TDef} {r:List TEdge×TFault} (m3:Sl μ0 a1 c2 p_1) (h:gr_edges fu p_1=some r) (hS:Sq μ0 w0 w (rsF)):CallsV prog 9 [.slice a1 p_1.length c2] w (fun v w'=>∃ (μ':M) (a4:Option Addr) (c5:Nat),v=.tuple ⟨[.slice a4 r.1.length c5,.agg ⟨[.int .i64 r.2.Err,.int .i64 r.2.At]⟩]⟩∧Le μ0 μ'∧Sq μ' w0 w' (rsF)∧Sl μ' a4 c5 r.1):=by
 unfold gr_edges at h
 refine enter func9 rfl (frm:=_::u2 (u2 (u20 (u20 [])))) rfl (nz (st ?_))
 refine wl (s_alloc ti26 hS ?_); clear hS; intro b7 w1 hb8 hS; refine po ?_
 refine nx (st ?_)
 obtain ⟨r9,g10,h⟩:=bI h
 refine ca (sema_owners_w hg m3 g10 hS) ?_
 rintro _ w2 ⟨μ1,a12,c13,rfl,le11,hS,m14⟩
 refine po ?_
 iterate 3 refine st ?_
 refine wl (s_alloc ti26 hS ?_); clear hS; intro b15 w3 hb16 hS; refine po ?_
 refine st (wl (s_storeA ti26 (et d5) (et (k10 d3)) rfl rfl hS d0 rfl p0 dn ?_))
 clear hS; intro w4 hS
 refine ny (nz (st (ld ((hS.blk d0).cell d0) (st (nw ?_)))))
 refine zCd h ?_ ?_
 intro h17 h
 refine cseq ?_
 refine cdw hS ?_; clear hS; intro w5 hS
 refine sf_start (fr_ 0 [0,2] rfl (u_loads ti26 (et d5) (hS.blk d0).cells rfl) (q10 p7) (fpi 1 [1,2] rfl (sf1 rfl rfl rfl rfl (wn0 rfl) (s_storeA ti26 (et d3) (et (k10 d7)) rfl rfl hS d1 rfl p1 dn ?_))))
 clear hS; intro w6 hS
 refine ⟨Mons.z,?_⟩
 refine sf_nil (xn (cret (xr ?_)))
 obtain rfl:=oI h
 refine retN rfl (RVs.s (.t d2) (RVs.s (.a d3 ti26 (hS.blk d1).cells rfl) RVs.z)) ?_
 replace hS:=(hS.drop Rm.z).drop Rm.z
 exact ⟨_,none,0,rfl,le11,hS,Sl.nil⟩
 intro h17 h
 refine cskip (xn (nz (st (ny (nz (st (wl (su (u_lensl underlying23 (et (k10 d8))) (dt (q10 p9)) (st (nw (cblock ?_)))))))))))
 replace hS:=hS.nilRow 37 (Mo.sz TEdge)
 replace hS:=(hS.bg Y1).bg Y2
 refine cloopE ([8]++rg 21 22) (by decide +kernel) (fun n m w=>∃ μx i44 l47 v45 cs46,m=(yK6 (.i (v45)::(yK1 (yO1 8 (yK10 (yK1 (.i (.int .i64 i44)::(yO20 21 (yO2 41 [])))))))))∧gr_edges_l1 r9 n i44 l47=some r∧Le μ1 μx∧Sq μx w0 w (.blk b7 26 [.int .i64 0,.int .i64 0]::.blk b15 26 [.int .i64 r9.2.Err,.int .i64 r9.2.At]::.row v45 37 3 l47.length cs46::rsF)∧Rw μx cs46 l47) (by rintro _ _ _ ⟨_,_,_,_,_,rfl,_⟩; rfl) _ _ (aK6 (aI (aK1 (aO1 (aK10 (aK1 (aI (aO20 (aO2 aZ))))))))) ⟨_,0,[],(.slice none 0 0),[],rfl,h,Le.r,hS,Rw.nil⟩ ?_
 rintro n_1 _ t w7 ⟨μ2,i44,l47,v45,cs46,rfl,h,le74,hS,m75⟩
 rcases n_1 with _|n_1
 cases h
 unfold gr_edges_l1 at h
 refine cnrm (mK6 (mi (mK1 (mO1 (mK10 (mK1 (mi (mO20 (mO2 mz))))))))) (nz (st (ny ?_)))
 refine zCd h ?_ ?_
 intro h76 h
 refine cskip (xn (cseq (cblock (nz ?_))))
 obtain ⟨x77,g78,h⟩:=bI h
 obtain ⟨b79,o80,cs81,e82,f83,m84⟩:=SlR.elem (m14.up le74) g78
 obtain rfl:=m84
 refine wl (su (u_iax underlying23 ti31 (et (k10 d8)) (et (k20 d0)) e82) (dt (q20 p2)) (lds (f83 _ hS.a) rfl ?_))
 refine wl (s_alloc ti31 hS ?_); clear hS; intro b85 w8 hb86 hS; refine po ?_
 refine wl (s_storeA ti31 (et d8) (et (k20 d3)) rfl rfl hS d0 rfl p0 dn ?_)
 clear hS; intro w9 hS
 refine ny ?_
 refine ccutE (rg 24 7) (by decide) (fun m w=>∃ μx b87,m=(yK20 (yK4 (yO7 24 (.i (.bool b87)::[]))))∧gr_edges_j1 i44 l47 x77 (gr_edges_l1 r9 n_1) b87=some r∧Le μ2 μx∧Sq μx w0 w (.blk b7 26 [.int .i64 0,.int .i64 0]::.blk b15 26 [.int .i64 r9.2.Err,.int .i64 r9.2.At]::.row v45 37 3 l47.length cs46::.blk b85 31 [S x77.Box,S x77.Writer,S x77.Reader]::rsF)) (by rintro _ _ ⟨_,_,rfl,_⟩; rfl) ?_ ?_
 refine creg (st (ld ((hS.blk d0).cell d1) (wl (su (u_nes (et (k20 d5)) ec) (dt (q20 p6)) (st ?_)))))
 refine zWd 27 h ?_ ?_
 intro h88 h
 refine sy rfl (wy rfl (k20 d7) (s_load ti9 (et (k20 d8)) ((hS.blk d0).cell d2) (dt (q20 p9)) (wy rfl (k20 d7) (su (u_nes (et (k20 d9)) ec) (dt (q30 p0)) (st (wnil (xl ?_)))))))
 replace hS:=((hS.bg Y3).bg Y3).bg Y3
 exact ⟨_,_,rfl,(aK20 (aK4 (aO7 (aI aZ)))),_,(decide (x77.Reader≠[])),rfl,h,Le.r,hS⟩
 intro h88 h
 refine sn rfl rfl (sn rfl rfl (sn rfl rfl (st (wnil (xl ?_)))))
 replace hS:=((hS.bg Y3).bg Y3).bg Y3
 exact ⟨_,_,rfl,(aK20 (aK4 (aO7 (aI aZ)))),_,false,rfl,h,Le.r,hS⟩
 rintro _ t w10 ⟨μ3,b87,rfl,h,le89,hS⟩
 unfold gr_edges_j1 at h
 refine nrm (mK20 (mK4 (mO7 (mi mz)))) (xn ?_)
 refine zCb h ?_ ?_
 intro h90 h
 refine creg ?_
 iterate 2 refine st ?_
 refine ld ((hS.blk d3).cell d0) (st (ld ((hS.blk d3).cell d1) (st (ld ((hS.blk d3).cell d2) (wl (s_build ti37 pl37 (Fl.o rfl (et (k30 d4)) rfl rfl p0 (Fl.o rfl (et (k30 d6)) rfl rfl p1 (Fl.o rfl (et (k30 d8)) rfl rfl p2 Fl.z))) (dt (q30 p9)) ?_))))))
 refine wl (s_bsl1 underlying33 ti37 rfl (et (k30 d9)) rfl hS ?_); clear hS; intro b91 w11 hb92 hS; refine po ?_
 obtain ⟨l95,g96,h⟩:=bI h
 have m97:Rw μ3 [S x77.Box,S x77.Writer,S x77.Reader] [(TEdge.mk x77.Box x77.Writer x77.Reader)]:=(Rw.one (α:=TEdge) rfl)
 have m94:=Rw.app (m75.up le89) m97 g96
 refine wl (s_app1 underlying33 ti37 rfl (et (k30 d2)) (et (k40 d0)) hS d3 (hS.blk d0).cells m97 rfl g96 (by decide) ?_); clear hS; intro v93 w12 rs_ hp_ hS; cases (show _=rs_ from hp_)
 replace hS:=Sep.reput hS p3; refine po ?_
 replace hS:=hS.drop Rm.z
 refine st (wnil ?_)
 refine (fun h=>bn (xn h)) ?_
 refine creg ?_
 obtain ⟨i98,g99,h⟩:=bI h
 refine wl (su (u_addc (et (k20 d0)) ec g99) (dt (q40 p2)) (st (wnil (xl ?_))))
 replace hS:=hS.drop (Rm.s (Rm.s (Rm.s Rm.z)))
 exact ⟨n_1,_,_,rfl,(aK6 (aI (aK1 (aO1 (aK10 (aK1 (aI (aO20 (aO2 aZ))))))))),⟨_,i98,l95,v93,(cs46++[S x77.Box,S x77.Writer,S x77.Reader]),rfl,h,(le74.t le89),hS,m94⟩,Nat.lt_succ_self _⟩
 intro h90 h
 refine cskip ?_
 refine (fun h=>bn (xn h)) ?_
 refine creg ?_
 obtain ⟨i100,g101,h⟩:=bI h
 refine wl (su (u_addc (et (k20 d0)) ec g101) (dt (q40 p2)) (st (wnil (xl ?_))))
 replace hS:=hS.drop (Rm.s (Rm.s (Rm.s Rm.z)))
 exact ⟨n_1,_,_,rfl,(aK6 (aI (aK1 (aO1 (aK10 (aK1 (aI (aO20 (aO2 aZ))))))))),⟨_,i100,l47,v45,cs46,rfl,h,(le74.t le89),hS,(m75.up le89)⟩,Nat.lt_succ_self _⟩
 intro h76 h
 refine cexit ?_
 refine (fun h=>xe (xe (bh h))) ?_
 refine xn (cseq ?_)
 refine cdw hS ?_; clear hS; intro w13 hS
 refine sf_start (fpi 0 [0,2,3] rfl (fr_ 1 [1,3] rfl (u_loads ti26 (et d5) (hS.blk d1).cells rfl) (q40 p4) (fpi 2 [2,3] rfl (sf1 rfl rfl rfl rfl (wn0 rfl) (s_storeA ti26 (et d3) (et (k40 d4)) rfl rfl hS d0 rfl p0 dn ?_)))))
 clear hS; intro w14 hS
 refine ⟨Mons.z,?_⟩
 refine sf_nil (xn (cret ?_))
 replace hS:=hS.bg Y2
 obtain ⟨μ4,a102,c103,e106,le105,m104,hq_⟩:=Sep.frzRow hS m75 rfl; clear hS
 subst e106; have hS:=hq_; clear hq_
 obtain rfl:=oI h
 refine retN rfl (RVs.s (.t d2) (RVs.s (.a d3 ti26 (hS.blk d0).cells rfl) RVs.z)) ?_
 replace hS:=(hS.drop Rm.z).drop Rm.z
 exact ⟨_,_,_,rfl,(le11.t (le74.t le105)),hS,m104⟩
theorem idxf_e_w (hg:Le Gm μ0) {p_1:List TEdge} {K4:Nat} {caps5:List Value} {p_2:TEdge→Option Bool} {r:Int} (m3:Sl μ0 a1 c2 p_1) (m6:FnOk prog μ0 K4 caps5 true p_2) (h:idxf_e p_1 p_2=some r) (hS:Sq μ0 w0 w (rsF)):CallsV prog 47 [.slice a1 p_1.length c2,.func (.func K4) ⟨[]⟩ ⟨caps5⟩] w (fun v w'=>∃ (μ':M) ,v=.int .i64 r∧Le μ0 μ'∧Sq μ' w0 w' (rsF)):=by
 unfold idxf_e at h
 refine enter func47 rfl (frm:=_::_::u2 (u5 (u10 []))) rfl (nz (st (ny (nz (st (wl (su (u_lensl underlying33 (et d6)) (dt p7) (st (nw (cblock ?_))))))))))
 refine cloopE (rg 4 2++rg 9 10) (by decide) (fun n m w=>∃ μx i20,m=(yK4 (yO2 4 (yK2 (.i (.int .i64 i20)::(yO10 9 [])))))∧idxf_e_l1 p_1 p_2 n i20=some r∧Le μ0 μx∧Sq μx w0 w (rsF)) (by rintro _ _ _ ⟨_,_,rfl,_⟩; rfl) _ _ (aK4 (aO2 (aK2 (aI (aO10 aZ))))) ⟨_,0,rfl,h,Le.r,hS⟩ ?_
 rintro n_1 _ t w1 ⟨μ1,i20,rfl,h,le35,hS⟩
 rcases n_1 with _|n_1
 cases h
 unfold idxf_e_l1 at h
 refine cnrm (mK4 (mO2 (mK2 (mi (mO10 mz))))) (nz (st (ny ?_)))
 refine zCd h ?_ ?_
 intro h36 h
 refine cskip (xn (cseq (cblock (nz ?_))))
 iterate 2 refine st ?_
 refine nx ?_
 iterate 3 refine st ?_
 obtain ⟨x37,g38,h⟩:=bI h
 obtain ⟨b39,o40,cs41,e42,f43,m44⟩:=SlR.elem (m3.up le35) g38
 obtain rfl:=m44
 refine wl (su (u_iax underlying33 ti37 (et (k10 d2)) (et (k10 d3)) e42) (dt (q10 p4)) (lds (f43 _ hS.a) rfl ?_))
 obtain ⟨b45,g46,h⟩:=bI h
 refine wl (s_callc m6.isfn (et (k10 d1)) (e1 (et (k10 d5)) e0) ((m6.up le35).call (cs:=[S x37.Box,S x37.From,S x37.To]) Le.r rfl g46 hS) ?_)
 rintro _ w2 ⟨μ2,rfl,le47,hS⟩; refine po ?_
 refine nw ?_
 refine zCb h ?_ ?_
 intro h48 h
 refine nz ?_
 iterate 2 refine st ?_
 refine nw (cret ?_)
 refine (fun h=>br (xr (xr (br (xr h))))) ?_
 obtain rfl:=oI h
 refine ret1 rfl d4 ?_
 exact ⟨_,rfl,(le35.t le47),hS⟩
 intro h48 h
 refine cskip ?_
 refine (fun h=>bn (xn h)) ?_
 refine creg ?_
 obtain ⟨i49,g50,h⟩:=bI h
 refine wl (su (u_addc (et d8) ec g50) (dt (q10 p8)) (st (wnil (xl ?_))))
 exact ⟨n_1,_,_,rfl,(aK4 (aO2 (aK2 (aI (aO10 aZ))))),⟨_,i49,rfl,h,(le35.t le47),hS⟩,Nat.lt_succ_self _⟩
 intro h36 h
 refine cexit ?_
 refine (fun h=>xe (xe (bh h))) ?_
 refine xn (nz (st (nw (cret ?_))))
 obtain rfl:=oI h
 refine ret1 rfl d4 ?_
 exact ⟨_,rfl,le35,hS⟩
theorem conf_e_w (hg:Le Gm μ0) {p_1:List TEdge} {K4:Nat} {caps5:List Value} {p_2:TEdge→Option Bool} {r:Bool} (m3:Sl μ0 a1 c2 p_1) (m6:FnOk prog μ0 K4 caps5 true p_2) (h:conf_e p_1 p_2=some r) (hS:Sq μ0 w0 w (rsF)):CallsV prog 28 [.slice a1 p_1.length c2,.func (.func K4) ⟨[]⟩ ⟨caps5⟩] w (fun v w'=>∃ (μ':M) ,v=.bool r∧Le μ0 μ'∧Sq μ' w0 w' (rsF)):=by
 unfold conf_e at h
 refine enter func28 rfl (frm:=_::_::u2 (u5 [])) rfl (nz (st (nx ?_)))
 iterate 2 refine st ?_
 obtain ⟨r7,g8,h⟩:=bI h
 refine ca (idxf_e_w hg m3 m6 g8 hS) ?_
 rintro _ w1 ⟨μ1,rfl,le9,hS⟩
 refine po ?_
 iterate 2 refine st ?_
 refine nw (cret ?_)
 obtain rfl:=oI h
 refine ret1 rfl d4 ?_
 exact ⟨_,rfl,le9,hS⟩
theorem idxf_s_w (hg:Le Gm μ0) {p_1:List (List UInt8)} {K4:Nat} {caps5:List Value} {p_2:(List UInt8)→Option Bool} {r:Int} (m3:Sl μ0 a1 c2 p_1) (m6:FnOk prog μ0 K4 caps5 false p_2) (h:idxf_s p_1 p_2=some r) (hS:Sq μ0 w0 w (rsF)):CallsV prog 26 [.slice a1 p_1.length c2,.func (.func K4) ⟨[]⟩ ⟨caps5⟩] w (fun v w'=>∃ (μ':M) ,v=.int .i64 r∧Le μ0 μ'∧Sq μ' w0 w' (rsF)):=by
 unfold idxf_s at h
 refine enter func26 rfl (frm:=_::_::u2 (u5 (u10 []))) rfl (nz (st (ny (nz (st (wl (su (u_lensl underlying38 (et d6)) (dt p7) (st (nw (cblock ?_))))))))))
 refine cloopE (rg 4 2++rg 9 10) (by decide) (fun n m w=>∃ μx i20,m=(yK4 (yO2 4 (yK2 (.i (.int .i64 i20)::(yO10 9 [])))))∧idxf_s_l1 p_1 p_2 n i20=some r∧Le μ0 μx∧Sq μx w0 w (rsF)) (by rintro _ _ _ ⟨_,_,rfl,_⟩; rfl) _ _ (aK4 (aO2 (aK2 (aI (aO10 aZ))))) ⟨_,0,rfl,h,Le.r,hS⟩ ?_
 rintro n_1 _ t w1 ⟨μ1,i20,rfl,h,le35,hS⟩
 rcases n_1 with _|n_1
 cases h
 unfold idxf_s_l1 at h
 refine cnrm (mK4 (mO2 (mK2 (mi (mO10 mz))))) (nz (st (ny ?_)))
 refine zCd h ?_ ?_
 intro h36 h
 refine cskip (xn (cseq (cblock (nz ?_))))
 iterate 2 refine st ?_
 refine nx ?_
 iterate 3 refine st ?_
 obtain ⟨x37,g38,h⟩:=bI h
 obtain ⟨b39,o40,cs41,e42,f43,m44⟩:=SlR.elem (m3.up le35) g38
 obtain rfl:=m44
 refine wl (su (u_iax underlying38 ti9 (et (k10 d2)) (et (k10 d3)) e42) (dt (q10 p4)) (ld ((f43 _ hS.a).one d0) ?_))
 obtain ⟨b45,g46,h⟩:=bI h
 refine wl (s_callc m6.isfn (et (k10 d1)) (e1 (et (k10 d5)) e0) ((m6.up le35).call (cs:=[S x37]) Le.r rfl g46 hS) ?_)
 rintro _ w2 ⟨μ2,rfl,le47,hS⟩; refine po ?_
 refine nw ?_
 refine zCb h ?_ ?_
 intro h48 h
 refine nz ?_
 iterate 2 refine st ?_
 refine nw (cret ?_)
 refine (fun h=>br (xr (xr (br (xr h))))) ?_
 obtain rfl:=oI h
 refine ret1 rfl d4 ?_
 exact ⟨_,rfl,(le35.t le47),hS⟩
 intro h48 h
 refine cskip ?_
 refine (fun h=>bn (xn h)) ?_
 refine creg ?_
 obtain ⟨i49,g50,h⟩:=bI h
 refine wl (su (u_addc (et d8) ec g50) (dt (q10 p8)) (st (wnil (xl ?_))))
 exact ⟨n_1,_,_,rfl,(aK4 (aO2 (aK2 (aI (aO10 aZ))))),⟨_,i49,rfl,h,(le35.t le47),hS⟩,Nat.lt_succ_self _⟩
 intro h36 h
 refine cexit ?_
 refine (fun h=>xe (xe (bh h))) ?_
 refine xn (nz (st (nw (cret ?_))))
 obtain rfl:=oI h
 refine ret1 rfl d4 ?_
 exact ⟨_,rfl,le35,hS⟩
theorem gr_o11_w (hg:Le Gm μ0) {p_1:TEdge} {p_2:List UInt8} {p_3:List (List UInt8)} {r:Bool} (m3:At μ0 b1 o2 [S p_2]) (m9:Sl μ0 a7 c8 p_3) (m6:At μ0 b4 o5 [.slice a7 p_3.length c8]) (h:gr_o11 p_1 p_2 p_3=some r) (hS:Sq μ0 w0 w (rsF)):CallsV prog 29 [.agg ⟨[S p_1.Box,S p_1.From,S p_1.To]⟩,.pointer (some ⟨b1,o2,none⟩),.pointer (some ⟨b4,o5,none⟩)] w (fun v w'=>∃ (μ':M) ,v=.bool r∧Le μ0 μ'∧Sq μ' w0 w' (rsF)):=by
 unfold gr_o11 at h
 refine enter func29 rfl (frm:=_::_::_::u2 (u10 [])) rfl (nz ?_)
 refine wl (s_box (et d0) rfl hS ?_); clear hS; intro b10 w1 hb11 hS; refine po ?_
 refine st (nx (st (ld ((hS.blk d0).cell d2) (ld ((m3 _ hS.a).one d0) (wl (su (u_eqs (et d6) (et d7)) (dt p8) (st ?_)))))))
 refine zWd 9 h ?_ ?_
 intro h12 h
 refine wy rfl d9 (s_load ti38 (et d2) ((m6 _ hS.a).one d0) (dt (q10 p0)) (sy rfl (wy rfl d9 (s_load ti9 (et (k10 d1)) ((hS.blk d0).cell d1) (dt (q10 p2)) ?_))))
 refine wy rfl d9 (s_callv isfn19 ef (e1 (et (k10 d0)) (e1 (et (k10 d2)) e0)) (contains_s_c (l:=p_3) (cells_sl str1 rfl m9 hS.a)) ?_); rintro _ w2 ⟨rfl,hw_⟩; replace hS:=hw_ ▸ hS; clear hw_; refine po ?_
 iterate 2 refine st ?_
 refine nw (cret ?_)
 obtain rfl:=oI h
 refine ret1 rfl d4 ?_
 replace hS:=hS.drop Rm.z
 exact ⟨_,rfl,Le.r,hS⟩
 intro h12 h
 refine sn rfl rfl (sn rfl rfl (sn rfl rfl (sn rfl rfl ?_)))
 iterate 2 refine st ?_
 refine nw (cret ?_)
 obtain rfl:=oI h
 refine ret1 rfl d4 ?_
 replace hS:=hS.drop Rm.z
 exact ⟨_,rfl,Le.r,hS⟩
theorem gr_o1_w (hg:Le Gm μ0) {p_1:List UInt8} {p_2:List TEdge} {p_3:List (List UInt8)} {r:Bool} (m6:Sl μ0 a4 c5 p_2) (m3:At μ0 b1 o2 [.slice a4 p_2.length c5]) (m12:Sl μ0 a10 c11 p_3) (m9:At μ0 b7 o8 [.slice a10 p_3.length c11]) (h:gr_o1 p_1 p_2 p_3=some r) (hS:Sq μ0 w0 w (rsF)):CallsV prog 27 [S p_1,.pointer (some ⟨b1,o2,none⟩),.pointer (some ⟨b7,o8,none⟩)] w (fun v w'=>∃ (μ':M) ,v=.bool r∧Le μ0 μ'∧Sq μ' w0 w' (rsF)):=by
 unfold gr_o1 at h
 refine enter func27 rfl (frm:=_::_::_::u1 (u5 [])) rfl (nz ?_)
 refine wl (s_box (et d0) rfl hS ?_); clear hS; intro b13 w1 hb14 hS; refine po ?_
 refine st (nx (ld ((m3 _ hS.a).one d0) ?_))
 obtain ⟨μ1,le16,m15,hS⟩:=Sep.frzAt hS
 refine wl (su (u_mkfn e0 (e1 (et d3) (e1 (et d2) e0))) (dt p6) ?_)
 obtain ⟨r17,g18,h⟩:=bI h
 refine wl (s_callv isfn28 ef (e1 (et d5) (e1 (et d6) e0)) (conf_e_w (hg.t le16) (m6.up le16) (⟨isfn29,fun hle_ hm_ g_ hS_=>by obtain rfl:=hm_; exact gr_o11_w ((hg.t le16).t hle_) (m15.up hle_) ((m12.up le16).up hle_) ((m9.up le16).up hle_) g_ hS_⟩) g18 hS) ?_)
 rintro _ w2 ⟨μ2,rfl,le19,hS⟩
 refine po ?_
 iterate 2 refine st ?_
 refine nw (cret ?_)
 obtain rfl:=oI h
 refine ret1 rfl d4 ?_
 exact ⟨_,rfl,(le16.t le19),hS⟩
theorem gr_order_w (hg:Le Gm μ0) {p_1:List TDef} {r:List (List UInt8)×List (List UInt8)×TFault} (m3:Sl μ0 a1 c2 p_1) (h:gr_order fu p_1=some r) (hS:Sq μ0 w0 w (rsF)):CallsV prog 11 [.slice a1 p_1.length c2] w (fun v w'=>∃ (μ':M) (a4:Option Addr) (c5:Nat) (a7:Option Addr) (c8:Nat),v=.tuple ⟨[.slice a4 r.1.length c5,.slice a7 r.2.1.length c8,.agg ⟨[.int .i64 r.2.2.Err,.int .i64 r.2.2.At]⟩]⟩∧Le μ0 μ'∧Sq μ' w0 w' (rsF)∧Sl μ' a4 c5 r.1∧Sl μ' a7 c8 r.2.1):=by
 unfold gr_order at h
 refine enter func11 rfl (frm:=_::u2 (u5 (u10 (u20 [])))) rfl (nz (st ?_))
 refine wl (s_alloc ti38 hS ?_); clear hS; intro b10 w1 hb11 hS; refine po ?_
 refine wl (s_alloc ti26 hS ?_); clear hS; intro b12 w2 hb13 hS; refine po ?_
 refine nx (st ?_)
 obtain ⟨r14,g15,h⟩:=bI h
 refine ca (gr_edges_w hg m3 g15 hS) ?_
 rintro _ w3 ⟨μ1,a17,c18,rfl,le16,hS,m19⟩
 refine po ?_
 iterate 3 refine st ?_
 refine wl (s_alloc ti33 hS ?_); clear hS; intro b20 w4 hb21 hS; refine po ?_
 refine wl (s_store1 ti33 (et d5) (et (k10 d0)) rfl hS d0 p0 rfl p0 dn ?_)
 clear hS; intro w5 hS
 refine wl (s_storeA ti26 (et d4) (et (k10 d1)) rfl rfl hS d1 rfl p1 dn ?_)
 clear hS; intro w6 hS
 refine ny (nz (st (ld ((hS.blk d1).cell d0) (st (nw ?_)))))
 refine zCd h ?_ ?_
 intro h22 h
 refine cseq ?_
 refine ccutE ([15]) (by decide) (fun m w=>∃ (μx:M) ,m=(yK2 (.i (.slice none 0 0)::(yK10 (yK2 (yO1 15 [])))))∧gr_order_j1 r14 =some r∧Le μ1 μx∧Sq μx w0 w (.blk b10 38 [.slice none 0 0]::.blk b12 26 [.int .i64 r14.2.Err,.int .i64 r14.2.At]::rsF)) (by rintro _ _ ⟨_,rfl,_⟩; rfl) ?_ ?_
 refine cdw hS ?_; clear hS; intro w7 hS
 refine sf_start (fr_ 0 [0,3] rfl (u_loads ti26 (et d4) (hS.blk d1).cells rfl) (q10 p5) (fpi 1 [1,2,3] rfl (sf1 rfl rfl rfl rfl (wn0 rfl) (s_store1 ti38 (et d3) ec rfl hS d2 p0 rfl p2 dn ?_))))
 clear hS; intro w8 hS
 refine ⟨(Mons.s (u_loads ti26 (et d4) (hS.blk d1).cells rfl) Mons.z),?_⟩
 refine sf1 rfl rfl rfl rfl (wn0 rfl) (s_storeA ti26 (et d4) (et (k10 d5)) rfl rfl hS d1 rfl p1 dn ?_)
 clear hS; intro w9 hS
 refine ⟨Mons.z,?_⟩
 refine sf_nil (xl ?_)
 replace hS:=(hS.drop Rm.z).bg Y1
 exact ⟨_,_,rfl,(aK2 (aI (aK10 (aK2 (aO1 aZ))))),_,rfl,h,Le.r,hS⟩
 rintro _ t w10 ⟨μ2,rfl,h,le23,hS⟩
 unfold gr_order_j1 at h
 refine nrm (mK2 (mi (mK10 (mK2 (mO1 mz))))) (xn (cret (xr ?_)))
 obtain rfl:=oI h
 refine retN rfl (RVs.s (.t d2) (RVs.s (.c d3 ti38 ((hS.blk d0).cell d0)) (RVs.s (.a d4 ti26 (hS.blk d1).cells rfl) RVs.z))) ?_
 replace hS:=(hS.drop Rm.z).drop Rm.z
 exact ⟨_,none,0,none,0,rfl,(le16.t le23),hS,Sl.nil,Sl.nil⟩
 intro h22 h
 refine cskip (xn (nz (st ?_)))
 obtain ⟨r24,g25,h⟩:=bI h
 refine ca (gr_names_w (hg.t le16) (m3.up le16) g25 hS) ?_
 rintro rv_ w11 ⟨μ3,v27,cs28,hrv_,le26,hS,m29⟩; obtain rfl:=hrv_.symm
 refine po (wl (s_store1 ti38 (et d3) (et (k10 d7)) (hS.get d0).cellV hS d3 p0 rfl p3 dn ?_))
 clear hS; intro w12 hS
 refine nw (cblock ?_)
 replace hS:=hS.nilRow 9 (Mo.sz (List UInt8))
 replace hS:=(((hS.bg Y1).bg Y2).bg Y3).bg Y4
 refine cloopE ([6]++rg 18 20) (by decide +kernel) (fun n m w=>∃ μx l74 v72 cs73 l78 v76 cs77,m=(yK2 (.i (v76)::(yK3 (yO1 6 (yK10 (yK1 (yO20 18 [])))))))∧gr_order_l1 r14 n l74 l78=some r∧Le μ3 μx∧Sq μx w0 w (.blk b10 38 [v72]::.blk b12 26 [.int .i64 r14.2.Err,.int .i64 r14.2.At]::.blk b20 33 [.slice a17 r14.1.length c18]::.row v72 9 1 l74.length cs73::.row v76 9 1 l78.length cs77::rsF)∧Rw μx cs73 l74∧Rw μx cs77 l78) (by rintro _ _ _ ⟨_,_,_,_,_,_,_,rfl,_⟩; rfl) _ _ (aK2 (aI (aK3 (aO1 (aK10 (aK1 (aO20 aZ))))))) ⟨_,r24,v27,cs28,[],(.slice none 0 0),[],rfl,h,Le.r,hS,m29,Rw.nil⟩ ?_
 rintro n_1 _ t w13 ⟨μ4,l74,v72,cs73,l78,v76,cs77,rfl,h,le120,hS,m121,m122⟩
 rcases n_1 with _|n_1
 cases h
 unfold gr_order_l1 at h
 refine cnrm (mK2 (mi (mK3 (mO1 (mK10 (mK1 (mO20 mz))))))) (cblock (nz (ld ((hS.blk d0).cell d0) (wl (su (u_mkfn e0 (e1 (et d5) (e1 (et d3) e0))) (dt (q10 p9)) ?_)))))
 obtain ⟨r133,g134,h⟩:=bI h
 obtain ⟨a123,c124,rfl⟩:=Row.shape (hS.get d3)
 obtain ⟨μ5,le125,hB126,hO127⟩:=Sep.borrow hS
 have m130:=Row.rd (α:=List UInt8) hO127 le125 (hS.get d3) m121
 have f131:=Blk.rd hO127 (hS.blk d2)
 have f132:=Blk.rd hO127 (hS.blk d0)
 refine wl (s_callv isfn26 ef (e1 (et (k10 d8)) (e1 (et (k10 d9)) e0)) (idxf_s_w (hg.t (le16.t (le26.t (le120.t le125)))) m130 (⟨isfn27,fun hle_ hm_ g_ hS_=>by obtain rfl:=hm_; exact gr_o1_w ((hg.t (le16.t (le26.t (le120.t le125)))).t hle_) ((m19.up (le26.t (le120.t le125))).up hle_) (f131.up hle_) (m130.up hle_) (f132.up hle_) g_ hS_⟩) g134 hB126) ?_)
 rintro _ w14 ⟨_,rfl,le128,hB129⟩; replace hS:=Sep.back hS hO127 le128 hB129; refine po ?_
 refine st (ny (nz ?_))
 iterate 2 refine st ?_
 refine nw ?_
 refine zCd h ?_ ?_
 intro h135 h
 refine cseq ?_
 refine ccutE (rg 23 3) (by decide) (fun m w=>∃ (μx:M) ,m=(yK2 (.i (v76)::(yK20 (yO3 23 []))))∧gr_order_j2 r14 l74 l78 =some r∧Le μ4 μx∧Sq μx w0 w (.blk b10 38 [(.slice a123 l74.length c124)]::.blk b12 26 [.int .i64 r14.2.Err,.int .i64 r14.2.At]::.row (.slice a123 l74.length c124) 9 1 l74.length cs73::.row v76 9 1 l78.length cs77::rsF)) (by rintro _ _ ⟨_,rfl,_⟩; rfl) ?_ ?_
 refine cdw hS ?_; clear hS; intro w15 hS
 refine sf_start (fpi 0 [0,3,4,5] rfl (fr_ 1 [1,4,5] rfl (u_load ti38 (et d3) ((hS.blk d0).cell d0)) (q20 p4) (fr_ 2 [2,5] rfl (u_loads ti26 (et d4) (hS.blk d1).cells rfl) (q20 p5) (fpi 3 [3,4,5] rfl (sf1 rfl rfl rfl rfl (wn0 rfl) (s_store1 ti38 (et d3) (et (k20 d4)) rfl hS d0 p0 rfl p0 dn ?_))))))
 clear hS; intro w16 hS
 refine ⟨(Mons.s (u_loads ti26 (et d4) (hS.blk d1).cells rfl) Mons.z),?_⟩
 refine sf1 rfl rfl rfl rfl (wn0 rfl) (s_storeA ti26 (et d4) (et (k20 d5)) rfl rfl hS d1 rfl p1 dn ?_)
 clear hS; intro w17 hS
 refine ⟨Mons.z,?_⟩
 refine sf_nil (xl ?_)
 replace hS:=hS.drop (Rm.s (Rm.s Rm.z))
 exact ⟨_,_,rfl,(aK2 (aI (aK20 (aO3 aZ)))),_,rfl,h,Le.r,hS⟩
 rintro _ t w18 ⟨μ6,rfl,h,le136,hS⟩
 unfold gr_order_j2 at h
 refine nrm (mK2 (mi (mK20 (mO3 mz)))) (xn (cret ?_))
 refine (fun h=>xr (br (xr (br h)))) ?_
 replace hS:=hS.bg Y3
 obtain ⟨μ7,a137,c138,e141,le140,m139,hq_⟩:=Sep.frzRow hS (m122.up le136) rfl; clear hS
 subst e141; have hS:=hq_; clear hq_
 replace hS:=hS.bg Y2
 obtain ⟨μ8,a142,c143,e146,le145,m144,hq_⟩:=Sep.frzRow hS (m121.up (le136.t le140)) rfl; clear hS
 obtain ⟨rfl,-,rfl⟩:=Value.slice.inj e146; have hS:=hq_; clear hq_
 obtain rfl:=oI h
 refine retN rfl (RVs.s (.t d2) (RVs.s (.c d3 ti38 ((hS.blk d0).cell d0)) (RVs.s (.a d4 ti26 (hS.blk d1).cells rfl) RVs.z))) ?_
 replace hS:=(hS.drop Rm.z).drop Rm.z
 exact ⟨_,_,_,_,_,rfl,(le16.t (le26.t (le120.t (le136.t (le140.t le145))))),hS,(m139.up le145),m144⟩
 intro h135 h
 refine cskip (xn (nz (st (ld ((hS.blk d0).cell d0) (st ?_)))))
 obtain ⟨x147,g148,h⟩:=bI h
 obtain ⟨b149,o150,pc151,cs152,sc153,ec154,e155,f156,m157,pn158,st159,m160⟩:=Row.elemS (α:=List UInt8) (hS.get d3) m121 rfl g148
 rw [ec154] at hS
 obtain rfl:=m157
 refine wl (su (u_iax underlying38 ti9 (et (k20 d7)) (et (k20 d8)) e155) (dt (q20 p9)) (ld ((f156 _ _ _ (hS.get d3) rfl).one d0) ?_))
 refine wl (s_bsl underlying38 ti9 (Parts.s (et (k30 d0)) rfl Parts.z) rfl rfl hS ?_); clear hS; intro b161 w19 hb162 hS; refine po ?_
 obtain ⟨l165,g166,h⟩:=bI h
 have m167:Rw μ4 [S x147] [x147]:=(Rw.one (α:=List UInt8) rfl)
 have m164:=Rw.app m122 m167 g166
 refine wl (s_app1 underlying38 ti9 rfl (et (k20 d6)) (et (k30 d1)) hS d5 (hS.blk d0).cells m167 rfl g166 (by decide) ?_); clear hS; intro v163 w20 rs_ hp_ hS; cases (show _=rs_ from hp_)
 replace hS:=Sep.reput hS p5; refine po ?_
 replace hS:=hS.drop Rm.z
 refine st (nw (creg (ld ((hS.blk d0).cell d0) ?_)))
 iterate 2 refine st ?_
 obtain ⟨i168,g169,h⟩:=bI h
 refine wl (su (u_addc (et (k30 d5)) ec g169) (dt (q30 p6)) ?_)
 obtain ⟨l170,g171,h⟩:=bI h
 replace hS:=hS.bg Y3
 refine wl (s_callv isfn30 ef (e1 (et (k30 d3)) (e1 (et (k30 d4)) (e1 (et (k30 d6)) e0))) (del_s_w m160 g171 hS) ?_); clear hS; rintro v172 w21 ⟨cs173,m174,hS⟩; refine po ?_
 refine wl (s_store1 ti38 (et d3) (et (k30 d7)) (hS.get d0).cellV hS d1 p0 rfl p1 dn ?_)
 clear hS; intro w22 hS
 refine wnil ?_
 refine (fun h=>bn (xl h)) ?_
 replace hS:=((((hS.bg Y4).bg Y1).bg Y4).bg Y4).bg Y4
 exact ⟨n_1,_,_,rfl,(aK2 (aI (aK3 (aO1 (aK10 (aK1 (aO20 aZ))))))),⟨_,l170,v172,cs173,l165,v163,(cs77++[S x147]),rfl,h,le120,hS,m174,m164⟩,Nat.lt_succ_self _⟩
end Go.Proofs.Yteiemedhecjgiaa
set_option maxRecDepth 100000
set_option maxHeartbeats 20000000
namespace Go.Proofs.Yteiemedhecjgiaa
open Go.Wk Go.Xt Go.Y Try
variable {c2 c5 fu:Nat} {a1 a4:Option Addr} {μ0:M} {w0 w:World} {rsF:List Res}
theorem r15_edges_w (hg:Le Gm μ0) {p_1:List TDef} {r:List TEdge×TFault} (m3:Sl μ0 a1 c2 p_1) (h:r15_edges fu p_1=some r) (hS:Sq μ0 w0 w (rsF)):CallsV prog 10 [.slice a1 p_1.length c2] w (fun v w'=>∃ (μ':M) (a4:Option Addr) (c5:Nat),v=.tuple ⟨[.slice a4 r.1.length c5,.agg ⟨[.int .i64 r.2.Err,.int .i64 r.2.At]⟩]⟩∧Le μ0 μ'∧Sq μ' w0 w' (rsF)∧Sl μ' a4 c5 r.1):=by
 unfold r15_edges at h
 refine enter func10 rfl (frm:=_::u1 (u5 (u20 (u20 [])))) rfl (nz (st ?_))
 refine wl (s_alloc ti26 hS ?_); clear hS; intro b7 w1 hb8 hS; refine po ?_
 refine nx (st ?_)
 obtain ⟨r9,g10,h⟩:=bI h
 refine ca (r3_owners_w hg m3 g10 hS) ?_
 rintro _ w2 ⟨μ1,a12,c13,rfl,le11,hS,m14⟩
 refine po ?_
 iterate 3 refine st ?_
 refine wl (s_alloc ti26 hS ?_); clear hS; intro b15 w3 hb16 hS; refine po ?_
 refine st (wl (s_storeA ti26 (et d5) (et (k10 d3)) rfl rfl hS d0 rfl p0 dn ?_))
 clear hS; intro w4 hS
 refine ny (nz (st (ld ((hS.blk d0).cell d0) (st (nw ?_)))))
 refine zCd h ?_ ?_
 intro h17 h
 refine cseq ?_
 refine cdw hS ?_; clear hS; intro w5 hS
 refine sf_start (fr_ 0 [0,2] rfl (u_loads ti26 (et d5) (hS.blk d0).cells rfl) (q10 p7) (fpi 1 [1,2] rfl (sf1 rfl rfl rfl rfl (wn0 rfl) (s_storeA ti26 (et d3) (et (k10 d7)) rfl rfl hS d1 rfl p1 dn ?_))))
 clear hS; intro w6 hS
 refine ⟨Mons.z,?_⟩
 refine sf_nil (xn (cret (xr ?_)))
 obtain rfl:=oI h
 refine retN rfl (RVs.s (.t d2) (RVs.s (.a d3 ti26 (hS.blk d1).cells rfl) RVs.z)) ?_
 replace hS:=(hS.drop Rm.z).drop Rm.z
 exact ⟨_,none,0,rfl,le11,hS,Sl.nil⟩
 intro h17 h
 refine cskip (xn (nz (st (ny (nz (st (wl (su (u_lensl underlying23 (et (k10 d8))) (dt (q10 p9)) (st (nw (cblock ?_)))))))))))
 replace hS:=hS.nilRow 37 (Mo.sz TEdge)
 replace hS:=(hS.bg Y1).bg Y2
 refine cloopE ([8]++rg 21 24) (by decide +kernel) (fun n m w=>∃ μx i44 l47 v45 cs46,m=(yK6 (.i (v45)::(yK1 (yO1 8 (yK10 (yK1 (.i (.int .i64 i44)::(yO20 21 (yO4 41 [])))))))))∧r15_edges_l1 r9 n i44 l47=some r∧Le μ1 μx∧Sq μx w0 w (.blk b7 26 [.int .i64 0,.int .i64 0]::.blk b15 26 [.int .i64 r9.2.Err,.int .i64 r9.2.At]::.row v45 37 3 l47.length cs46::rsF)∧Rw μx cs46 l47) (by rintro _ _ _ ⟨_,_,_,_,_,rfl,_⟩; rfl) _ _ (aK6 (aI (aK1 (aO1 (aK10 (aK1 (aI (aO20 (aO4 aZ))))))))) ⟨_,0,[],(.slice none 0 0),[],rfl,h,Le.r,hS,Rw.nil⟩ ?_
 rintro n_1 _ t w7 ⟨μ2,i44,l47,v45,cs46,rfl,h,le74,hS,m75⟩
 rcases n_1 with _|n_1
 cases h
 unfold r15_edges_l1 at h
 refine cnrm (mK6 (mi (mK1 (mO1 (mK10 (mK1 (mi (mO20 (mO4 mz))))))))) (nz (st (ny ?_)))
 refine zCd h ?_ ?_
 intro h76 h
 refine cskip (xn (cseq (cblock (nz ?_))))
 obtain ⟨x77,g78,h⟩:=bI h
 obtain ⟨b79,o80,cs81,e82,f83,m84⟩:=SlR.elem (m14.up le74) g78
 obtain rfl:=m84
 refine wl (su (u_iax underlying23 ti31 (et (k10 d8)) (et (k20 d0)) e82) (dt (q20 p2)) (lds (f83 _ hS.a) rfl ?_))
 refine wl (s_alloc ti31 hS ?_); clear hS; intro b85 w8 hb86 hS; refine po ?_
 refine wl (s_storeA ti31 (et d8) (et (k20 d3)) rfl rfl hS d0 rfl p0 dn ?_)
 clear hS; intro w9 hS
 refine ny ?_
 refine ccutE (rg 24 9) (by decide) (fun m w=>∃ μx b87,m=(yK20 (yK4 (yO9 24 (.i (.bool b87)::[]))))∧r15_edges_j1 i44 l47 x77 (r15_edges_l1 r9 n_1) b87=some r∧Le μ2 μx∧Sq μx w0 w (.blk b7 26 [.int .i64 0,.int .i64 0]::.blk b15 26 [.int .i64 r9.2.Err,.int .i64 r9.2.At]::.row v45 37 3 l47.length cs46::.blk b85 31 [S x77.Box,S x77.Writer,S x77.Reader]::rsF)) (by rintro _ _ ⟨_,_,rfl,_⟩; rfl) ?_ ?_
 refine creg (st (ld ((hS.blk d0).cell d1) (wl (su (u_lens underlying9 (et (k20 d5))) (dt (q20 p6)) ?_))))
 iterate 2 refine st ?_
 refine zWd 28 h ?_ ?_
 intro h88 h
 refine sy rfl (wy rfl (k20 d8) (s_load ti9 (et (k20 d9)) ((hS.blk d0).cell d2) (dt (q30 p0)) (wy rfl (k20 d8) (su (u_lens underlying9 (et (k30 d0))) (dt (q30 p1)) (sy rfl (st (wnil (xl ?_))))))))
 replace hS:=((hS.bg Y3).bg Y3).bg Y3
 exact ⟨_,_,rfl,(aK20 (aK4 (aO9 (aI aZ)))),_,(decide ((0:Int)<(x77.Reader.length:Int))),rfl,h,Le.r,hS⟩
 intro h88 h
 refine sn rfl rfl (sn rfl rfl (sn rfl rfl (sn rfl rfl (st (wnil (xl ?_))))))
 replace hS:=((hS.bg Y3).bg Y3).bg Y3
 exact ⟨_,_,rfl,(aK20 (aK4 (aO9 (aI aZ)))),_,false,rfl,h,Le.r,hS⟩
 rintro _ t w10 ⟨μ3,b87,rfl,h,le89,hS⟩
 unfold r15_edges_j1 at h
 refine nrm (mK20 (mK4 (mO9 (mi mz)))) (xn ?_)
 refine zCb h ?_ ?_
 intro h90 h
 refine creg ?_
 iterate 2 refine st ?_
 refine ld ((hS.blk d3).cell d0) (st (ld ((hS.blk d3).cell d1) (st (ld ((hS.blk d3).cell d2) (wl (s_build ti37 pl37 (Fl.o rfl (et (k30 d6)) rfl rfl p0 (Fl.o rfl (et (k30 d8)) rfl rfl p1 (Fl.o rfl (et (k40 d0)) rfl rfl p2 Fl.z))) (dt (q40 p1)) ?_))))))
 refine wl (s_bsl1 underlying33 ti37 rfl (et (k40 d1)) rfl hS ?_); clear hS; intro b91 w11 hb92 hS; refine po ?_
 obtain ⟨l95,g96,h⟩:=bI h
 have m97:Rw μ3 [S x77.Box,S x77.Writer,S x77.Reader] [(TEdge.mk x77.Box x77.Writer x77.Reader)]:=(Rw.one (α:=TEdge) rfl)
 have m94:=Rw.app (m75.up le89) m97 g96
 refine wl (s_app1 underlying33 ti37 rfl (et (k30 d4)) (et (k40 d2)) hS d3 (hS.blk d0).cells m97 rfl g96 (by decide) ?_); clear hS; intro v93 w12 rs_ hp_ hS; cases (show _=rs_ from hp_)
 replace hS:=Sep.reput hS p3; refine po ?_
 replace hS:=hS.drop Rm.z
 refine st (wnil ?_)
 refine (fun h=>bn (xn h)) ?_
 refine creg ?_
 obtain ⟨i98,g99,h⟩:=bI h
 refine wl (su (u_addc (et (k20 d0)) ec g99) (dt (q40 p4)) (st (wnil (xl ?_))))
 replace hS:=hS.drop (Rm.s (Rm.s (Rm.s Rm.z)))
 exact ⟨n_1,_,_,rfl,(aK6 (aI (aK1 (aO1 (aK10 (aK1 (aI (aO20 (aO4 aZ))))))))),⟨_,i98,l95,v93,(cs46++[S x77.Box,S x77.Writer,S x77.Reader]),rfl,h,(le74.t le89),hS,m94⟩,Nat.lt_succ_self _⟩
 intro h90 h
 refine cskip ?_
 refine (fun h=>bn (xn h)) ?_
 refine creg ?_
 obtain ⟨i100,g101,h⟩:=bI h
 refine wl (su (u_addc (et (k20 d0)) ec g101) (dt (q40 p4)) (st (wnil (xl ?_))))
 replace hS:=hS.drop (Rm.s (Rm.s (Rm.s Rm.z)))
 exact ⟨n_1,_,_,rfl,(aK6 (aI (aK1 (aO1 (aK10 (aK1 (aI (aO20 (aO4 aZ))))))))),⟨_,i100,l47,v45,cs46,rfl,h,(le74.t le89),hS,(m75.up le89)⟩,Nat.lt_succ_self _⟩
 intro h76 h
 refine cexit ?_
 refine (fun h=>xe (xe (bh h))) ?_
 refine xn (cseq ?_)
 refine cdw hS ?_; clear hS; intro w13 hS
 refine sf_start (fpi 0 [0,2,3] rfl (fr_ 1 [1,3] rfl (u_loads ti26 (et d5) (hS.blk d1).cells rfl) (q40 p6) (fpi 2 [2,3] rfl (sf1 rfl rfl rfl rfl (wn0 rfl) (s_storeA ti26 (et d3) (et (k40 d6)) rfl rfl hS d0 rfl p0 dn ?_)))))
 clear hS; intro w14 hS
 refine ⟨Mons.z,?_⟩
 refine sf_nil (xn (cret ?_))
 replace hS:=hS.bg Y2
 obtain ⟨μ4,a102,c103,e106,le105,m104,hq_⟩:=Sep.frzRow hS m75 rfl; clear hS
 subst e106; have hS:=hq_; clear hq_
 obtain rfl:=oI h
 refine retN rfl (RVs.s (.t d2) (RVs.s (.a d3 ti26 (hS.blk d0).cells rfl) RVs.z)) ?_
 replace hS:=(hS.drop Rm.z).drop Rm.z
 exact ⟨_,_,_,rfl,(le11.t (le74.t le105)),hS,m104⟩
theorem r15_has_w (hg:Le Gm μ0) {p_1:List (List UInt8)} {p_2:List UInt8} {r:Bool} (m3:Sl μ0 a1 c2 p_1) (h:r15_has p_1 p_2=some r) (hS:Sq μ0 w0 w (rsF)):CallsV prog 31 [.slice a1 p_1.length c2,S p_2] w (fun v w'=>∃ (μ':M) ,v=.bool r∧Le μ0 μ'∧Sq μ' w0 w' (rsF)):=by
 unfold r15_has at h
 refine enter func31 rfl (frm:=_::_::u5 (u10 [])) rfl (nz (st (ny (nz (st (wl (su (u_lensl underlying38 (et d7)) (dt p8) (st (nw (cblock ?_))))))))))
 refine cloopE ([4]++[6]++rg 10 7) (by decide) (fun n m w=>∃ μx i14,m=(yK4 (yO1 4 (yK1 (yO1 6 (yK2 (.i (.int .i64 i14)::(yO7 10 [])))))))∧r15_has_l1 p_1 p_2 n i14=some r∧Le μ0 μx∧Sq μx w0 w (rsF)) (by rintro _ _ _ ⟨_,_,rfl,_⟩; rfl) _ _ (aK4 (aO1 (aK1 (aO1 (aK2 (aI (aO7 aZ))))))) ⟨_,0,rfl,h,Le.r,hS⟩ ?_
 rintro n_1 _ t w1 ⟨μ1,i14,rfl,h,le25,hS⟩
 rcases n_1 with _|n_1
 cases h
 unfold r15_has_l1 at h
 refine cnrm (mK4 (mO1 (mK1 (mO1 (mK2 (mi (mO7 mz))))))) (nz (st (ny ?_)))
 refine zCd h ?_ ?_
 intro h26 h
 refine cskip (xn (cseq (cblock (nz ?_))))
 obtain ⟨x27,g28,h⟩:=bI h
 obtain ⟨b29,o30,cs31,e32,f33,m34⟩:=SlR.elem (m3.up le25) g28
 obtain rfl:=m34
 refine wl (su (u_iax underlying38 ti9 (et d7) (et d9) e32) (dt (q10 p1)) (ld ((f33 _ hS.a).one d0) (st (nx ?_))))
 iterate 2 refine st ?_
 refine wl (su (u_eqs (et (k10 d3)) (et (k10 d4))) (dt (q10 p5)) (nw ?_))
 refine zCd h ?_ ?_
 intro h35 h
 refine nz (st (nw (cret ?_)))
 refine (fun h=>br (xr (xr (br (xr h))))) ?_
 obtain rfl:=oI h
 refine ret1 rfl d4 ?_
 exact ⟨_,rfl,le25,hS⟩
 intro h35 h
 refine cskip ?_
 refine (fun h=>bn (xn h)) ?_
 refine creg ?_
 obtain ⟨i36,g37,h⟩:=bI h
 refine wl (su (u_addc (et d9) ec g37) (dt (q10 p6)) (st (wnil (xl ?_))))
 exact ⟨n_1,_,_,rfl,(aK4 (aO1 (aK1 (aO1 (aK2 (aI (aO7 aZ))))))),⟨_,i36,rfl,h,le25,hS⟩,Nat.lt_succ_self _⟩
 intro h26 h
 refine cexit ?_
 refine (fun h=>xe (xe (bh h))) ?_
 refine xn (nz (st (nw (cret ?_))))
 obtain rfl:=oI h
 refine ret1 rfl d4 ?_
 exact ⟨_,rfl,le25,hS⟩
theorem r15_order_w (hg:Le Gm μ0) {p_1:List TDef} {r:List (List UInt8)×List (List UInt8)×TFault} (m3:Sl μ0 a1 c2 p_1) (h:r15_order fu p_1=some r) (hS:Sq μ0 w0 w (rsF)):CallsV prog 12 [.slice a1 p_1.length c2] w (fun v w'=>∃ (μ':M) (a4:Option Addr) (c5:Nat) (a7:Option Addr) (c8:Nat),v=.tuple ⟨[.slice a4 r.1.length c5,.slice a7 r.2.1.length c8,.agg ⟨[.int .i64 r.2.2.Err,.int .i64 r.2.2.At]⟩]⟩∧Le μ0 μ'∧Sq μ' w0 w' (rsF)∧Sl μ' a4 c5 r.1∧Sl μ' a7 c8 r.2.1):=by
 unfold r15_order at h
 refine enter func12 rfl (frm:=_::u2 (u5 (u20 (u50 [])))) rfl (nz ?_)
 iterate 2 refine st ?_
 refine wl (s_alloc ti26 hS ?_); clear hS; intro b10 w1 hb11 hS; refine po ?_
 refine nx (st ?_)
 obtain ⟨r12,g13,h⟩:=bI h
 refine ca (r15_edges_w hg m3 g13 hS) ?_
 rintro _ w2 ⟨μ1,a15,c16,rfl,le14,hS,m17⟩
 refine po ?_
 iterate 3 refine st ?_
 refine wl (s_alloc ti26 hS ?_); clear hS; intro b18 w3 hb19 hS; refine po ?_
 refine st (wl (s_storeA ti26 (et d6) (et (k10 d9)) rfl rfl hS d0 rfl p0 dn ?_))
 clear hS; intro w4 hS
 refine ny (nz (st (ld ((hS.blk d0).cell d0) (st (nw ?_)))))
 refine zCd h ?_ ?_
 intro h20 h
 refine cseq ?_
 refine cdw hS ?_; clear hS; intro w5 hS
 refine sf_start (fr_ 0 [0,3] rfl (u_loads ti26 (et d6) (hS.blk d0).cells rfl) (q20 p3) (fpi 1 [1,2,3] rfl (fpi 2 [2,3] rfl (sf1 rfl rfl rfl rfl (wn0 rfl) (s_storeA ti26 (et d4) (et (k20 d3)) rfl rfl hS d1 rfl p1 dn ?_)))))
 clear hS; intro w6 hS
 refine ⟨Mons.z,?_⟩
 refine sf_nil (xn (cret (xr ?_)))
 obtain rfl:=oI h
 refine retN rfl (RVs.s (.t d2) (RVs.s (.t d3) (RVs.s (.a d4 ti26 (hS.blk d1).cells rfl) RVs.z))) ?_
 replace hS:=(hS.drop Rm.z).drop Rm.z
 exact ⟨_,none,0,none,0,rfl,le14,hS,Sl.nil,Sl.nil⟩
 intro h20 h
 refine cskip (xn (nz ?_))
 iterate 2 refine st ?_
 refine ny (nz (st (nw (cblock ?_))))
 replace hS:=hS.nilRow 9 (Mo.sz (List UInt8))
 replace hS:=hS.nilRow 9 (Mo.sz (List UInt8))
 replace hS:=((hS.bg Y1).bg Y2).bg Y3
 refine cloopE (rg 11 2++[14]++rg 24 51) (by decide +kernel) (fun n m w=>∃ μx b412 l415 v413 cs414 l419 v417 cs418,m=(yK7 (.i (v413)::(.i (v417)::(.i (.bool b412)::(yK1 (yO2 11 (yK1 (yO1 14 (yK9 (yO50 24 (yO1 74 [])))))))))))∧r15_order_l1 p_1 r12 n b412 l415 l419=some r∧Le μ1 μx∧Sq μx w0 w (.blk b10 26 [.int .i64 0,.int .i64 0]::.blk b18 26 [.int .i64 r12.2.Err,.int .i64 r12.2.At]::.row v413 9 1 l415.length cs414::.row v417 9 1 l419.length cs418::rsF)∧Rw μx cs414 l415∧Rw μx cs418 l419) (by rintro _ _ _ ⟨_,_,_,_,_,_,_,_,rfl,_⟩; rfl) _ _ (aK7 (aI (aI (aI (aK1 (aO2 (aK1 (aO1 (aK9 (aO50 (aO1 aZ))))))))))) ⟨_,true,[],(.slice none 0 0),[],[],(.slice none 0 0),[],rfl,h,Le.r,hS,Rw.nil,Rw.nil⟩ ?_
 rintro n_1 _ t w7 ⟨μ2,b412,l415,v413,cs414,l419,v417,cs418,rfl,h,le823,hS,m824,m825⟩
 rcases n_1 with _|n_1
 cases h
 unfold r15_order_l1 at h
 refine cnrm (mK7 (mi (mi (mi (mK1 (mO2 (mK1 (mO1 (mK9 (mO50 (mO1 mz))))))))))) (cseq (nz (st (nw ?_))))
 refine zCb h ?_ ?_
 intro h826 h
 refine cskip (xn (cblock (nz (st (nx (st (nx (st (wl (su (u_lensl underlying22 (et (k20 d5))) (dt (q20 p6)) (st (nw (cblock ?_)))))))))))))
 replace hS:=hS.nilRow 9 (Mo.sz (List UInt8))
 replace hS:=(((hS.drop (Rm.s (Rm.s (Rm.s (Rm.s Rm.z))))).bg Y3).bg Y3).bg Y3
 refine cloopE (rg 11 2++[14]++rg 28 47) (by decide +kernel) (fun n m w=>∃ μx b959 i960 l963 v961 cs962 l967 v965 cs966,m=(yK7 (.i (v961)::(.i (v965)::(.i (.bool b959)::(yK1 (yO2 11 (yK1 (yO1 14 (yK10 (yK2 (.i (.int .i64 i960)::(yO20 28 (yO20 48 (yO7 68 []))))))))))))))∧r15_order_l2 p_1 r12 (r15_order_l1 p_1 r12 n_1) n b959 i960 l963 l967=some r∧Le μ2 μx∧Sq μx w0 w (.blk b10 26 [.int .i64 0,.int .i64 0]::.blk b18 26 [.int .i64 r12.2.Err,.int .i64 r12.2.At]::.row v961 9 1 l963.length cs962::.row v965 9 1 l967.length cs966::rsF)∧Rw μx cs962 l963∧Rw μx cs966 l967) (by rintro _ _ _ ⟨_,_,_,_,_,_,_,_,_,rfl,_⟩; rfl) _ _ (aK7 (aI (aI (aI (aK1 (aO2 (aK1 (aO1 (aK10 (aK2 (aI (aO20 (aO20 (aO7 aZ)))))))))))))) ⟨_,false,0,l415,v413,cs414,[],(.slice none 0 0),[],rfl,h,Le.r,hS,m824,Rw.nil⟩ ?_
 rintro n_2 _ t w8 ⟨μ3,b959,i960,l963,v961,cs962,l967,v965,cs966,rfl,h,le1099,hS,m1100,m1101⟩
 rcases n_2 with _|n_2
 cases h
 unfold r15_order_l2 at h
 refine cnrm (mK7 (mi (mi (mi (mK1 (mO2 (mK1 (mO1 (mK10 (mK2 (mi (mO20 (mO20 (mO7 mz)))))))))))))) (nz (st (ny ?_)))
 refine zCd h ?_ ?_
 intro h1102 h
 refine cskip (xn (cseq (cblock (nz ?_))))
 obtain ⟨x1103,g1104,h⟩:=bI h
 obtain ⟨b1105,o1106,cs1107,e1108,f1109,m1110⟩:=SlR.elem (m3.up (le14.t (le823.t le1099))) g1104
 obtain ⟨a1111,c1112,a1114,c1115,rfl,m1113,m1116⟩:=m1110
 refine wl (su (u_iax underlying22 ti59 (et (k20 d5)) (et (k20 d7)) e1108) (dt (q20 p9)) (lds (f1109 _ hS.a) rfl ?_))
 refine wl (s_alloc ti59 hS ?_); clear hS; intro b1117 w9 hb1118 hS; refine po ?_
 refine wl (s_storeA ti59 (et (k10 d1)) (et (k30 d0)) rfl rfl hS d0 rfl p0 dn ?_)
 clear hS; intro w10 hS
 refine ny (cseq ?_)
 refine ccutE (rg 31 8) (by decide) (fun m w=>∃ μx b1119,m=(yK20 (yK10 (yK1 (yO8 31 (.i (.bool b1119)::[])))))∧r15_order_j1 r12 b959 i960 l963 l967 x1103 (r15_order_l2 p_1 r12 (r15_order_l1 p_1 r12 n_1) n_2) b1119=some r∧Le μ3 μx∧Sq μx w0 w (.blk b10 26 [.int .i64 0,.int .i64 0]::.blk b18 26 [.int .i64 r12.2.Err,.int .i64 r12.2.At]::.row v961 9 1 l963.length cs962::.row v965 9 1 l967.length cs966::.blk b1117 59 [.int .i64 x1103.Kind,S x1103.Name,.int .i64 x1103.Typ.Kind,S x1103.Typ.Gen,.int .i64 x1103.Takes.Kind,S x1103.Takes.Gen,.int .i64 x1103.Cap,.slice a1111 x1103.Params.length c1112,.slice a1114 x1103.Body.length c1115]::rsF)) (by rintro _ _ ⟨_,_,rfl,_⟩; rfl) ?_ ?_
 refine creg (st (ld ((hS.blk d0).cell d0) ?_))
 iterate 2 refine st ?_
 refine zWd 34 h ?_ ?_
 intro h1120 h
 refine sn rfl rfl (sn rfl rfl (sn rfl rfl (sn rfl rfl (st (wnil (xl ?_))))))
 replace hS:=(((hS.bg Y4).bg Y4).bg Y4).bg Y4
 exact ⟨_,_,rfl,(aK20 (aK10 (aK1 (aO8 (aI aZ))))),_,true,rfl,h,Le.r,hS⟩
 intro h1120 h
 refine sy rfl (sy rfl (wy rfl (k30 d4) (s_load ti9 (et (k30 d6)) ((hS.blk d0).cell d1) (dt (q30 p7)) ?_)))
 obtain ⟨r1129,g1130,h⟩:=bI h
 obtain ⟨a1121,c1122,rfl⟩:=Row.shape (hS.get d3)
 obtain ⟨μ4,le1123,hB1124,hO1125⟩:=Sep.borrow hS
 have m1128:=Row.rd (α:=List UInt8) hO1125 le1123 (hS.get d3) m1100
 refine wy rfl (k30 d4) (s_callv isfn31 ef (e1 (et (k30 d5)) (e1 (et (k30 d7)) e0)) (r15_has_w (hg.t (le14.t (le823.t (le1099.t le1123)))) m1128 g1130 hB1124) ?_)
 rintro _ w11 ⟨_,rfl,le1126,hB1127⟩; replace hS:=Sep.back hS hO1125 le1126 hB1127; refine po ?_
 refine st (wnil (xl ?_))
 replace hS:=(((hS.bg Y4).bg Y4).bg Y4).bg Y4
 exact ⟨_,_,rfl,(aK20 (aK10 (aK1 (aO8 (aI aZ))))),_,_,rfl,h,Le.r,hS⟩
 rintro _ t w12 ⟨μ5,b1119,rfl,h,le1131,hS⟩
 unfold r15_order_j1 at h
 refine nrm (mK20 (mK10 (mK1 (mO8 (mi mz))))) (xn ?_)
 refine zCb h ?_ ?_
 intro h1132 h
 refine cexit ?_
 refine (fun h=>xe (bh h)) ?_
 refine xn (creg ?_)
 obtain ⟨i1133,g1134,h⟩:=bI h
 refine wl (su (u_addc (et (k20 d7)) ec g1134) (dt (q70 p4)) (st (wnil (xl ?_))))
 replace hS:=hS.drop (Rm.s (Rm.s (Rm.s (Rm.s Rm.z))))
 exact ⟨n_2,_,_,rfl,(aK7 (aI (aI (aI (aK1 (aO2 (aK1 (aO1 (aK10 (aK2 (aI (aO20 (aO20 (aO7 aZ)))))))))))))),⟨_,b959,i1133,l963,v961,cs962,l967,v965,cs966,rfl,h,(le1099.t le1131),hS,(m1100.up le1131),(m1101.up le1131)⟩,Nat.lt_succ_self _⟩
 intro h1132 h
 refine cskip (xn (nz ?_))
 iterate 3 refine st ?_
 refine ny (nz (st (wl (su (u_lensl underlying33 (et (k40 d2))) (dt (q40 p3)) (st (nw (cblock ?_)))))))
 refine cloopE ([14]++rg 45 18) (by decide) (fun n m w=>∃ μx b1160 i1161,m=(yK10 (yK2 (.i (.bool b1160)::(yK1 (yO1 14 (yK20 (yK9 (.i (.int .i64 i1161)::(yO10 45 (yO8 55 []))))))))))∧r15_order_l3 r12 b959 i960 l963 l967 x1103 (r15_order_l2 p_1 r12 (r15_order_l1 p_1 r12 n_1) n_2) n b1160 i1161=some r∧Le μ5 μx∧Sq μx w0 w (.blk b10 26 [.int .i64 0,.int .i64 0]::.blk b18 26 [.int .i64 r12.2.Err,.int .i64 r12.2.At]::.row v961 9 1 l963.length cs962::.row v965 9 1 l967.length cs966::.blk b1117 59 [.int .i64 x1103.Kind,S x1103.Name,.int .i64 x1103.Typ.Kind,S x1103.Typ.Gen,.int .i64 x1103.Takes.Kind,S x1103.Takes.Gen,.int .i64 x1103.Cap,.slice a1111 x1103.Params.length c1112,.slice a1114 x1103.Body.length c1115]::rsF)) (by rintro _ _ _ ⟨_,_,_,rfl,_⟩; rfl) _ _ (aK10 (aK2 (aI (aK1 (aO1 (aK20 (aK9 (aI (aO10 (aO8 aZ)))))))))) ⟨_,(!b959),0,rfl,h,Le.r,hS⟩ ?_
 rintro n_3 _ t w13 ⟨μ6,b1160,i1161,rfl,h,le1187,hS⟩
 rcases n_3 with _|n_3
 cases h
 unfold r15_order_l3 at h
 refine cnrm (mK10 (mK2 (mi (mK1 (mO1 (mK20 (mK9 (mi (mO10 (mO8 mz)))))))))) (nz (st (ny ?_)))
 refine zCd h ?_ ?_
 intro h1188 h
 refine cskip (xn (cseq (cblock (nz ?_))))
 obtain ⟨x1189,g1190,h⟩:=bI h
 obtain ⟨b1191,o1192,cs1193,e1194,f1195,m1196⟩:=SlR.elem (m17.up (le823.t (le1099.t (le1131.t le1187)))) g1190
 obtain rfl:=m1196
 refine wl (su (u_iax underlying33 ti37 (et (k40 d2)) (et (k40 d4)) e1194) (dt (q40 p6)) (lds (f1195 _ hS.a) rfl ?_))
 refine wl (s_alloc ti37 hS ?_); clear hS; intro b1197 w14 hb1198 hS; refine po ?_
 refine wl (s_storeA ti37 (et (k10 d4)) (et (k40 d7)) rfl rfl hS d0 rfl p0 dn ?_)
 clear hS; intro w15 hS
 refine nw (creg ?_)
 iterate 2 refine st ?_
 refine zWb 49 h ?_ ?_
 intro h1199 h
 refine sy rfl (wy rfl (k40 d9) (s_load ti9 (et (k50 d0)) ((hS.blk d0).cell d2) (dt (q50 p1)) (sy rfl (wy rfl (k40 d9) (s_load ti9 (et (k50 d2)) ((hS.blk d5).cell d1) (dt (q50 p3)) (wy rfl (k40 d9) (su (u_nes (et (k50 d1)) (et (k50 d3))) (dt (q50 p4)) (sy rfl ?_))))))))
 refine zWd 55 h ?_ ?_
 intro h1200 h
 refine sn rfl rfl (sn rfl rfl (sn rfl rfl (sn rfl rfl (sy rfl ?_))))
 iterate 2 refine st ?_
 refine wnil ?_
 refine (fun h=>bn (xn h)) ?_
 refine creg ?_
 obtain ⟨i1201,g1202,h⟩:=bI h
 refine wl (su (u_addc (et (k40 d4)) ec g1202) (dt (q60 p2)) (st (wnil (xl ?_))))
 replace hS:=hS.drop Rm.z
 exact ⟨n_3,_,_,rfl,(aK10 (aK2 (aI (aK1 (aO1 (aK20 (aK9 (aI (aO10 (aO8 aZ)))))))))),⟨_,true,i1201,rfl,h,le1187,hS⟩,Nat.lt_succ_self _⟩
 intro h1200 h
 refine sy rfl (sy rfl (wy rfl (k50 d5) (s_load ti9 (et (k50 d7)) ((hS.blk d0).cell d1) (dt (q50 p8)) ?_)))
 obtain ⟨r1211,g1212,h⟩:=bI h
 obtain ⟨a1203,c1204,rfl⟩:=Row.shape (hS.get d3)
 obtain ⟨μ7,le1205,hB1206,hO1207⟩:=Sep.borrow hS
 have m1210:=Row.rd (α:=List UInt8) hO1207 le1205 (hS.get d3) (m1100.up (le1131.t le1187))
 refine wy rfl (k50 d5) (s_callv isfn31 ef (e1 (et (k50 d6)) (e1 (et (k50 d8)) e0)) (r15_has_w (hg.t (le14.t (le823.t (le1099.t (le1131.t (le1187.t le1205)))))) m1210 g1212 hB1206) ?_)
 rintro _ w16 ⟨_,rfl,le1208,hB1209⟩; replace hS:=Sep.back hS hO1207 le1208 hB1209; refine po ?_
 refine sy rfl ?_
 iterate 2 refine st ?_
 refine wnil ?_
 refine (fun h=>bn (xn h)) ?_
 refine creg ?_
 obtain ⟨i1213,g1214,h⟩:=bI h
 refine wl (su (u_addc (et (k40 d4)) ec g1214) (dt (q60 p2)) (st (wnil (xl ?_))))
 replace hS:=hS.drop Rm.z
 exact ⟨n_3,_,_,rfl,(aK10 (aK2 (aI (aK1 (aO1 (aK20 (aK9 (aI (aO10 (aO8 aZ)))))))))),⟨_,r1211,i1213,rfl,h,le1187,hS⟩,Nat.lt_succ_self _⟩
 intro h1199 h
 refine sn rfl rfl (sn rfl rfl (sn rfl rfl (sn rfl rfl (sn rfl rfl (sn rfl rfl (wu rfl (k50 d5) (dt (q50 p6)) (wu rfl (k50 d5) (dt (q50 p7)) (wu rfl (k50 d5) (dt (q50 p8)) (wu rfl (k50 d5) (dt (q50 p9)) (sn rfl rfl ?_))))))))))
 iterate 2 refine st ?_
 refine wnil ?_
 refine (fun h=>bn (xn h)) ?_
 refine creg ?_
 obtain ⟨i1215,g1216,h⟩:=bI h
 refine wl (su (u_addc (et (k40 d4)) ec g1216) (dt (q60 p2)) (st (wnil (xl ?_))))
 replace hS:=hS.drop Rm.z
 exact ⟨n_3,_,_,rfl,(aK10 (aK2 (aI (aK1 (aO1 (aK20 (aK9 (aI (aO10 (aO8 aZ)))))))))),⟨_,false,i1215,rfl,h,le1187,hS⟩,Nat.lt_succ_self _⟩
 intro h1188 h
 refine cexit ?_
 refine (fun h=>xe (xe (bh h))) ?_
 refine xn (nz (st (nw ?_)))
 refine zCb h ?_ ?_
 intro h1217 h
 refine nz ?_
 iterate 2 refine st ?_
 refine ld ((hS.blk d4).cell d1) ?_
 refine wl (s_bsl underlying38 ti9 (Parts.s (et (k60 d6)) rfl Parts.z) rfl rfl hS ?_); clear hS; intro b1218 w17 hb1219 hS; refine po ?_
 obtain ⟨l1222,g1223,h⟩:=bI h
 have m1224:Rw μ6 [S x1103.Name] [x1103.Name]:=(Rw.one (α:=List UInt8) rfl)
 have m1221:=Rw.app (m1100.up (le1131.t le1187)) m1224 g1223
 refine wl (s_app1 underlying38 ti9 rfl (et (k60 d4)) (et (k60 d7)) hS d3 (hS.blk d0).cells m1224 rfl g1223 (by decide) ?_); clear hS; intro v1220 w18 rs_ hp_ hS; cases (show _=rs_ from hp_)
 replace hS:=Sep.reput hS p3; refine po ?_
 replace hS:=hS.drop Rm.z
 refine st (nw (creg (st (wnil ?_))))
 refine (fun h=>bn (xn h)) ?_
 refine creg ?_
 obtain ⟨i1225,g1226,h⟩:=bI h
 refine wl (su (u_addc (et (k20 d7)) ec g1226) (dt (q70 p4)) (st (wnil (xl ?_))))
 replace hS:=hS.drop (Rm.s (Rm.s (Rm.s (Rm.s Rm.z))))
 exact ⟨n_2,_,_,rfl,(aK7 (aI (aI (aI (aK1 (aO2 (aK1 (aO1 (aK10 (aK2 (aI (aO20 (aO20 (aO7 aZ)))))))))))))),⟨_,true,i1225,l1222,v1220,(cs962++[S x1103.Name]),l967,v965,cs966,rfl,h,(le1099.t (le1131.t le1187)),hS,m1221,(m1101.up (le1131.t le1187))⟩,Nat.lt_succ_self _⟩
 intro h1217 h
 refine creg ?_
 iterate 2 refine st ?_
 refine ld ((hS.blk d4).cell d1) ?_
 refine wl (s_bsl underlying38 ti9 (Parts.s (et (k70 d1)) rfl Parts.z) rfl rfl hS ?_); clear hS; intro b1227 w19 hb1228 hS; refine po ?_
 obtain ⟨l1231,g1232,h⟩:=bI h
 have m1233:Rw μ6 [S x1103.Name] [x1103.Name]:=(Rw.one (α:=List UInt8) rfl)
 have m1230:=Rw.app (m1101.up (le1131.t le1187)) m1233 g1232
 refine wl (s_app1 underlying38 ti9 rfl (et (k60 d9)) (et (k70 d2)) hS d4 (hS.blk d0).cells m1233 rfl g1232 (by decide) ?_); clear hS; intro v1229 w20 rs_ hp_ hS; cases (show _=rs_ from hp_)
 replace hS:=Sep.reput hS p4; refine po ?_
 replace hS:=hS.drop Rm.z
 refine st (wnil ?_)
 refine (fun h=>bn (xn h)) ?_
 refine creg ?_
 obtain ⟨i1234,g1235,h⟩:=bI h
 refine wl (su (u_addc (et (k20 d7)) ec g1235) (dt (q70 p4)) (st (wnil (xl ?_))))
 replace hS:=hS.drop (Rm.s (Rm.s (Rm.s (Rm.s Rm.z))))
 exact ⟨n_2,_,_,rfl,(aK7 (aI (aI (aI (aK1 (aO2 (aK1 (aO1 (aK10 (aK2 (aI (aO20 (aO20 (aO7 aZ)))))))))))))),⟨_,b959,i1234,l963,v961,cs962,l1231,v1229,(cs966++[S x1103.Name]),rfl,h,(le1099.t (le1131.t le1187)),hS,(m1100.up (le1131.t le1187)),m1230⟩,Nat.lt_succ_self _⟩
 intro h1102 h
 refine cexit ?_
 refine (fun h=>xe (xe (bh h))) ?_
 refine (fun h=>bn (xl h)) ?_
 exact ⟨n_1,_,_,rfl,(aK7 (aI (aI (aI (aK1 (aO2 (aK1 (aO1 (aK9 (aO50 (aO1 aZ))))))))))),⟨_,b959,l963,v961,cs962,l967,v965,cs966,rfl,h,(le823.t le1099),hS,m1100,m1101⟩,Nat.lt_succ_self _⟩
 intro h826 h
 refine cexit ?_
 refine (fun h=>xe (xe (bh h))) ?_
 refine xn (cseq ?_)
 refine cdw hS ?_; clear hS; intro w21 hS
 refine sf_start (fpi 0 [0,3,4,5] rfl (fpi 1 [1,4,5] rfl (fr_ 2 [2,5] rfl (u_loads ti26 (et d6) (hS.blk d1).cells rfl) (q70 p7) (fpi 3 [3,4,5] rfl (fpi 4 [4,5] rfl (sf1 rfl rfl rfl rfl (wn0 rfl) (s_storeA ti26 (et d4) (et (k70 d7)) rfl rfl hS d0 rfl p0 dn ?_)))))))
 clear hS; intro w22 hS
 refine ⟨Mons.z,?_⟩
 refine sf_nil (xn (cret ?_))
 replace hS:=hS.bg Y2
 obtain ⟨μ8,a1236,c1237,e1240,le1239,m1238,hq_⟩:=Sep.frzRow hS m824 rfl; clear hS
 subst e1240; have hS:=hq_; clear hq_
 replace hS:=hS.bg Y2
 obtain ⟨μ9,a1241,c1242,e1245,le1244,m1243,hq_⟩:=Sep.frzRow hS (m825.up le1239) rfl; clear hS
 subst e1245; have hS:=hq_; clear hq_
 obtain rfl:=oI h
 refine retN rfl (RVs.s (.t d2) (RVs.s (.t d3) (RVs.s (.a d4 ti26 (hS.blk d0).cells rfl) RVs.z))) ?_
 replace hS:=(hS.drop Rm.z).drop Rm.z
 exact ⟨_,_,_,_,_,rfl,(le14.t (le823.t (le1239.t le1244))),hS,(m1238.up le1244),m1243⟩
theorem l15_same_w (hg:Le Gm μ0) {p_1 p_2:List (List UInt8)} {r:Bool} (m3:Sl μ0 a1 c2 p_1) (m6:Sl μ0 a4 c5 p_2) (h:l15_same p_1 p_2=some r) (hS:Sq μ0 w0 w (rsF)):CallsV prog 13 [.slice a1 p_1.length c2,.slice a4 p_2.length c5] w (fun v w'=>∃ (μ':M) ,v=.bool r∧Le μ0 μ'∧Sq μ' w0 w' (rsF)):=by
 unfold l15_same at h
 refine enter func13 rfl (frm:=_::_::u2 (u2 (u20 []))) rfl (nz (st (ny (nz (st (wl (su (u_lensl underlying38 (et d6)) (dt p7) (st (wl (su (u_lensl underlying38 (et d8)) (dt p9) (st (nw ?_))))))))))))
 refine zCd h ?_ ?_
 intro h7 h
 refine nz (st (nw (cret (xr ?_))))
 obtain rfl:=oI h
 refine ret1 rfl d4 ?_
 exact ⟨_,rfl,Le.r,hS⟩
 intro h7 h
 refine cskip (xn (cseq (nz (st (wl (su (u_lensl underlying38 (et (k10 d1))) (dt (q10 p2)) (st (nw (cblock ?_)))))))))
 refine cloopE (rg 4 2++rg 14 12) (by decide) (fun n m w=>∃ μx i26,m=(yK4 (yO2 4 (yK7 (.i (.int .i64 i26)::(yO10 14 (yO2 24 []))))))∧l15_same_l1 p_1 p_2 n i26=some r∧Le μ0 μx∧Sq μx w0 w (rsF)) (by rintro _ _ _ ⟨_,_,rfl,_⟩; rfl) _ _ (aK4 (aO2 (aK7 (aI (aO10 (aO2 aZ)))))) ⟨_,0,rfl,h,Le.r,hS⟩ ?_
 rintro n_1 _ t w1 ⟨μ1,i26,rfl,h,le45,hS⟩
 rcases n_1 with _|n_1
 cases h
 unfold l15_same_l1 at h
 refine cnrm (mK4 (mO2 (mK7 (mi (mO10 (mO2 mz)))))) (nz (st (ny ?_)))
 refine zCd h ?_ ?_
 intro h46 h
 refine cskip (xn (cseq (cblock (nz ?_))))
 iterate 2 refine st ?_
 refine ny ?_
 refine cdw hS ?_; clear hS; intro w2 hS
 refine sf_start (fpi 0 [0,2,3,8] rfl (fpi 1 [1,2,3,8] rfl ?_))
 obtain ⟨x47,g48,h⟩:=bI h
 obtain ⟨b49,o50,cs51,e52,f53,m54⟩:=SlR.elem (m3.up le45) g48
 obtain rfl:=m54
 refine fp 2 [2,3,8] rfl (u_iax underlying38 ti9 (et (k10 d6)) (et (k10 d7)) e52) (q10 p8) (fr_ 3 [3,8] rfl (u_load ti9 (et (k10 d8)) ((f53 _ hS.a).one d0)) (q10 p9) (fpi 4 [4,6,7,8] rfl (fpi 5 [5,6,7,8] rfl ?_)))
 obtain ⟨x55,g56,h⟩:=bI h
 obtain ⟨b57,o58,cs59,e60,f61,m62⟩:=SlR.elem (m6.up le45) g56
 obtain rfl:=m62
 refine fp 6 [6,7,8] rfl (u_iax underlying38 ti9 (et (k20 d0)) (et (k20 d1)) e60) (q20 p2) (fr_ 7 [7,8] rfl (u_load ti9 (et (k20 d2)) ((f61 _ hS.a).one d0)) (q20 p3) (fp 8 [8] rfl (u_nes (et (k10 d9)) (et (k20 d3))) (q20 p4) (sf_nil (xn ?_))))
 refine zCd h ?_ ?_
 intro h63 h
 refine nz (st (nw (cret ?_)))
 refine (fun h=>br (xr (xr (br (xr h))))) ?_
 obtain rfl:=oI h
 refine ret1 rfl d4 ?_
 exact ⟨_,rfl,le45,hS⟩
 intro h63 h
 refine cskip ?_
 refine (fun h=>bn (xn h)) ?_
 refine creg ?_
 obtain ⟨i65,g66,h⟩:=bI h
 refine wl (su (u_addc (et (k10 d3)) ec g66) (dt (q20 p5)) (st (wnil (xl ?_))))
 exact ⟨n_1,_,_,rfl,(aK4 (aO2 (aK7 (aI (aO10 (aO2 aZ)))))),⟨_,i65,rfl,h,le45,hS⟩,Nat.lt_succ_self _⟩
 intro h46 h
 refine cexit ?_
 refine (fun h=>xe (xe (bh h))) ?_
 refine xn (nz (st (nw (cret ?_))))
 obtain rfl:=oI h
 refine ret1 rfl d4 ?_
 exact ⟨_,rfl,le45,hS⟩
theorem law_gtells_w (hg:Le Gm μ0) {p_1:List TDef} {r:Bool} (m3:Sl μ0 a1 c2 p_1) (h:law_gtells fu p_1=some r) (hS:Sq μ0 w0 w (rsF)):CallsV prog 4 [.slice a1 p_1.length c2] w (fun v w'=>∃ (μ':M) ,v=.bool r∧Le μ0 μ'∧Sq μ' w0 w' (rsF)):=by
 unfold law_gtells at h
 refine enter func4 rfl (frm:=_::u1 (u20 (u50 []))) rfl (nz (st (nx (st ?_))))
 obtain ⟨r4,g5,h⟩:=bI h
 refine ca (gr_edges_w hg m3 g5 hS) ?_
 rintro _ w1 ⟨μ1,a7,c8,rfl,le6,hS,m9⟩
 refine po ?_
 iterate 3 refine st ?_
 refine wl (s_alloc ti26 hS ?_); clear hS; intro b10 w2 hb11 hS; refine po ?_
 refine st (wl (s_storeA ti26 (et d4) (et (k10 d6)) rfl rfl hS d0 rfl p0 dn ?_))
 clear hS; intro w3 hS
 refine nx (st ?_)
 obtain ⟨r12,g13,h⟩:=bI h
 refine ca (r15_edges_w (hg.t le6) (m3.up le6) g13 hS) ?_
 rintro _ w4 ⟨μ2,a15,c16,rfl,le14,hS,m17⟩
 refine po ?_
 iterate 3 refine st ?_
 refine wl (s_alloc ti26 hS ?_); clear hS; intro b18 w5 hb19 hS; refine po ?_
 refine st (wl (s_storeA ti26 (et d6) (et (k20 d1)) rfl rfl hS d0 rfl p0 dn ?_))
 clear hS; intro w6 hS
 refine ny (cseq ?_)
 refine ccutE (rg 22 9) (by decide) (fun m w=>∃ μx b20,m=(yK20 (yK2 (yO9 22 (.i (.bool b20)::[]))))∧law_gtells_j1 fu p_1 r4 r12 b20=some r∧Le μ2 μx∧Sq μx w0 w (.blk b10 26 [.int .i64 r4.2.Err,.int .i64 r4.2.At]::.blk b18 26 [.int .i64 r12.2.Err,.int .i64 r12.2.At]::rsF)) (by rintro _ _ ⟨_,_,rfl,_⟩; rfl) ?_ ?_
 refine creg (lds (hS.blk d1).cells rfl (lds (hS.blk d0).cells rfl (wl (s_nea (ES.mk underlying26 eh26 eg26) (et (k20 d2)) (et (k20 d3)) (EqFs.o rfl rfl rfl ti24 d0 d0 (eq_int underlying24) (EqFs.o rfl rfl rfl ti3 d1 d1 (eq_int underlying3) EqFs.z)) rfl (dt (q20 p4)) (st ?_)))))
 refine zWe 25 h ?_ ?_
 intro h21 h
 refine sn rfl rfl (sn rfl rfl (sn rfl rfl (sn rfl rfl (sn rfl rfl (st (wnil (xl ?_)))))))
 replace hS:=hS.bg Y1
 exact ⟨_,_,rfl,(aK20 (aK2 (aO9 (aI aZ)))),_,true,rfl,h,Le.r,hS⟩
 intro h21 h
 refine sy rfl (wy rfl (k20 d5) (su (u_lensl underlying33 (et (k20 d6))) (dt (q20 p7)) (sy rfl (wy rfl (k20 d5) (su (u_lensl underlying33 (et (k20 d8))) (dt (q20 p9)) (sy rfl (st (wnil (xl ?_)))))))))
 replace hS:=hS.bg Y1
 exact ⟨_,_,rfl,(aK20 (aK2 (aO9 (aI aZ)))),_,(decide ((r4.1.length:Int)≠(r12.1.length:Int))),rfl,h,Le.r,hS⟩
 rintro _ t w7 ⟨μ3,b20,rfl,h,le22,hS⟩
 unfold law_gtells_j1 at h
 refine nrm (mK20 (mK2 (mO9 (mi mz)))) (xn ?_)
 refine zCb h ?_ ?_
 intro h23 h
 refine nz (st (nw (cret (xr ?_))))
 obtain rfl:=oI h
 refine ret1 rfl d2 ?_
 replace hS:=(hS.drop Rm.z).drop Rm.z
 exact ⟨_,rfl,(le6.t (le14.t le22)),hS⟩
 intro h23 h
 refine cskip (xn (cseq (nz (st (wl (su (u_lensl underlying33 (et (k30 d2))) (dt (q30 p3)) (st (nw (cblock ?_)))))))))
 refine cloopE ([2]++[7]++rg 35 12) (by decide) (fun n m w=>∃ μx i42,m=(yK2 (yO1 2 (yK4 (yO1 7 (yK20 (yK6 (.i (.int .i64 i42)::(yO10 35 (yO2 45 [])))))))))∧law_gtells_l1 fu p_1 r4 r12 n i42=some r∧Le μ3 μx∧Sq μx w0 w (.blk b10 26 [.int .i64 r4.2.Err,.int .i64 r4.2.At]::.blk b18 26 [.int .i64 r12.2.Err,.int .i64 r12.2.At]::rsF)) (by rintro _ _ _ ⟨_,_,rfl,_⟩; rfl) _ _ (aK2 (aO1 (aK4 (aO1 (aK20 (aK6 (aI (aO10 (aO2 aZ))))))))) ⟨_,0,rfl,h,Le.r,hS⟩ ?_
 rintro n_1 _ t w8 ⟨μ4,i42,rfl,h,le61,hS⟩
 rcases n_1 with _|n_1
 cases h
 unfold law_gtells_l1 at h
 refine cnrm (mK2 (mO1 (mK4 (mO1 (mK20 (mK6 (mi (mO10 (mO2 mz))))))))) (nz (st (ny ?_)))
 refine zCd h ?_ ?_
 intro h62 h
 refine cskip (xn (cseq (cblock (nz ?_))))
 iterate 2 refine st ?_
 refine ny ?_
 refine cdw hS ?_; clear hS; intro w9 hS
 refine sf_start (fpi 0 [0,2,3,8] rfl (fpi 1 [1,2,3,8] rfl ?_))
 obtain ⟨x63,g64,h⟩:=bI h
 obtain ⟨b65,o66,cs67,e68,f69,m70⟩:=SlR.elem (m9.up (le14.t (le22.t le61))) g64
 obtain rfl:=m70
 refine fp 2 [2,3,8] rfl (u_iax underlying33 ti37 (et (k30 d7)) (et (k30 d8)) e68) (q30 p9) (fr_ 3 [3,8] rfl (u_loads ti37 (et (k30 d9)) (f69 _ hS.a) rfl) (q40 p0) (fpi 4 [4,6,7,8] rfl (fpi 5 [5,6,7,8] rfl ?_)))
 obtain ⟨x71,g72,h⟩:=bI h
 obtain ⟨b73,o74,cs75,e76,f77,m78⟩:=SlR.elem (m17.up (le22.t le61)) g72
 obtain rfl:=m78
 refine fp 6 [6,7,8] rfl (u_iax underlying33 ti37 (et (k40 d1)) (et (k40 d2)) e76) (q40 p3) (fr_ 7 [7,8] rfl (u_loads ti37 (et (k40 d3)) (f77 _ hS.a) rfl) (q40 p4) (fp 8 [8] rfl (u_nea (ES.mk underlying37 eh37 eg37) (et (k40 d0)) (et (k40 d4)) (EqFs.o rfl rfl rfl ti9 d0 d0 (eq_str underlying9) (EqFs.o rfl rfl rfl ti9 d1 d1 (eq_str underlying9) (EqFs.o rfl rfl rfl ti9 d2 d2 (eq_str underlying9) EqFs.z))) rfl) (q40 p5) (sf_nil (xn ?_))))
 refine zCe h ?_ ?_
 intro h79 h
 refine nz (st (nw (cret ?_)))
 refine (fun h=>br (xr (xr (br (xr h))))) ?_
 obtain rfl:=oI h
 refine ret1 rfl d2 ?_
 replace hS:=(hS.drop Rm.z).drop Rm.z
 exact ⟨_,rfl,(le6.t (le14.t (le22.t le61))),hS⟩
 intro h79 h
 refine cskip ?_
 refine (fun h=>bn (xn h)) ?_
 refine creg ?_
 obtain ⟨i80,g81,h⟩:=bI h
 refine wl (su (u_addc (et (k30 d4)) ec g81) (dt (q40 p6)) (st (wnil (xl ?_))))
 exact ⟨n_1,_,_,rfl,(aK2 (aO1 (aK4 (aO1 (aK20 (aK6 (aI (aO10 (aO2 aZ))))))))),⟨_,i80,rfl,h,le61,hS⟩,Nat.lt_succ_self _⟩
 intro h62 h
 refine cexit ?_
 refine (fun h=>xe (xe (bh h))) ?_
 refine xn (nz (st ?_))
 obtain ⟨r82,g83,h⟩:=bI h
 refine ca (gr_order_w (hg.t (le6.t (le14.t (le22.t le61)))) (m3.up (le6.t (le14.t (le22.t le61)))) g83 hS) ?_
 rintro _ w10 ⟨μ5,a85,c86,a88,c89,rfl,le84,hS,m87,m90⟩
 refine po ?_
 iterate 6 refine st ?_
 refine wl (s_storeA ti26 (et d4) (et (k50 d2)) rfl rfl hS d0 rfl p0 dn ?_)
 clear hS; intro w11 hS
 refine nx (st ?_)
 obtain ⟨r91,g92,h⟩:=bI h
 refine ca (r15_order_w (hg.t (le6.t (le14.t (le22.t (le61.t le84))))) (m3.up (le6.t (le14.t (le22.t (le61.t le84))))) g92 hS) ?_
 rintro _ w12 ⟨μ6,a94,c95,a97,c98,rfl,le93,hS,m96,m99⟩
 refine po ?_
 iterate 6 refine st ?_
 refine wl (s_storeA ti26 (et d6) (et (k50 d8)) rfl rfl hS d1 rfl p1 dn ?_)
 clear hS; intro w13 hS
 refine nx (lds (hS.blk d0).cells rfl (lds (hS.blk d1).cells rfl (wl (s_eqa (ES.mk underlying26 eh26 eg26) (et (k50 d9)) (et (k60 d0)) (EqFs.o rfl rfl rfl ti24 d0 d0 (eq_int underlying24) (EqFs.o rfl rfl rfl ti3 d1 d1 (eq_int underlying3) EqFs.z)) rfl (dt (q60 p1)) (st ?_)))))
 refine zWb 62 h ?_ ?_
 intro h100 h
 refine sy rfl (sy rfl ?_)
 obtain ⟨r101,g102,h⟩:=bI h
 refine wy rfl (k60 d2) (s_callv isfn13 ef (e1 (et (k60 d3)) (e1 (et (k60 d4)) e0)) (l15_same_w (hg.t (le6.t (le14.t (le22.t (le61.t (le84.t le93)))))) (m87.up le93) m96 g102 hS) ?_)
 rintro _ w14 ⟨μ7,rfl,le103,hS⟩
 refine po ?_
 iterate 2 refine st ?_
 refine zWb 67 h ?_ ?_
 intro h104 h
 refine sy rfl (sy rfl ?_)
 obtain ⟨r105,g106,h⟩:=bI h
 refine wy rfl (k60 d7) (s_callv isfn13 ef (e1 (et (k60 d8)) (e1 (et (k60 d9)) e0)) (l15_same_w (hg.t (le6.t (le14.t (le22.t (le61.t (le84.t (le93.t le103))))))) (m90.up (le93.t le103)) (m99.up le103) g106 hS) ?_)
 rintro _ w15 ⟨μ8,rfl,le107,hS⟩
 refine po ?_
 iterate 2 refine st ?_
 refine nw (cret ?_)
 obtain rfl:=oI h
 refine ret1 rfl d2 ?_
 replace hS:=(hS.drop Rm.z).drop Rm.z
 exact ⟨_,rfl,(le6.t (le14.t (le22.t (le61.t (le84.t (le93.t (le103.t le107))))))),hS⟩
 intro h104 h
 refine sn rfl rfl (sn rfl rfl (sn rfl rfl ?_))
 iterate 2 refine st ?_
 refine nw (cret ?_)
 obtain rfl:=oI h
 refine ret1 rfl d2 ?_
 replace hS:=(hS.drop Rm.z).drop Rm.z
 exact ⟨_,rfl,(le6.t (le14.t (le22.t (le61.t (le84.t (le93.t le103)))))),hS⟩
 intro h100 h
 refine sn rfl rfl (sn rfl rfl (sn rfl rfl ?_))
 iterate 2 refine st ?_
 refine sn rfl rfl (sn rfl rfl (sn rfl rfl ?_))
 iterate 2 refine st ?_
 refine nw (cret ?_)
 obtain rfl:=oI h
 refine ret1 rfl d2 ?_
 replace hS:=(hS.drop Rm.z).drop Rm.z
 exact ⟨_,rfl,(le6.t (le14.t (le22.t (le61.t (le84.t le93))))),hS⟩
end Go.Proofs.Yteiemedhecjgiaa
