/- Texts of SemaWritten Wl. -/
import Derived.Test.YtdfnejebobekoaaGreatDoorCXu
import Derived.Test.YtdfnejebobekoaaGreatDoorCPl
import Derived.Test.YtdfnejebobekoaaGreatDoorCFl
import Derived.Test.YtdfnejebobekoaaGreatDoorCWc
set_option linter.unusedSimpArgs false
set_option linter.unusedVariables false
set_option linter.unusedSectionVars false
set_option maxRecDepth 100000
set_option maxHeartbeats 20000000
namespace Go.Proofs.YtdfnejebobekoaaGreatDoor
open Go.Wk Go.Xt Go.Y Tryz
variable {b1:Nat} {v2 v5:Value} {cs6:List Value} {μ0:M} {w0 w:World} {rsF:List Res}
theorem bd_len_w (hg:Le Gm μ0) {buf_4:List UInt8} {r:Int} (m3:Bp μ0 b1 v2) (m7:Rw μ0 cs6 buf_4) (h:bd_len buf_4=some r) (hS:Sq μ0 w0 w (.blk b1 58 [v2,v5]::.row v5 5 1 buf_4.length cs6::rsF)):CallsV prog 23 [.pointer (some ⟨b1,0,none⟩)] w (fun v w'=>∃ (μ':M) ,v=.int .i64 r∧Le μ0 μ'∧Sq μ' w0 w' (.blk b1 58 [v2,v5]::.row v5 5 1 buf_4.length cs6::rsF)):=by
 unfold bd_len at h
 refine enter func23 rfl (frm:=_::u2 (u5 [])) rfl (nz (st (nx ?_)))
 iterate 3 refine st ?_
 refine ld ((hS.blk d0).cell d1) (wl (su (u_lenv underlying54 (et d6) (hS.get d1).isSl) (dt p7) (st (nw (cret ?_)))))
 obtain rfl:=oI h
 refine ret1 rfl d2 ?_
 exact ⟨_,rfl,Le.r,hS⟩
theorem bd_byte_w (hg:Le Gm μ0) {buf_4:List UInt8} {p_2:UInt8} {r:Unit×List UInt8} (m3:Bp μ0 b1 v2) (m7:Rw μ0 cs6 buf_4) (h:bd_byte buf_4 p_2=some r) (hS:Sq μ0 w0 w (.blk b1 58 [v2,v5]::.row v5 5 1 buf_4.length cs6::rsF)):CallsV prog 101 [.pointer (some ⟨b1,0,none⟩),.int .u8 (p_2.toNat:Int)] w (fun v w'=>∃ (μ':M) (v8:Value) (v10:Value) (cs11:List Value),v=.nilIface∧Le μ0 μ'∧Sq μ' w0 w' (.blk b1 58 [v8,v10]::.row v10 5 1 r.2.length cs11::rsF)∧Bp μ' b1 v8∧Rw μ' cs11 r.2):=by
 unfold bd_byte at h
 refine enter func101 rfl (frm:=_::_::u5 (u10 [])) rfl (nz (st (nx (st ?_))))
 refine wl (s_callv isfn142 ef (e1 (et d5) e0) (bw_check m3 hS) ?_); clear hS; rintro _ w1 ⟨rfl,hS⟩; refine po ?_
 have m13:Bp μ0 b1 (.pointer (some ⟨b1,0,none⟩)):=.inr rfl
 refine nx ?_
 iterate 4 refine st ?_
 refine ld ((hS.blk d0).cell d1) (st ?_)
 refine wl (s_bsl underlying54 ti5 (Parts.s (et (k10 d2)) rfl Parts.z) rfl rfl hS ?_); clear hS; intro b14 w2 hb15 hS; refine po ?_
 obtain ⟨l18,g19,h⟩:=bI h
 have m20:Rw μ0 [.int .u8 (p_2.toNat:Int)] [p_2]:=(Rw.one (α:=UInt8) rfl)
 have m17:=Rw.app m7 m20 g19
 refine wl (s_app1 underlying54 ti5 rfl (et (k10 d1)) (et (k10 d3)) hS d2 (hS.blk d0).cells m20 rfl g19 (by decide) ?_); clear hS; intro v16 w3 rs_ hp_ hS; cases (show _=rs_ from hp_)
 replace hS:=Sep.reput hS p2; refine po ?_
 replace hS:=hS.drop Rm.z
 iterate 2 refine st ?_
 refine wl (s_store1 ti54 (et (k10 d6)) (et (k10 d4)) (hS.get d1).cellV hS d0 p1 rfl p0 dn ?_)
 clear hS; intro w4 hS
 refine nx (st (nw (cret ?_)))
 obtain rfl:=oI h
 refine ret1 rfl d4 ?_
 exact ⟨_,(.pointer (some ⟨b1,0,none⟩)),_,((cs6++[.int .u8 (p_2.toNat:Int)]):List Value),rfl,Le.r,hS,m13,m17⟩
theorem bd_str_w (hg:Le Gm μ0) {buf_4 p_2:List UInt8} {r:Int×Unit×List UInt8} (m3:Bp μ0 b1 v2) (m7:Rw μ0 cs6 buf_4) (h:bd_str buf_4 p_2=some r) (hS:Sq μ0 w0 w (.blk b1 58 [v2,v5]::.row v5 5 1 buf_4.length cs6::rsF)):CallsV prog 102 [.pointer (some ⟨b1,0,none⟩),S p_2] w (fun v w'=>∃ (μ':M) (v8:Value) (v10:Value) (cs11:List Value),v=.tuple ⟨[.int .i64 r.1,.nilIface]⟩∧Le μ0 μ'∧Sq μ' w0 w' (.blk b1 58 [v8,v10]::.row v10 5 1 r.2.2.length cs11::rsF)∧Bp μ' b1 v8∧Rw μ' cs11 r.2.2):=by
 unfold bd_str at h
 refine enter func102 rfl (frm:=_::_::u2 (u5 (u10 []))) rfl (nz ?_)
 iterate 2 refine st ?_
 refine nx (st ?_)
 refine wl (s_callv isfn142 ef (e1 (et d6) e0) (bw_check m3 hS) ?_); clear hS; rintro _ w1 ⟨rfl,hS⟩; refine po ?_
 have m13:Bp μ0 b1 (.pointer (some ⟨b1,0,none⟩)):=.inr rfl
 refine nx ?_
 iterate 4 refine st ?_
 refine ld ((hS.blk d0).cell d1) (st ?_)
 obtain ⟨l14,g15,h⟩:=bI h
 have m17:=Rw.app m7 (Rw.str p_2) g15
 refine wl (s_appStr underlying54 underlying9 ti5 (et (k10 d2)) (et (k10 d3)) hS d1 g15 ?_); clear hS; intro v16 w2 rs_ hp_ hS; cases (show _=rs_ from hp_)
 replace hS:=Sep.reput hS p1; refine po ?_
 iterate 2 refine st ?_
 refine wl (s_store1 ti54 (et (k10 d6)) (et (k10 d4)) (hS.get d1).cellV hS d0 p1 rfl p0 dn ?_)
 clear hS; intro w3 hS
 refine nx (st (wl (su (u_lens underlying9 (et (k10 d7))) (dt (q10 p8)) ?_)))
 iterate 2 refine st ?_
 refine nw (cret ?_)
 obtain rfl:=oI h
 refine ret2 rfl d4 d5 ?_
 exact ⟨_,(.pointer (some ⟨b1,0,none⟩)),_,((cs6++Lib.strCells ⟨⟨p_2⟩⟩):List Value),rfl,Le.r,hS,m13,m17⟩
end Go.Proofs.YtdfnejebobekoaaGreatDoor
set_option maxRecDepth 100000
set_option maxHeartbeats 20000000
namespace Go.Proofs.YtdfnejebobekoaaGreatDoor
open Go.Wk Go.Xt Go.Y Tryz
variable {b1 b8 c2 c9 c11 c14 fu o9:Nat} {a1 a8 a10 a13:Option Addr} {v2 v5:Value} {cs6:List Value} {μ0:M} {w0 w:World} {rsF:List Res}
theorem pr_type_w (hg:Le Gm μ0) {p_1:TType} {r:List UInt8}  (h:pr_type p_1=some r) (hS:Sq μ0 w0 w (rsF)):CallsV prog 50 [.agg ⟨[.int .i64 p_1.Kind,S p_1.Gen]⟩] w (fun v w'=>∃ (μ':M) ,v=S r∧Le μ0 μ'∧Sq μ' w0 w' (rsF)):=by
 unfold pr_type at h
 refine enter func50 rfl (frm:=_::u10 []) rfl (nz ?_)
 refine wl (s_box (et d0) rfl hS ?_); clear hS; intro b1 w1 hb2 hS; refine po ?_
 refine st (ny (nz (st (ld ((hS.blk d0).cell d0) (nw (cblock (nz ?_)))))))
 iterate 2 refine st ?_
 refine nw ?_
 refine cifd (et d5) (fun h3=>?_) (fun h3=>?_)
 replace h:=iT h3 h
 refine nz (st (nw (cret ?_)))
 refine (fun h=>br (xr h)) ?_
 obtain rfl:=oI h
 refine ret1 rfl d2 ?_
 replace hS:=hS.drop Rm.z
 exact ⟨_,rfl,Le.r,hS⟩
 replace h:=iF h3 h
 refine nz ?_
 iterate 2 refine st ?_
 refine nw ?_
 refine cifd (et d7) (fun h4=>?_) (fun h4=>?_)
 replace h:=iT h4 h
 refine nz (st (nw (cret ?_)))
 refine (fun h=>br (xr h)) ?_
 obtain rfl:=oI h
 refine ret1 rfl d2 ?_
 replace hS:=hS.drop Rm.z
 exact ⟨_,rfl,Le.r,hS⟩
 replace h:=iF h4 h
 refine cskip ?_
 refine (fun h=>bn (xn h)) ?_
 refine nz (st (ld ((hS.blk d0).cell d1) (st (nw (cret ?_)))))
 obtain rfl:=oI h
 refine ret1 rfl d2 ?_
 replace hS:=hS.drop Rm.z
 exact ⟨_,rfl,Le.r,hS⟩
theorem pr_tight_w (hg:Le Gm μ0) {p_1:Int} {r:List UInt8×Int}  (h:pr_tight p_1=some r) (hS:Sq μ0 w0 w (rsF)):CallsV prog 173 [.int .i64 p_1] w (fun v w'=>∃ (μ':M) ,v=.tuple ⟨[S r.1,.int .i64 r.2]⟩∧Le μ0 μ'∧Sq μ' w0 w' (rsF)):=by
 unfold pr_tight at h
 refine enter func173 rfl (frm:=_::u2 (u2 (u10 (u20 [])))) rfl (nz ?_)
 iterate 2 refine st ?_
 refine ny (nz ?_)
 obtain ⟨r1,g2,h⟩:=bI h
 refine ca (p_levels_w hg g2 hS) ?_
 rintro _ w1 ⟨μ1,a4,c5,rfl,le3,hS,m6⟩
 refine po (wl (su (u_lensl underlying266 (et d8)) (dt p9) (st (nw (cblock ?_)))))
 refine cloopE (rg 2 6++rg 11 19) (by decide +kernel) (fun n m w=>∃ μx i27,m=(yK2 (yO6 2 (yK2 (.i (.int .i64 i27)::(yO10 11 (yO9 21 []))))))∧pr_tight_l1 p_1 r1 n i27=some r∧Le μ1 μx∧Sq μx w0 w (rsF)) (by rintro _ _ _ ⟨_,_,rfl,_⟩; rfl) _ _ (aK2 (aO6 (aK2 (aI (aO10 (aO9 aZ)))))) ⟨_,0,rfl,h,Le.r,hS⟩ ?_
 rintro n_1 _ t w2 ⟨μ2,i27,rfl,h,le48,hS⟩
 rcases n_1 with _|n_1
 cases h
 unfold pr_tight_l1 at h
 refine cnrm (mK2 (mO6 (mK2 (mi (mO10 (mO9 mz)))))) (nz (st (ny ?_)))
 refine cifd (et (k10 d1)) (fun h49=>?_) (fun h49=>?_)
 replace h:=iT h49 h
 refine cskip (xn (cseq (cblock (nz (st ?_)))))
 obtain ⟨x50,g51,h⟩:=bI h
 obtain ⟨b52,o53,cs54,e55,f56,m57⟩:=SlR.elem (m6.up le48) g51
 obtain ⟨b58,rfl,m59⟩:=m57
 refine wl (su (u_iax underlying266 ti269 (et d8) (et (k10 d0)) e55) (dt (q10 p3)) (lds (f56 _ hS.a) rfl ?_))
 refine wl (s_alloc ti269 hS ?_); clear hS; intro b60 w3 hb61 hS; refine po ?_
 refine st (wl (s_storeA ti269 (et d5) (et (k10 d4)) rfl rfl hS d0 rfl p0 dn ?_))
 clear hS; intro w4 hS
 refine nx (st (ld ((hS.blk d0).cell d0) ?_))
 obtain ⟨es62,c63,hc64,hq65⟩:=m59
 refine wl (s_rangeR underlying86 (et (k10 d6)) hS (hc64 _ hS.a) ?_); clear hS; intro b66 w5 hb67 hS; refine po ?_
 refine nw (cblock ?_)
 obtain ⟨o68,g69,h⟩:=bI h
 replace hS:=hS.drop (Rm.s Rm.z)
 refine cloopE (rg 2 2++rg 6 2++rg 18 11) (by decide) (fun n m w=>∃ μx sn70,m=(yK2 (yO2 2 (yK2 (yO2 6 (yK10 (yO10 18 (yO1 28 [])))))))∧some r=some r∧Le μ2 μx∧Sq μx w0 w (.mit b66 b58 c63 sn70 c63::rsF)∧MzM μx es62 sn70 p_1 n) (by rintro _ _ _ ⟨_,_,rfl,_⟩; rfl) _ _ (aK2 (aO2 (aK2 (aO2 (aK10 (aO10 (aO1 aZ))))))) ⟨_,[],rfl,rfl,Le.r,hS,Mz.start⟩ ?_
 rintro n73 _ t w6 ⟨μ3,sn70,rfl,_,le71,hS,m72⟩
 refine cnrm (mK2 (mO2 (mK2 (mO2 (mK10 (mO10 (mO1 mz))))))) (nz ?_)
 refine wl (s_nextR (et (k10 d7)) hS d0 (hc64 _ (le71 _ hS.a)) hq65 ?_ ?_)
 clear hS; intro k74 y75 n76 hi77 w7 rs_ hp_ hS; cases (show _=rs_ from hp_)
 replace hS:=Sep.reput hS p0; refine po ?_
 refine st (ny (cift (et (k10 d9)) (cskip (xn (cblock (nz (wl (s_entryR (et (k10 d7)) hS d0 (hc64 _ (le71 _ hS.a)) hq65 hi77 (dt (q20 p0)) ?_))))))))
 iterate 4 refine st ?_
 refine nx ?_
 iterate 3 refine st ?_
 refine nw ?_
 refine cifd (et (k20 d5)) (fun h79=>?_) (fun h80=>?_)
 obtain ⟨h81,h82⟩:=Mz.hit hq65 hi77 h79 g69; subst h82; replace h:=iT h81 h
 refine nz ?_
 iterate 2 refine st ?_
 obtain ⟨i87,g88,h⟩:=bI h
 refine wl (su (u_addc (et (k20 d7)) ec g88) (dt (q20 p8)) ?_)
 iterate 2 refine st ?_
 refine nw (cret ((fun h=>br (xr (br (br (xr (xr (br (xr h)))))))) ?_))
 obtain rfl:=oI h
 refine ret2 rfl d2 d3 ?_
 replace hS:=hS.drop Rm.z
 exact ⟨_,rfl,(le3.t (le48.t le71)),hS⟩
 obtain ⟨n84,h85,m86⟩:=Mz.step m72 hq65 hi77 h80
 refine cskip ?_
 refine (fun h=>bn (xl h)) ?_
 exact ⟨n84,_,_,rfl,(aK2 (aO2 (aK2 (aO2 (aK10 (aO10 (aO1 aZ))))))),⟨_,(sn70++[n76]),rfl,rfl,le71,hS,m86⟩,h85⟩
 intro hl78; replace h:=iF (Mz.fin m72 hq65 hl78 g69) h; refine po ?_
 refine st (ny (ciff (et (k10 d9)) (cexit ?_)))
 refine (fun h=>xe (xe (bh h))) ?_
 refine (fun h=>bn (xn h)) ?_
 refine creg ?_
 obtain ⟨i89,g90,h⟩:=bI h
 refine wl (su (u_addc (et (k10 d0)) ec g90) (dt (q20 p9)) (st (wnil (xl ?_))))
 replace hS:=hS.drop Rm.z
 exact ⟨n_1,_,_,rfl,(aK2 (aO6 (aK2 (aI (aO10 (aO9 aZ)))))),⟨_,i89,rfl,h,(le48.t le71),hS⟩,Nat.lt_succ_self _⟩
 replace h:=iF h49 h
 refine cexit ?_
 refine (fun h=>xe (xe (bh h))) ?_
 refine xn (cseq (nz (st (nw (cblock (nz ?_))))))
 iterate 2 refine st ?_
 refine nw ?_
 refine cifd (et (k30 d1)) (fun h91=>?_) (fun h91=>?_)
 replace h:=iT h91 h
 refine nz ?_
 iterate 2 refine st ?_
 refine nw (cret ?_)
 refine (fun h=>br (xr h)) ?_
 obtain rfl:=oI h
 refine ret2 rfl d2 d3 ?_
 exact ⟨_,rfl,(le3.t le48),hS⟩
 replace h:=iF h91 h
 refine nz ?_
 iterate 2 refine st ?_
 refine nw ?_
 refine cifd (et (k30 d3)) (fun h92=>?_) (fun h92=>?_)
 replace h:=iT h92 h
 refine nz ?_
 iterate 2 refine st ?_
 refine nw (cret ?_)
 refine (fun h=>br (xr h)) ?_
 obtain rfl:=oI h
 refine ret2 rfl d2 d3 ?_
 exact ⟨_,rfl,(le3.t le48),hS⟩
 replace h:=iF h92 h
 refine cskip ?_
 refine (fun h=>bn (xn h)) ?_
 refine nz ?_
 iterate 2 refine st ?_
 refine nw (cret ?_)
 obtain rfl:=oI h
 refine ret2 rfl d2 d3 ?_
 exact ⟨_,rfl,(le3.t le48),hS⟩
theorem pw_putd_w {μ0:M} {w0 w:World} {rsF:List Res} (hg:Le Gm μ0) {b1:Nat} {v2:Value} {buf_4:List UInt8} {v5:Value} {cs6:List Value} {p_2:List (List UInt8)} {a8:Option Addr} {c9:Nat} {r:List UInt8} (m3:Bp μ0 b1 v2) (m7:Rw μ0 cs6 buf_4) (m10:Sl μ0 a8 c9 p_2) (h:pw_putd buf_4 p_2=some r) (hS:Sq μ0 w0 w (.blk b1 58 [v2,v5]::.row v5 5 1 buf_4.length cs6::rsF)):CallsDV prog 49 [.pointer (some ⟨b1,0,none⟩),.slice a8 p_2.length c9] w (fun v w'=>∃ (μ':M) (v11:Value) (v13:Value) (cs14:List Value),v=.tuple ⟨[]⟩∧Le μ0 μ'∧Sq μ' w0 w' (.blk b1 58 [v11,v13]::.row v13 5 1 r.length cs14::rsF)∧Bp μ' b1 v11∧Rw μ' cs14 r):=by
 unfold pw_putd at h
 refine enterDD func49 rfl (frm:=[_,_,_,_,_,_,_,_,_,_,_,_,_,_,_,_,_,_,_,_,_,_,_,_,_,_,_]) rfl (nz (st (wl (su (u_lensl underlying122 (et d6)) (dt p7) (st (nw (cblock ?_)))))))
 refine cloopE ([5]++rg 9 18) (by decide) (fun n m w=>∃ μx i51 v52 l56 v54 cs55,m=(yK5 (yO1 5 (yK2 (.i (.int .i64 i51)::(yO10 9 (yO8 19 []))))))∧pw_putd_l1 p_2 n i51 l56=some r∧Le μ0 μx∧Sq μx w0 w (.blk b1 58 [v52,v54]::.row v54 5 1 l56.length cs55::rsF)∧Bp μx b1 v52∧Rw μx cs55 l56) (by rintro _ _ _ ⟨_,_,_,_,_,_,rfl,_⟩; rfl) _ _ (aK5 (aO1 (aK2 (aI (aO10 (aO8 aZ)))))) ⟨_,0,v2,buf_4,v5,cs6,rfl,h,Le.r,hS,m3,m7⟩ ?_
 rintro n_1 _ t w1 ⟨μ1,i51,v52,l56,v54,cs55,rfl,h,le93,hS,m94,m95⟩
 rcases n_1 with _|n_1
 cases h
 unfold pw_putd_l1 at h
 refine cnrm (mK5 (mO1 (mK2 (mi (mO10 (mO8 mz)))))) (nz (st (ny ?_)))
 refine cifd (et d9) (fun h96=>?_) (fun h96=>?_)
 replace h:=iT h96 h
 refine cskip (xn (cseq (cblock (nz ?_))))
 obtain ⟨x97,g98,h⟩:=bI h
 obtain ⟨b99,o100,cs101,e102,f103,m104⟩:=SlR.elem (m10.up le93) g98
 obtain rfl:=m104
 refine wl (su (u_iax underlying122 ti9 (et d6) (et d8) e102) (dt (q10 p0)) (ld ((f103 _ hS.a).one d0) (st (ny (nz ?_)))))
 iterate 3 refine st ?_
 obtain ⟨r105,g106,h⟩:=bI h
 replace hS:=(hS.bg Y1).bg Y1
 refine ca (bd_len_w (hg.t le93) m94 m95 g106 hS) ?_
 rintro _ w2 ⟨μ2,rfl,le107,hS⟩
 refine po (st (nw ?_))
 refine ccutE (rg 17 4) (by decide) (fun m w=>∃ μx v108 l112 v110 cs111,m=(yK10 (yK7 (yO4 17 [])))∧pw_putd_j1 i51 x97 (pw_putd_l1 p_2 n_1) l112=some r∧Le μ2 μx∧Sq μx w0 w (.blk b1 58 [v108,v110]::.row v110 5 1 l112.length cs111::rsF)∧Bp μx b1 v108∧Rw μx cs111 l112) (by rintro _ _ ⟨_,_,_,_,_,rfl,_⟩; rfl) ?_ ?_
 refine cifd (et (k10 d6)) (fun h114=>?_) (fun h114=>?_)
 replace h:=iT h114 h
 refine creg ?_
 iterate 3 refine st ?_
 obtain ⟨r115,g116,h⟩:=bI h
 replace hS:=(hS.bg Y1).bg Y1
 refine ca (bd_byte_w (hg.t (le93.t le107)) (m94.up le107) (m95.up le107) g116 hS) ?_
 rintro _ w3 ⟨μ3,v118,v120,cs121,rfl,le117,hS,m119,m122⟩
 refine po (wnil (xl ?_))
 exact ⟨_,_,rfl,(aK10 (aK7 (aO4 aZ))),_,_,r115.2,_,_,rfl,h,le117,hS,m119,m122⟩
 replace h:=iF h114 h
 refine cskip (xl ?_)
 exact ⟨_,_,rfl,(aK10 (aK7 (aO4 aZ))),_,_,_,_,_,rfl,h,Le.r,hS,(m94.up le107),(m95.up le107)⟩
 rintro _ t w4 ⟨μ4,v108,l112,v110,cs111,rfl,h,le123,hS,m124,m125⟩
 unfold pw_putd_j1 at h
 refine nrm (mK10 (mK7 (mO4 mz))) (xn (creg ?_))
 iterate 4 refine st ?_
 obtain ⟨r126,g127,h⟩:=bI h
 replace hS:=(hS.bg Y1).bg Y1
 refine ca (bd_str_w (hg.t (le93.t (le107.t le123))) m124 m125 g127 hS) ?_
 rintro _ w5 ⟨μ5,v129,v131,cs132,rfl,le128,hS,m130,m133⟩
 refine po (wnil ?_)
 refine (fun h=>bn (xn h)) ?_
 refine creg ?_
 obtain ⟨i134,g135,h⟩:=bI h
 refine wl (su (u_addc (et d8) ec g135) (dt (q20 p6)) (st (wnil (xl ?_))))
 exact ⟨n_1,_,_,rfl,(aK5 (aO1 (aK2 (aI (aO10 (aO8 aZ)))))),⟨_,i134,v129,r126.2.2,v131,cs132,rfl,h,(le93.t (le107.t (le123.t le128))),hS,m130,m133⟩,Nat.lt_succ_self _⟩
 replace h:=iF h96 h
 refine cexit ?_
 refine (fun h=>xe (xe (bh h))) ?_
 obtain rfl:=oI h
 refine end0 rfl ?_
 exact ⟨_,_,_,_,rfl,le93,hS,m94,m95⟩
theorem pw_put_w (hg:Le Gm μ0) {buf_4:List UInt8} {p_2:List (List UInt8)} {r:List UInt8} (m3:Bp μ0 b1 v2) (m7:Rw μ0 cs6 buf_4) (m10:Sl μ0 a8 c9 p_2) (h:pw_put buf_4 p_2=some r) (hS:Sq μ0 w0 w (.blk b1 58 [v2,v5]::.row v5 5 1 buf_4.length cs6::rsF)):CallsV prog 49 [.pointer (some ⟨b1,0,none⟩),.slice a8 p_2.length c9] w (fun v w'=>∃ (μ':M) (v11:Value) (v13:Value) (cs14:List Value),v=.tuple ⟨[]⟩∧Le μ0 μ'∧Sq μ' w0 w' (.blk b1 58 [v11,v13]::.row v13 5 1 r.length cs14::rsF)∧Bp μ' b1 v11∧Rw μ' cs14 r):=by
 unfold pw_put at h
 refine enter func49 rfl (frm:=_::_::u5 (u20 [])) rfl (nz (st (wl (su (u_lensl underlying122 (et d6)) (dt p7) (st (nw (cblock ?_)))))))
 refine cloopE ([5]++rg 9 18) (by decide) (fun n m w=>∃ μx i51 v52 l56 v54 cs55,m=(yK5 (yO1 5 (yK2 (.i (.int .i64 i51)::(yO10 9 (yO8 19 []))))))∧pw_put_l1 p_2 n i51 l56=some r∧Le μ0 μx∧Sq μx w0 w (.blk b1 58 [v52,v54]::.row v54 5 1 l56.length cs55::rsF)∧Bp μx b1 v52∧Rw μx cs55 l56) (by rintro _ _ _ ⟨_,_,_,_,_,_,rfl,_⟩; rfl) _ _ (aK5 (aO1 (aK2 (aI (aO10 (aO8 aZ)))))) ⟨_,0,v2,buf_4,v5,cs6,rfl,h,Le.r,hS,m3,m7⟩ ?_
 rintro n_1 _ t w1 ⟨μ1,i51,v52,l56,v54,cs55,rfl,h,le93,hS,m94,m95⟩
 rcases n_1 with _|n_1
 cases h
 unfold pw_put_l1 at h
 refine cnrm (mK5 (mO1 (mK2 (mi (mO10 (mO8 mz)))))) (nz (st (ny ?_)))
 refine cifd (et d9) (fun h96=>?_) (fun h96=>?_)
 replace h:=iT h96 h
 refine cskip (xn (cseq (cblock (nz ?_))))
 obtain ⟨x97,g98,h⟩:=bI h
 obtain ⟨b99,o100,cs101,e102,f103,m104⟩:=SlR.elem (m10.up le93) g98
 obtain rfl:=m104
 refine wl (su (u_iax underlying122 ti9 (et d6) (et d8) e102) (dt (q10 p0)) (ld ((f103 _ hS.a).one d0) (st (ny (nz ?_)))))
 iterate 3 refine st ?_
 obtain ⟨r105,g106,h⟩:=bI h
 replace hS:=(hS.bg Y1).bg Y1
 refine ca (bd_len_w (hg.t le93) m94 m95 g106 hS) ?_
 rintro _ w2 ⟨μ2,rfl,le107,hS⟩
 refine po (st (nw ?_))
 refine ccutE (rg 17 4) (by decide) (fun m w=>∃ μx v108 l112 v110 cs111,m=(yK10 (yK7 (yO4 17 [])))∧pw_put_j1 i51 x97 (pw_put_l1 p_2 n_1) l112=some r∧Le μ2 μx∧Sq μx w0 w (.blk b1 58 [v108,v110]::.row v110 5 1 l112.length cs111::rsF)∧Bp μx b1 v108∧Rw μx cs111 l112) (by rintro _ _ ⟨_,_,_,_,_,rfl,_⟩; rfl) ?_ ?_
 refine cifd (et (k10 d6)) (fun h114=>?_) (fun h114=>?_)
 replace h:=iT h114 h
 refine creg ?_
 iterate 3 refine st ?_
 obtain ⟨r115,g116,h⟩:=bI h
 replace hS:=(hS.bg Y1).bg Y1
 refine ca (bd_byte_w (hg.t (le93.t le107)) (m94.up le107) (m95.up le107) g116 hS) ?_
 rintro _ w3 ⟨μ3,v118,v120,cs121,rfl,le117,hS,m119,m122⟩
 refine po (wnil (xl ?_))
 exact ⟨_,_,rfl,(aK10 (aK7 (aO4 aZ))),_,_,r115.2,_,_,rfl,h,le117,hS,m119,m122⟩
 replace h:=iF h114 h
 refine cskip (xl ?_)
 exact ⟨_,_,rfl,(aK10 (aK7 (aO4 aZ))),_,_,_,_,_,rfl,h,Le.r,hS,(m94.up le107),(m95.up le107)⟩
 rintro _ t w4 ⟨μ4,v108,l112,v110,cs111,rfl,h,le123,hS,m124,m125⟩
 unfold pw_put_j1 at h
 refine nrm (mK10 (mK7 (mO4 mz))) (xn (creg ?_))
 iterate 4 refine st ?_
 obtain ⟨r126,g127,h⟩:=bI h
 replace hS:=(hS.bg Y1).bg Y1
 refine ca (bd_str_w (hg.t (le93.t (le107.t le123))) m124 m125 g127 hS) ?_
 rintro _ w5 ⟨μ5,v129,v131,cs132,rfl,le128,hS,m130,m133⟩
 refine po (wnil ?_)
 refine (fun h=>bn (xn h)) ?_
 refine creg ?_
 obtain ⟨i134,g135,h⟩:=bI h
 refine wl (su (u_addc (et d8) ec g135) (dt (q20 p6)) (st (wnil (xl ?_))))
 exact ⟨n_1,_,_,rfl,(aK5 (aO1 (aK2 (aI (aO10 (aO8 aZ)))))),⟨_,i134,v129,r126.2.2,v131,cs132,rfl,h,(le93.t (le107.t (le123.t le128))),hS,m130,m133⟩,Nat.lt_succ_self _⟩
 replace h:=iF h96 h
 refine cexit ?_
 refine (fun h=>xe (xe (bh h))) ?_
 obtain rfl:=oI h
 refine end0 rfl ?_
 exact ⟨_,_,_,_,rfl,le93,hS,m94,m95⟩
structure PrESound (sf:PrE):Prop where
  pw_expr:∀ {μ0:M} {w0 w:World} {rsF:List Res} (hg:Le Gm μ0) {b1:Nat} {v2:Value} {buf_4:List UInt8} {v5:Value} {cs6:List Value} {p_2:TExpr} {b8 o9:Nat} {a10:Option Addr} {c11:Nat} {p_3:Int} {r:List UInt8} (m3:Bp μ0 b1 v2) (m7:Rw μ0 cs6 buf_4) (m12:Sl μ0 a10 c11 p_2.Kids) (m13:At μ0 b8 o9 [.int .i64 p_2.Kind,.int .i64 p_2.N,S p_2.Name,.slice a10 p_2.Kids.length c11]) (h:sf.pw_expr buf_4 p_2 p_3=some r) (hS:Sq μ0 w0 w (.blk b1 58 [v2,v5]::.row v5 5 1 buf_4.length cs6::rsF)),CallsV prog 144 [.pointer (some ⟨b1,0,none⟩),.pointer (some ⟨b8,o9,none⟩),.int .i64 p_3] w (fun v w'=>∃ (μ':M) (v14:Value) (v16:Value) (cs17:List Value),v=.tuple ⟨[]⟩∧Le μ0 μ'∧Sq μ' w0 w' (.blk b1 58 [v14,v16]::.row v16 5 1 r.length cs17::rsF)∧Bp μ' b1 v14∧Rw μ' cs17 r)
  pw_args:∀ {μ0:M} {w0 w:World} {rsF:List Res} (hg:Le Gm μ0) {b1:Nat} {v2:Value} {buf_4:List UInt8} {v5:Value} {cs6:List Value} {p_2:List TExpr} {a8:Option Addr} {c9:Nat} {r:List UInt8} (m3:Bp μ0 b1 v2) (m7:Rw μ0 cs6 buf_4) (m10:Sl μ0 a8 c9 p_2) (h:sf.pw_args buf_4 p_2=some r) (hS:Sq μ0 w0 w (.blk b1 58 [v2,v5]::.row v5 5 1 buf_4.length cs6::rsF)),CallsV prog 175 [.pointer (some ⟨b1,0,none⟩),.slice a8 p_2.length c9] w (fun v w'=>∃ (μ':M) (v11:Value) (v13:Value) (cs14:List Value),v=.tuple ⟨[]⟩∧Le μ0 μ'∧Sq μ' w0 w' (.blk b1 58 [v11,v13]::.row v13 5 1 r.length cs14::rsF)∧Bp μ' b1 v11∧Rw μ' cs14 r)
theorem pw_expr_w {self:PrE} (IH:PrESound self) {μ0:M} {w0 w:World} {rsF:List Res} (hg:Le Gm μ0) {b1:Nat} {v2:Value} {buf_4:List UInt8} {v5:Value} {cs6:List Value} {p_2:TExpr} {b8 o9:Nat} {a10:Option Addr} {c11:Nat} {p_3:Int} {r:List UInt8} (m3:Bp μ0 b1 v2) (m7:Rw μ0 cs6 buf_4) (m12:Sl μ0 a10 c11 p_2.Kids) (m13:At μ0 b8 o9 [.int .i64 p_2.Kind,.int .i64 p_2.N,S p_2.Name,.slice a10 p_2.Kids.length c11]) (h:pw_expr self buf_4 p_2 p_3=some r) (hS:Sq μ0 w0 w (.blk b1 58 [v2,v5]::.row v5 5 1 buf_4.length cs6::rsF)):CallsV prog 144 [.pointer (some ⟨b1,0,none⟩),.pointer (some ⟨b8,o9,none⟩),.int .i64 p_3] w (fun v w'=>∃ (μ':M) (v14:Value) (v16:Value) (cs17:List Value),v=.tuple ⟨[]⟩∧Le μ0 μ'∧Sq μ' w0 w' (.blk b1 58 [v14,v16]::.row v16 5 1 r.length cs17::rsF)∧Bp μ' b1 v14∧Rw μ' cs17 r):=by
 unfold pw_expr at h
 refine enterF func144 rfl (frm:=_::_::_::u2 (u2 (u5 (u10 (u50 (u50 (u50 []))))))) rfl (nz ?_)
 iterate 3 refine st ?_
 refine ld ((m13 _ hS.a).one d0) ?_
 obtain ⟨r19,g20,h⟩:=bI h
 refine ca (pr_tight_w hg g20 hS) ?_
 rintro _ w1 ⟨μ1,rfl,le21,hS⟩
 refine po ?_
 iterate 5 refine st ?_
 refine ny (nz ?_)
 iterate 3 refine st ?_
 refine nw ?_
 refine cifd (et (k10 d9)) (fun h22=>?_) (fun h22=>?_)
 replace h:=iT h22 h
 refine nz (st ?_)
 refine wl (s_bsl underlying122 ti9 (Parts.s ec rfl Parts.z) rfl rfl hS ?_); clear hS; intro b23 w2 hb24 hS; refine po ?_
 obtain ⟨μ2,le26,m25,hS⟩:=Sep.frzBlk (l:=([[40]]:List (List UInt8))) hS (Rw.one (α:=List UInt8) rfl) (Nat.le_of_ble_eq_true rfl)
 obtain ⟨r27,g28,h⟩:=bI h
 replace hS:=(hS.bg Y1).bg Y1
 refine ca (pw_put_w (hg.t (le21.t le26)) (m3.up (le21.t le26)) (m7.up (le21.t le26)) m25 g28 hS) ?_
 rintro _ w3 ⟨μ3,v30,v32,cs33,rfl,le29,hS,m31,m34⟩
 refine po (nw (creg (st ?_)))
 refine wl (s_bsl underlying122 ti9 (Parts.s ec rfl Parts.z) rfl rfl hS ?_); clear hS; intro b35 w4 hb36 hS; refine po ?_
 refine wl (s_defer ef (e1 (et (k20 d3)) (e1 (et (k20 d4)) e0)) dn (nx ?_))
 iterate 3 refine st ?_
 refine ld ((m13 _ ((le21.t (le26.t le29)) _ hS.a)).one d0) (nw (cblock (nz ?_)))
 iterate 2 refine st ?_
 refine nw ?_
 refine cifd (et (k50 d5)) (fun h37=>?_) (fun h37=>?_)
 replace h:=iT h37 h
 refine creg ?_
 iterate 4 refine st ?_
 refine ld ((m13 _ ((le21.t (le26.t le29)) _ hS.a)).one d1) ?_
 obtain ⟨s38,g39,h⟩:=bI h
 refine wl (s_callv isfn174 ef (e1 (et (k60 d1)) (e1 ec e0)) (fmt_w (hg.t (le21.t (le26.t le29))) g39 hS) ?_); clear hS; rintro _ w5 ⟨rfl,hS⟩; refine po ?_
 refine wl (s_bsl underlying122 ti9 (Parts.s (et (k60 d2)) rfl Parts.z) rfl rfl hS ?_); clear hS; intro b40 w6 hb41 hS; refine po ?_
 obtain ⟨μ4,le43,m42,hS⟩:=Sep.frzBlk (l:=([s38]:List (List UInt8))) hS (Rw.one (α:=List UInt8) rfl) (Nat.le_of_ble_eq_true rfl)
 obtain ⟨r44,g45,h⟩:=bI h
 replace hS:=(hS.bg Y2).bg Y2
 refine ca (pw_put_w (hg.t (le21.t (le26.t (le29.t le43)))) (m31.up le43) (m34.up le43) m42 g45 hS) ?_
 rintro _ w7 ⟨μ5,v47,v49,cs50,rfl,le46,hS,m48,m51⟩
 refine po (wnil (bn (endD ?_)))
 replace hS:=hS.bg Y2
 obtain ⟨μ6,le53,m52,hS⟩:=Sep.frzBlk (l:=([[41]]:List (List UInt8))) hS (Rw.one (α:=List UInt8) rfl) (Nat.le_of_ble_eq_true rfl)
 obtain ⟨r54,g55,h⟩:=bI h
 replace hS:=(hS.bg Y1).bg Y1
 refine retD isfn49 (pw_putd_w (hg.t (le21.t (le26.t (le29.t (le43.t (le46.t le53)))))) (m48.up le53) (m51.up le53) m52 g55 hS) ?_
 rintro _ w8 ⟨μ7,v57,v59,cs60,rfl,le56,hS,m58,m61⟩
 obtain rfl:=oI h
 refine retDN rfl RVs.z ?_
 exact ⟨_,_,_,_,rfl,(le21.t (le26.t (le29.t (le43.t (le46.t (le53.t le56)))))),hS,m58,m61⟩
 replace h:=iF h37 h
 refine nz ?_
 iterate 2 refine st ?_
 refine nw ?_
 refine cifd (et (k60 d5)) (fun h62=>?_) (fun h62=>?_)
 replace h:=iT h62 h
 refine creg (st ?_)
 refine wl (s_bsl underlying122 ti9 (Parts.s ec rfl (Parts.s ec rfl Parts.z)) rfl rfl hS ?_); clear hS; intro b63 w9 hb64 hS; refine po ?_
 iterate 3 refine st ?_
 refine ld ((m13 _ ((le21.t (le26.t le29)) _ hS.a)).one d1) ?_
 obtain ⟨μ8,le66,m65,hS⟩:=Sep.frzBlk (l:=([[102,97,108,115,101],[116,114,117,101]]:List (List UInt8))) hS (Rw.cons (α:=List UInt8) (cs:=[S [102,97,108,115,101]]) rfl (Rw.cons (α:=List UInt8) (cs:=[S [116,114,117,101]]) rfl Rw.nil)) (Nat.le_of_ble_eq_true rfl)
 obtain ⟨x67,g68,h⟩:=bI h
 obtain ⟨b69,o70,cs71,e72,f73,m74⟩:=SlR.elem m65 g68
 obtain rfl:=m74
 refine wl (su (u_iax underlying122 ti9 (et (k60 d8)) (et (k70 d2)) e72) (dt (q70 p3)) (ld ((f73 _ hS.a).one d0) ?_))
 refine wl (s_bsl underlying122 ti9 (Parts.s (et (k70 d4)) rfl Parts.z) rfl rfl hS ?_); clear hS; intro b75 w10 hb76 hS; refine po ?_
 obtain ⟨μ9,le78,m77,hS⟩:=Sep.frzBlk (l:=([x67]:List (List UInt8))) hS (Rw.one (α:=List UInt8) rfl) (Nat.le_of_ble_eq_true rfl)
 obtain ⟨r79,g80,h⟩:=bI h
 replace hS:=(hS.bg Y2).bg Y2
 refine ca (pw_put_w (hg.t (le21.t (le26.t (le29.t (le66.t le78))))) (m31.up (le66.t le78)) (m34.up (le66.t le78)) m77 g80 hS) ?_
 rintro _ w11 ⟨μ10,v82,v84,cs85,rfl,le81,hS,m83,m86⟩
 refine po (wnil (bn (endD ?_)))
 replace hS:=hS.bg Y2
 obtain ⟨μ11,le88,m87,hS⟩:=Sep.frzBlk (l:=([[41]]:List (List UInt8))) hS (Rw.one (α:=List UInt8) rfl) (Nat.le_of_ble_eq_true rfl)
 obtain ⟨r89,g90,h⟩:=bI h
 replace hS:=(hS.bg Y1).bg Y1
 refine retD isfn49 (pw_putd_w (hg.t (le21.t (le26.t (le29.t (le66.t (le78.t (le81.t le88))))))) (m83.up le88) (m86.up le88) m87 g90 hS) ?_
 rintro _ w12 ⟨μ12,v92,v94,cs95,rfl,le91,hS,m93,m96⟩
 obtain rfl:=oI h
 refine retDN rfl RVs.z ?_
 exact ⟨_,_,_,_,rfl,(le21.t (le26.t (le29.t (le66.t (le78.t (le81.t (le88.t le91))))))),hS,m93,m96⟩
 replace h:=iF h62 h
 refine nz ?_
 iterate 2 refine st ?_
 refine nw ?_
 refine cifd (et (k70 d7)) (fun h97=>?_) (fun h97=>?_)
 replace h:=iT h97 h
 refine creg ?_
 iterate 4 refine st ?_
 refine ld ((m13 _ ((le21.t (le26.t le29)) _ hS.a)).one d2) ?_
 refine wl (s_bsl underlying122 ti9 (Parts.s (et (k80 d3)) rfl Parts.z) rfl rfl hS ?_); clear hS; intro b98 w13 hb99 hS; refine po ?_
 obtain ⟨μ13,le101,m100,hS⟩:=Sep.frzBlk (l:=([p_2.Name]:List (List UInt8))) hS (Rw.one (α:=List UInt8) rfl) (Nat.le_of_ble_eq_true rfl)
 obtain ⟨r102,g103,h⟩:=bI h
 replace hS:=(hS.bg Y2).bg Y2
 refine ca (pw_put_w (hg.t (le21.t (le26.t (le29.t le101)))) (m31.up le101) (m34.up le101) m100 g103 hS) ?_
 rintro _ w14 ⟨μ14,v105,v107,cs108,rfl,le104,hS,m106,m109⟩
 refine po (wnil (bn (endD ?_)))
 replace hS:=hS.bg Y2
 obtain ⟨μ15,le111,m110,hS⟩:=Sep.frzBlk (l:=([[41]]:List (List UInt8))) hS (Rw.one (α:=List UInt8) rfl) (Nat.le_of_ble_eq_true rfl)
 obtain ⟨r112,g113,h⟩:=bI h
 replace hS:=(hS.bg Y1).bg Y1
 refine retD isfn49 (pw_putd_w (hg.t (le21.t (le26.t (le29.t (le101.t (le104.t le111)))))) (m106.up le111) (m109.up le111) m110 g113 hS) ?_
 rintro _ w15 ⟨μ16,v115,v117,cs118,rfl,le114,hS,m116,m119⟩
 obtain rfl:=oI h
 refine retDN rfl RVs.z ?_
 exact ⟨_,_,_,_,rfl,(le21.t (le26.t (le29.t (le101.t (le104.t (le111.t le114)))))),hS,m116,m119⟩
 replace h:=iF h97 h
 refine cseq (nz ?_)
 iterate 2 refine st ?_
 refine nw ?_
 refine ccutE ([88]) (by decide) (fun m w=>∃ μx b120,m=(yK50 (yK20 (yK10 (yK6 (.i (.bool b120)::(yK1 (yO1 88 [])))))))∧pw_expr_j1 self p_2 r19 r27 b120=some r∧Le μ3 μx∧Sq μx w0 w (.blk b1 58 [v30,v32]::.row v32 5 1 r27.length cs33::.blk b35 9 [S [41]]::rsF)) (by rintro _ _ ⟨_,_,rfl,_⟩; rfl) ?_ ?_
 refine cifd (et (k80 d6)) (fun h121=>?_) (fun h121=>?_)
 replace h:=iT h121 h
 refine cskip (xl ?_)
 replace hS:=(hS.bg Y2).bg Y2
 exact ⟨_,_,rfl,(aK50 (aK20 (aK10 (aK6 (aI (aK1 (aO1 aZ))))))),_,(decide (p_2.Kind=4)),rfl,h,Le.r,hS⟩
 replace h:=iF h121 h
 refine creg ?_
 iterate 2 refine st ?_
 refine wnil (xl ?_)
 replace hS:=(hS.bg Y2).bg Y2
 exact ⟨_,_,rfl,(aK50 (aK20 (aK10 (aK6 (aI (aK1 (aO1 aZ))))))),_,(decide (p_2.Kind=5)),rfl,h,Le.r,hS⟩
 rintro _ t w16 ⟨μ17,b120,rfl,h,le122,hS⟩
 unfold pw_expr_j1 at h
 refine nrm (mK50 (mK20 (mK10 (mK6 (mi (mK1 (mO1 mz))))))) (xn ?_)
 refine cifb (et (k80 d6)) (fun h123=>?_) (fun h123=>?_)
 replace h:=iT h123 h
 refine nz ?_
 iterate 2 refine st ?_
 refine wl (s_bsl underlying122 ti9 (Parts.s (et (k90 d0)) rfl Parts.z) rfl rfl hS ?_); clear hS; intro b124 w17 hb125 hS; refine po ?_
 obtain ⟨μ18,le127,m126,hS⟩:=Sep.frzBlk (l:=([r19.1]:List (List UInt8))) hS (Rw.one (α:=List UInt8) rfl) (Nat.le_of_ble_eq_true rfl)
 obtain ⟨r128,g129,h⟩:=bI h
 replace hS:=(hS.bg Y1).bg Y1
 refine ca (pw_put_w (hg.t (le21.t (le26.t (le29.t (le122.t le127))))) (m31.up (le122.t le127)) (m34.up (le122.t le127)) m126 g129 hS) ?_
 rintro _ w18 ⟨μ19,v131,v133,cs134,rfl,le130,hS,m132,m135⟩
 refine po (nw (creg ?_))
 iterate 4 refine st ?_
 refine ld ((m13 _ ((le21.t (le26.t (le29.t (le122.t (le127.t le130))))) _ hS.a)).one d3) ?_
 obtain ⟨x136,g137,h⟩:=bI h
 obtain ⟨b138,o139,cs140,e141,f142,m143⟩:=SlR.elem (m12.up (le21.t (le26.t (le29.t (le122.t (le127.t le130)))))) g137
 obtain ⟨a144,c145,rfl,m146⟩:=TExpr.o m143
 refine wl (su (u_iax underlying109 ti111 (et (k90 d7)) ec e141) (dt (q90 p8)) ?_)
 obtain ⟨r147,g148,h⟩:=bI h
 replace hS:=(hS.bg Y1).bg Y1
 refine ca (IH.pw_expr (hg.t (le21.t (le26.t (le29.t (le122.t (le127.t le130)))))) m132 m135 m146 f142 g148 hS) ?_
 rintro _ w19 ⟨μ20,v150,v152,cs153,rfl,le149,hS,m151,m154⟩
 refine po (wnil (bn (endD ?_)))
 replace hS:=hS.bg Y2
 obtain ⟨μ21,le156,m155,hS⟩:=Sep.frzBlk (l:=([[41]]:List (List UInt8))) hS (Rw.one (α:=List UInt8) rfl) (Nat.le_of_ble_eq_true rfl)
 obtain ⟨r157,g158,h⟩:=bI h
 replace hS:=(hS.bg Y1).bg Y1
 refine retD isfn49 (pw_putd_w (hg.t (le21.t (le26.t (le29.t (le122.t (le127.t (le130.t (le149.t le156)))))))) (m151.up le156) (m154.up le156) m155 g158 hS) ?_
 rintro _ w20 ⟨μ22,v160,v162,cs163,rfl,le159,hS,m161,m164⟩
 obtain rfl:=oI h
 refine retDN rfl RVs.z ?_
 exact ⟨_,_,_,_,rfl,(le21.t (le26.t (le29.t (le122.t (le127.t (le130.t (le149.t (le156.t le159)))))))),hS,m161,m164⟩
 replace h:=iF h123 h
 refine nz ?_
 iterate 2 refine st ?_
 refine nw ?_
 refine cifd (et (k100 d0)) (fun h165=>?_) (fun h165=>?_)
 replace h:=iT h165 h
 refine creg ?_
 iterate 4 refine st ?_
 refine ld ((m13 _ ((le21.t (le26.t (le29.t le122))) _ hS.a)).one d2) ?_
 refine wl (s_bsl underlying122 ti9 (Parts.s ec rfl (Parts.s ec rfl (Parts.s (et (k100 d6)) rfl (Parts.s ec rfl Parts.z)))) rfl rfl hS ?_); clear hS; intro b166 w21 hb167 hS; refine po ?_
 obtain ⟨μ23,le169,m168,hS⟩:=Sep.frzBlk (l:=([[114,101,99,118],[40],p_2.Name,[41]]:List (List UInt8))) hS (Rw.cons (α:=List UInt8) (cs:=[S [114,101,99,118]]) rfl (Rw.cons (α:=List UInt8) (cs:=[S [40]]) rfl (Rw.cons (α:=List UInt8) (cs:=[S p_2.Name]) rfl (Rw.cons (α:=List UInt8) (cs:=[S [41]]) rfl Rw.nil)))) (Nat.le_of_ble_eq_true rfl)
 obtain ⟨r170,g171,h⟩:=bI h
 replace hS:=(hS.bg Y1).bg Y1
 refine ca (pw_put_w (hg.t (le21.t (le26.t (le29.t (le122.t le169))))) (m31.up (le122.t le169)) (m34.up (le122.t le169)) m168 g171 hS) ?_
 rintro _ w22 ⟨μ24,v173,v175,cs176,rfl,le172,hS,m174,m177⟩
 refine po (wnil (bn (endD ?_)))
 replace hS:=hS.bg Y2
 obtain ⟨μ25,le179,m178,hS⟩:=Sep.frzBlk (l:=([[41]]:List (List UInt8))) hS (Rw.one (α:=List UInt8) rfl) (Nat.le_of_ble_eq_true rfl)
 obtain ⟨r180,g181,h⟩:=bI h
 replace hS:=(hS.bg Y1).bg Y1
 refine retD isfn49 (pw_putd_w (hg.t (le21.t (le26.t (le29.t (le122.t (le169.t (le172.t le179))))))) (m174.up le179) (m177.up le179) m178 g181 hS) ?_
 rintro _ w23 ⟨μ26,v183,v185,cs186,rfl,le182,hS,m184,m187⟩
 obtain rfl:=oI h
 refine retDN rfl RVs.z ?_
 exact ⟨_,_,_,_,rfl,(le21.t (le26.t (le29.t (le122.t (le169.t (le172.t (le179.t le182))))))),hS,m184,m187⟩
 replace h:=iF h165 h
 refine nz ?_
 iterate 2 refine st ?_
 refine nw ?_
 refine cifd (et (k100 d9)) (fun h188=>?_) (fun h188=>?_)
 replace h:=iT h188 h
 refine nz (st ?_)
 refine wl (s_bsl underlying122 ti9 (Parts.s ec rfl Parts.z) rfl rfl hS ?_); clear hS; intro b189 w24 hb190 hS; refine po ?_
 obtain ⟨μ27,le192,m191,hS⟩:=Sep.frzBlk (l:=([[121,105,101,108,100]]:List (List UInt8))) hS (Rw.one (α:=List UInt8) rfl) (Nat.le_of_ble_eq_true rfl)
 obtain ⟨r193,g194,h⟩:=bI h
 replace hS:=(hS.bg Y1).bg Y1
 refine ca (pw_put_w (hg.t (le21.t (le26.t (le29.t (le122.t le192))))) (m31.up (le122.t le192)) (m34.up (le122.t le192)) m191 g194 hS) ?_
 rintro _ w25 ⟨μ28,v196,v198,cs199,rfl,le195,hS,m197,m200⟩
 refine po (nw (creg ?_))
 iterate 4 refine st ?_
 refine ld ((m13 _ ((le21.t (le26.t (le29.t (le122.t (le192.t le195))))) _ hS.a)).one d3) ?_
 obtain ⟨r201,g202,h⟩:=bI h
 replace hS:=(hS.bg Y1).bg Y1
 refine ca (IH.pw_args (hg.t (le21.t (le26.t (le29.t (le122.t (le192.t le195)))))) m197 m200 (m12.up (le21.t (le26.t (le29.t (le122.t (le192.t le195)))))) g202 hS) ?_
 rintro _ w26 ⟨μ29,v204,v206,cs207,rfl,le203,hS,m205,m208⟩
 refine po (wnil (bn (endD ?_)))
 replace hS:=hS.bg Y2
 obtain ⟨μ30,le210,m209,hS⟩:=Sep.frzBlk (l:=([[41]]:List (List UInt8))) hS (Rw.one (α:=List UInt8) rfl) (Nat.le_of_ble_eq_true rfl)
 obtain ⟨r211,g212,h⟩:=bI h
 replace hS:=(hS.bg Y1).bg Y1
 refine retD isfn49 (pw_putd_w (hg.t (le21.t (le26.t (le29.t (le122.t (le192.t (le195.t (le203.t le210)))))))) (m205.up le210) (m208.up le210) m209 g212 hS) ?_
 rintro _ w27 ⟨μ31,v214,v216,cs217,rfl,le213,hS,m215,m218⟩
 obtain rfl:=oI h
 refine retDN rfl RVs.z ?_
 exact ⟨_,_,_,_,rfl,(le21.t (le26.t (le29.t (le122.t (le192.t (le195.t (le203.t (le210.t le213)))))))),hS,m215,m218⟩
 replace h:=iF h188 h
 refine nz ?_
 iterate 2 refine st ?_
 refine nw ?_
 refine cifd (et (k100 (k20 d0))) (fun h219=>?_) (fun h219=>?_)
 replace h:=iT h219 h
 refine nz (st ?_)
 refine wl (s_bsl underlying122 ti9 (Parts.s ec rfl Parts.z) rfl rfl hS ?_); clear hS; intro b220 w28 hb221 hS; refine po ?_
 obtain ⟨μ32,le223,m222,hS⟩:=Sep.frzBlk (l:=([[114,101,115,117,109,101]]:List (List UInt8))) hS (Rw.one (α:=List UInt8) rfl) (Nat.le_of_ble_eq_true rfl)
 obtain ⟨r224,g225,h⟩:=bI h
 replace hS:=(hS.bg Y1).bg Y1
 refine ca (pw_put_w (hg.t (le21.t (le26.t (le29.t (le122.t le223))))) (m31.up (le122.t le223)) (m34.up (le122.t le223)) m222 g225 hS) ?_
 rintro _ w29 ⟨μ33,v227,v229,cs230,rfl,le226,hS,m228,m231⟩
 refine po (nw (creg ?_))
 iterate 4 refine st ?_
 refine ld ((m13 _ ((le21.t (le26.t (le29.t (le122.t (le223.t le226))))) _ hS.a)).one d3) ?_
 obtain ⟨r232,g233,h⟩:=bI h
 replace hS:=(hS.bg Y1).bg Y1
 refine ca (IH.pw_args (hg.t (le21.t (le26.t (le29.t (le122.t (le223.t le226)))))) m228 m231 (m12.up (le21.t (le26.t (le29.t (le122.t (le223.t le226)))))) g233 hS) ?_
 rintro _ w30 ⟨μ34,v235,v237,cs238,rfl,le234,hS,m236,m239⟩
 refine po (wnil (bn (endD ?_)))
 replace hS:=hS.bg Y2
 obtain ⟨μ35,le241,m240,hS⟩:=Sep.frzBlk (l:=([[41]]:List (List UInt8))) hS (Rw.one (α:=List UInt8) rfl) (Nat.le_of_ble_eq_true rfl)
 obtain ⟨r242,g243,h⟩:=bI h
 replace hS:=(hS.bg Y1).bg Y1
 refine retD isfn49 (pw_putd_w (hg.t (le21.t (le26.t (le29.t (le122.t (le223.t (le226.t (le234.t le241)))))))) (m236.up le241) (m239.up le241) m240 g243 hS) ?_
 rintro _ w31 ⟨μ36,v245,v247,cs248,rfl,le244,hS,m246,m249⟩
 obtain rfl:=oI h
 refine retDN rfl RVs.z ?_
 exact ⟨_,_,_,_,rfl,(le21.t (le26.t (le29.t (le122.t (le223.t (le226.t (le234.t (le241.t le244)))))))),hS,m246,m249⟩
 replace h:=iF h219 h
 refine nz ?_
 iterate 2 refine st ?_
 refine nw ?_
 refine cifd (et (k100 (k30 d1))) (fun h250=>?_) (fun h250=>?_)
 replace h:=iT h250 h
 refine nz (st ?_)
 refine wl (s_bsl underlying122 ti9 (Parts.s ec rfl Parts.z) rfl rfl hS ?_); clear hS; intro b251 w32 hb252 hS; refine po ?_
 obtain ⟨μ37,le254,m253,hS⟩:=Sep.frzBlk (l:=([[97,108,105,118,101]]:List (List UInt8))) hS (Rw.one (α:=List UInt8) rfl) (Nat.le_of_ble_eq_true rfl)
 obtain ⟨r255,g256,h⟩:=bI h
 replace hS:=(hS.bg Y1).bg Y1
 refine ca (pw_put_w (hg.t (le21.t (le26.t (le29.t (le122.t le254))))) (m31.up (le122.t le254)) (m34.up (le122.t le254)) m253 g256 hS) ?_
 rintro _ w33 ⟨μ38,v258,v260,cs261,rfl,le257,hS,m259,m262⟩
 refine po (nw (creg ?_))
 iterate 4 refine st ?_
 refine ld ((m13 _ ((le21.t (le26.t (le29.t (le122.t (le254.t le257))))) _ hS.a)).one d3) ?_
 obtain ⟨r263,g264,h⟩:=bI h
 replace hS:=(hS.bg Y1).bg Y1
 refine ca (IH.pw_args (hg.t (le21.t (le26.t (le29.t (le122.t (le254.t le257)))))) m259 m262 (m12.up (le21.t (le26.t (le29.t (le122.t (le254.t le257)))))) g264 hS) ?_
 rintro _ w34 ⟨μ39,v266,v268,cs269,rfl,le265,hS,m267,m270⟩
 refine po (wnil (bn (endD ?_)))
 replace hS:=hS.bg Y2
 obtain ⟨μ40,le272,m271,hS⟩:=Sep.frzBlk (l:=([[41]]:List (List UInt8))) hS (Rw.one (α:=List UInt8) rfl) (Nat.le_of_ble_eq_true rfl)
 obtain ⟨r273,g274,h⟩:=bI h
 replace hS:=(hS.bg Y1).bg Y1
 refine retD isfn49 (pw_putd_w (hg.t (le21.t (le26.t (le29.t (le122.t (le254.t (le257.t (le265.t le272)))))))) (m267.up le272) (m270.up le272) m271 g274 hS) ?_
 rintro _ w35 ⟨μ41,v276,v278,cs279,rfl,le275,hS,m277,m280⟩
 obtain rfl:=oI h
 refine retDN rfl RVs.z ?_
 exact ⟨_,_,_,_,rfl,(le21.t (le26.t (le29.t (le122.t (le254.t (le257.t (le265.t (le272.t le275)))))))),hS,m277,m280⟩
 replace h:=iF h250 h
 refine nz ?_
 iterate 2 refine st ?_
 refine nw ?_
 refine cifd (et (k100 (k40 d2))) (fun h281=>?_) (fun h281=>?_)
 replace h:=iT h281 h
 refine nz ?_
 iterate 4 refine st ?_
 refine ld ((m13 _ ((le21.t (le26.t (le29.t le122))) _ hS.a)).one d2) ?_
 refine wl (s_bsl underlying122 ti9 (Parts.s ec rfl (Parts.s (et (k100 (k40 d8))) rfl Parts.z)) rfl rfl hS ?_); clear hS; intro b282 w36 hb283 hS; refine po ?_
 obtain ⟨μ42,le285,m284,hS⟩:=Sep.frzBlk (l:=([[115,116,97,114,116],p_2.Name]:List (List UInt8))) hS (Rw.cons (α:=List UInt8) (cs:=[S [115,116,97,114,116]]) rfl (Rw.cons (α:=List UInt8) (cs:=[S p_2.Name]) rfl Rw.nil)) (Nat.le_of_ble_eq_true rfl)
 obtain ⟨r286,g287,h⟩:=bI h
 replace hS:=(hS.bg Y1).bg Y1
 refine ca (pw_put_w (hg.t (le21.t (le26.t (le29.t (le122.t le285))))) (m31.up (le122.t le285)) (m34.up (le122.t le285)) m284 g287 hS) ?_
 rintro _ w37 ⟨μ43,v289,v291,cs292,rfl,le288,hS,m290,m293⟩
 refine po (nw (creg ?_))
 iterate 4 refine st ?_
 refine ld ((m13 _ ((le21.t (le26.t (le29.t (le122.t (le285.t le288))))) _ hS.a)).one d3) ?_
 obtain ⟨r294,g295,h⟩:=bI h
 replace hS:=(hS.bg Y1).bg Y1
 refine ca (IH.pw_args (hg.t (le21.t (le26.t (le29.t (le122.t (le285.t le288)))))) m290 m293 (m12.up (le21.t (le26.t (le29.t (le122.t (le285.t le288)))))) g295 hS) ?_
 rintro _ w38 ⟨μ44,v297,v299,cs300,rfl,le296,hS,m298,m301⟩
 refine po (wnil (bn (endD ?_)))
 replace hS:=hS.bg Y2
 obtain ⟨μ45,le303,m302,hS⟩:=Sep.frzBlk (l:=([[41]]:List (List UInt8))) hS (Rw.one (α:=List UInt8) rfl) (Nat.le_of_ble_eq_true rfl)
 obtain ⟨r304,g305,h⟩:=bI h
 replace hS:=(hS.bg Y1).bg Y1
 refine retD isfn49 (pw_putd_w (hg.t (le21.t (le26.t (le29.t (le122.t (le285.t (le288.t (le296.t le303)))))))) (m298.up le303) (m301.up le303) m302 g305 hS) ?_
 rintro _ w39 ⟨μ46,v307,v309,cs310,rfl,le306,hS,m308,m311⟩
 obtain rfl:=oI h
 refine retDN rfl RVs.z ?_
 exact ⟨_,_,_,_,rfl,(le21.t (le26.t (le29.t (le122.t (le285.t (le288.t (le296.t (le303.t le306)))))))),hS,m308,m311⟩
 replace h:=iF h281 h
 refine nz ?_
 iterate 2 refine st ?_
 refine nw ?_
 refine cifd (et (k100 (k50 d7))) (fun h312=>?_) (fun h312=>?_)
 replace h:=iT h312 h
 refine nz ?_
 iterate 4 refine st ?_
 refine ld ((m13 _ ((le21.t (le26.t (le29.t le122))) _ hS.a)).one d2) ?_
 refine wl (s_bsl underlying122 ti9 (Parts.s (et (k100 (k60 d3))) rfl Parts.z) rfl rfl hS ?_); clear hS; intro b313 w40 hb314 hS; refine po ?_
 obtain ⟨μ47,le316,m315,hS⟩:=Sep.frzBlk (l:=([p_2.Name]:List (List UInt8))) hS (Rw.one (α:=List UInt8) rfl) (Nat.le_of_ble_eq_true rfl)
 obtain ⟨r317,g318,h⟩:=bI h
 replace hS:=(hS.bg Y1).bg Y1
 refine ca (pw_put_w (hg.t (le21.t (le26.t (le29.t (le122.t le316))))) (m31.up (le122.t le316)) (m34.up (le122.t le316)) m315 g318 hS) ?_
 rintro _ w41 ⟨μ48,v320,v322,cs323,rfl,le319,hS,m321,m324⟩
 refine po (nw (creg ?_))
 iterate 4 refine st ?_
 refine ld ((m13 _ ((le21.t (le26.t (le29.t (le122.t (le316.t le319))))) _ hS.a)).one d3) ?_
 obtain ⟨r325,g326,h⟩:=bI h
 replace hS:=(hS.bg Y1).bg Y1
 refine ca (IH.pw_args (hg.t (le21.t (le26.t (le29.t (le122.t (le316.t le319)))))) m321 m324 (m12.up (le21.t (le26.t (le29.t (le122.t (le316.t le319)))))) g326 hS) ?_
 rintro _ w42 ⟨μ49,v328,v330,cs331,rfl,le327,hS,m329,m332⟩
 refine po (wnil (bn (endD ?_)))
 replace hS:=hS.bg Y2
 obtain ⟨μ50,le334,m333,hS⟩:=Sep.frzBlk (l:=([[41]]:List (List UInt8))) hS (Rw.one (α:=List UInt8) rfl) (Nat.le_of_ble_eq_true rfl)
 obtain ⟨r335,g336,h⟩:=bI h
 replace hS:=(hS.bg Y1).bg Y1
 refine retD isfn49 (pw_putd_w (hg.t (le21.t (le26.t (le29.t (le122.t (le316.t (le319.t (le327.t le334)))))))) (m329.up le334) (m332.up le334) m333 g336 hS) ?_
 rintro _ w43 ⟨μ51,v338,v340,cs341,rfl,le337,hS,m339,m342⟩
 obtain rfl:=oI h
 refine retDN rfl RVs.z ?_
 exact ⟨_,_,_,_,rfl,(le21.t (le26.t (le29.t (le122.t (le316.t (le319.t (le327.t (le334.t le337)))))))),hS,m339,m342⟩
 replace h:=iF h312 h
 refine nz ?_
 iterate 2 refine st ?_
 refine ny (nz ?_)
 iterate 2 refine st ?_
 refine nw ?_
 refine ccutE (rg 32 2) (by decide) (fun m w=>∃ μx i343,m=(yK8 (.i (.int .i64 i343)::(yK20 (yK3 (yO2 32 [])))))∧pw_expr_j2 self p_2 r19 r27 i343=some r∧Le μ17 μx∧Sq μx w0 w (.blk b1 58 [v30,v32]::.row v32 5 1 r27.length cs33::.blk b35 9 [S [41]]::rsF)) (by rintro _ _ ⟨_,_,rfl,_⟩; rfl) ?_ ?_
 refine cifd (et (k30 d1)) (fun h344=>?_) (fun h344=>?_)
 replace h:=iT h344 h
 refine creg (st ?_)
 obtain ⟨i345,g346,h⟩:=bI h
 refine wl (su (u_addc (et (k30 d2)) ec g346) (dt (q30 p3)) (st (wnil (xl ?_))))
 exact ⟨_,_,rfl,(aK8 (aI (aK20 (aK3 (aO2 aZ))))),_,_,rfl,h,Le.r,hS⟩
 replace h:=iF h344 h
 refine cskip (xl ?_)
 exact ⟨_,_,rfl,(aK8 (aI (aK20 (aK3 (aO2 aZ))))),_,r19.2,rfl,h,Le.r,hS⟩
 rintro _ t w44 ⟨μ52,i343,rfl,h,le347,hS⟩
 unfold pw_expr_j2 at h
 refine nrm (mK8 (mi (mK20 (mK3 (mO2 mz))))) (xn (nz ?_))
 iterate 4 refine st ?_
 refine ld ((m13 _ ((le21.t (le26.t (le29.t (le122.t le347)))) _ hS.a)).one d3) ?_
 obtain ⟨x348,g349,h⟩:=bI h
 obtain ⟨b350,o351,cs352,e353,f354,m355⟩:=SlR.elem (m12.up (le21.t (le26.t (le29.t (le122.t le347))))) g349
 obtain ⟨a356,c357,rfl,m358⟩:=TExpr.o m355
 refine wl (su (u_iax underlying109 ti111 (et (k30 d8)) ec e353) (dt (q30 p9)) (st ?_))
 obtain ⟨r359,g360,h⟩:=bI h
 replace hS:=(hS.bg Y1).bg Y1
 refine ca (IH.pw_expr (hg.t (le21.t (le26.t (le29.t (le122.t le347))))) (m31.up (le122.t le347)) (m34.up (le122.t le347)) m358 f354 g360 hS) ?_
 rintro _ w45 ⟨μ53,v362,v364,cs365,rfl,le361,hS,m363,m366⟩
 refine po (nx ?_)
 iterate 2 refine st ?_
 refine wl (s_bsl underlying122 ti9 (Parts.s (et (k40 d3)) rfl Parts.z) rfl rfl hS ?_); clear hS; intro b367 w46 hb368 hS; refine po ?_
 obtain ⟨μ54,le370,m369,hS⟩:=Sep.frzBlk (l:=([r19.1]:List (List UInt8))) hS (Rw.one (α:=List UInt8) rfl) (Nat.le_of_ble_eq_true rfl)
 obtain ⟨r371,g372,h⟩:=bI h
 replace hS:=(hS.bg Y1).bg Y1
 refine ca (pw_put_w (hg.t (le21.t (le26.t (le29.t (le122.t (le347.t (le361.t le370))))))) (m363.up le370) (m366.up le370) m369 g372 hS) ?_
 rintro _ w47 ⟨μ55,v374,v376,cs377,rfl,le373,hS,m375,m378⟩
 refine po (nw (creg ?_))
 iterate 4 refine st ?_
 refine ld ((m13 _ ((le21.t (le26.t (le29.t (le122.t (le347.t (le361.t (le370.t le373))))))) _ hS.a)).one d3) ?_
 obtain ⟨x379,g380,h⟩:=bI h
 obtain ⟨b381,o382,cs383,e384,f385,m386⟩:=SlR.elem (m12.up (le21.t (le26.t (le29.t (le122.t (le347.t (le361.t (le370.t le373)))))))) g380
 obtain ⟨a387,c388,rfl,m389⟩:=TExpr.o m386
 refine wl (su (u_iax underlying109 ti111 (et (k50 d0)) ec e384) (dt (q50 p1)) (st ?_))
 obtain ⟨i390,g391,h⟩:=bI h
 refine wl (su (u_addc (et (k50 d2)) ec g391) (dt (q50 p3)) ?_)
 obtain ⟨r392,g393,h⟩:=bI h
 replace hS:=(hS.bg Y1).bg Y1
 refine ca (IH.pw_expr (hg.t (le21.t (le26.t (le29.t (le122.t (le347.t (le361.t (le370.t le373)))))))) m375 m378 m389 f385 g393 hS) ?_
 rintro _ w48 ⟨μ56,v395,v397,cs398,rfl,le394,hS,m396,m399⟩
 refine po (wnil (bn (endD ?_)))
 replace hS:=hS.bg Y2
 obtain ⟨μ57,le401,m400,hS⟩:=Sep.frzBlk (l:=([[41]]:List (List UInt8))) hS (Rw.one (α:=List UInt8) rfl) (Nat.le_of_ble_eq_true rfl)
 obtain ⟨r402,g403,h⟩:=bI h
 replace hS:=(hS.bg Y1).bg Y1
 refine retD isfn49 (pw_putd_w (hg.t (le21.t (le26.t (le29.t (le122.t (le347.t (le361.t (le370.t (le373.t (le394.t le401)))))))))) (m396.up le401) (m399.up le401) m400 g403 hS) ?_
 rintro _ w49 ⟨μ58,v405,v407,cs408,rfl,le404,hS,m406,m409⟩
 obtain rfl:=oI h
 refine retDN rfl RVs.z ?_
 exact ⟨_,_,_,_,rfl,(le21.t (le26.t (le29.t (le122.t (le347.t (le361.t (le370.t (le373.t (le394.t (le401.t le404)))))))))),hS,m406,m409⟩
 replace h:=iF h22 h
 refine cskip (xn (nz ?_))
 iterate 3 refine st ?_
 refine ld ((m13 _ (le21 _ hS.a)).one d0) (nw (cblock (nz ?_)))
 iterate 2 refine st ?_
 refine nw ?_
 refine cifd (et (k50 d5)) (fun h410=>?_) (fun h410=>?_)
 replace h:=iT h410 h
 refine creg ?_
 iterate 4 refine st ?_
 refine ld ((m13 _ (le21 _ hS.a)).one d1) ?_
 obtain ⟨s411,g412,h⟩:=bI h
 refine wl (s_callv isfn174 ef (e1 (et (k60 d1)) (e1 ec e0)) (fmt_w (hg.t le21) g412 hS) ?_); clear hS; rintro _ w50 ⟨rfl,hS⟩; refine po ?_
 refine wl (s_bsl underlying122 ti9 (Parts.s (et (k60 d2)) rfl Parts.z) rfl rfl hS ?_); clear hS; intro b413 w51 hb414 hS; refine po ?_
 obtain ⟨μ59,le416,m415,hS⟩:=Sep.frzBlk (l:=([s411]:List (List UInt8))) hS (Rw.one (α:=List UInt8) rfl) (Nat.le_of_ble_eq_true rfl)
 obtain ⟨r417,g418,h⟩:=bI h
 replace hS:=(hS.bg Y1).bg Y1
 refine ca (pw_put_w (hg.t (le21.t le416)) (m3.up (le21.t le416)) (m7.up (le21.t le416)) m415 g418 hS) ?_
 rintro _ w52 ⟨μ60,v420,v422,cs423,rfl,le419,hS,m421,m424⟩
 refine po (wnil (bn (endD ?_)))
 obtain rfl:=oI h
 refine retDN rfl RVs.z ?_
 exact ⟨_,_,_,_,rfl,(le21.t (le416.t le419)),hS,m421,m424⟩
 replace h:=iF h410 h
 refine nz ?_
 iterate 2 refine st ?_
 refine nw ?_
 refine cifd (et (k60 d5)) (fun h425=>?_) (fun h425=>?_)
 replace h:=iT h425 h
 refine creg (st ?_)
 refine wl (s_bsl underlying122 ti9 (Parts.s ec rfl (Parts.s ec rfl Parts.z)) rfl rfl hS ?_); clear hS; intro b426 w53 hb427 hS; refine po ?_
 iterate 3 refine st ?_
 refine ld ((m13 _ (le21 _ hS.a)).one d1) ?_
 obtain ⟨μ61,le429,m428,hS⟩:=Sep.frzBlk (l:=([[102,97,108,115,101],[116,114,117,101]]:List (List UInt8))) hS (Rw.cons (α:=List UInt8) (cs:=[S [102,97,108,115,101]]) rfl (Rw.cons (α:=List UInt8) (cs:=[S [116,114,117,101]]) rfl Rw.nil)) (Nat.le_of_ble_eq_true rfl)
 obtain ⟨x430,g431,h⟩:=bI h
 obtain ⟨b432,o433,cs434,e435,f436,m437⟩:=SlR.elem m428 g431
 obtain rfl:=m437
 refine wl (su (u_iax underlying122 ti9 (et (k60 d8)) (et (k70 d2)) e435) (dt (q70 p3)) (ld ((f436 _ hS.a).one d0) ?_))
 refine wl (s_bsl underlying122 ti9 (Parts.s (et (k70 d4)) rfl Parts.z) rfl rfl hS ?_); clear hS; intro b438 w54 hb439 hS; refine po ?_
 obtain ⟨μ62,le441,m440,hS⟩:=Sep.frzBlk (l:=([x430]:List (List UInt8))) hS (Rw.one (α:=List UInt8) rfl) (Nat.le_of_ble_eq_true rfl)
 obtain ⟨r442,g443,h⟩:=bI h
 replace hS:=(hS.bg Y1).bg Y1
 refine ca (pw_put_w (hg.t (le21.t (le429.t le441))) (m3.up (le21.t (le429.t le441))) (m7.up (le21.t (le429.t le441))) m440 g443 hS) ?_
 rintro _ w55 ⟨μ63,v445,v447,cs448,rfl,le444,hS,m446,m449⟩
 refine po (wnil (bn (endD ?_)))
 obtain rfl:=oI h
 refine retDN rfl RVs.z ?_
 exact ⟨_,_,_,_,rfl,(le21.t (le429.t (le441.t le444))),hS,m446,m449⟩
 replace h:=iF h425 h
 refine nz ?_
 iterate 2 refine st ?_
 refine nw ?_
 refine cifd (et (k70 d7)) (fun h450=>?_) (fun h450=>?_)
 replace h:=iT h450 h
 refine creg ?_
 iterate 4 refine st ?_
 refine ld ((m13 _ (le21 _ hS.a)).one d2) ?_
 refine wl (s_bsl underlying122 ti9 (Parts.s (et (k80 d3)) rfl Parts.z) rfl rfl hS ?_); clear hS; intro b451 w56 hb452 hS; refine po ?_
 obtain ⟨μ64,le454,m453,hS⟩:=Sep.frzBlk (l:=([p_2.Name]:List (List UInt8))) hS (Rw.one (α:=List UInt8) rfl) (Nat.le_of_ble_eq_true rfl)
 obtain ⟨r455,g456,h⟩:=bI h
 replace hS:=(hS.bg Y1).bg Y1
 refine ca (pw_put_w (hg.t (le21.t le454)) (m3.up (le21.t le454)) (m7.up (le21.t le454)) m453 g456 hS) ?_
 rintro _ w57 ⟨μ65,v458,v460,cs461,rfl,le457,hS,m459,m462⟩
 refine po (wnil (bn (endD ?_)))
 obtain rfl:=oI h
 refine retDN rfl RVs.z ?_
 exact ⟨_,_,_,_,rfl,(le21.t (le454.t le457)),hS,m459,m462⟩
 replace h:=iF h450 h
 refine cseq (nz ?_)
 iterate 2 refine st ?_
 refine nw ?_
 refine ccutE ([88]) (by decide) (fun m w=>∃ μx b463,m=(yK50 (yK20 (yK10 (yK6 (.i (.bool b463)::(yK1 (yO1 88 [])))))))∧pw_expr_j3 self p_2 buf_4 r19 b463=some r∧Le μ1 μx∧Sq μx w0 w (.blk b1 58 [v2,v5]::.row v5 5 1 buf_4.length cs6::rsF)) (by rintro _ _ ⟨_,_,rfl,_⟩; rfl) ?_ ?_
 refine cifd (et (k80 d6)) (fun h464=>?_) (fun h464=>?_)
 replace h:=iT h464 h
 refine cskip (xl ?_)
 exact ⟨_,_,rfl,(aK50 (aK20 (aK10 (aK6 (aI (aK1 (aO1 aZ))))))),_,(decide (p_2.Kind=4)),rfl,h,Le.r,hS⟩
 replace h:=iF h464 h
 refine creg ?_
 iterate 2 refine st ?_
 refine wnil (xl ?_)
 exact ⟨_,_,rfl,(aK50 (aK20 (aK10 (aK6 (aI (aK1 (aO1 aZ))))))),_,(decide (p_2.Kind=5)),rfl,h,Le.r,hS⟩
 rintro _ t w58 ⟨μ66,b463,rfl,h,le465,hS⟩
 unfold pw_expr_j3 at h
 refine nrm (mK50 (mK20 (mK10 (mK6 (mi (mK1 (mO1 mz))))))) (xn ?_)
 refine cifb (et (k80 d6)) (fun h466=>?_) (fun h466=>?_)
 replace h:=iT h466 h
 refine nz ?_
 iterate 2 refine st ?_
 refine wl (s_bsl underlying122 ti9 (Parts.s (et (k90 d0)) rfl Parts.z) rfl rfl hS ?_); clear hS; intro b467 w59 hb468 hS; refine po ?_
 obtain ⟨μ67,le470,m469,hS⟩:=Sep.frzBlk (l:=([r19.1]:List (List UInt8))) hS (Rw.one (α:=List UInt8) rfl) (Nat.le_of_ble_eq_true rfl)
 obtain ⟨r471,g472,h⟩:=bI h
 replace hS:=(hS.bg Y1).bg Y1
 refine ca (pw_put_w (hg.t (le21.t (le465.t le470))) (m3.up (le21.t (le465.t le470))) (m7.up (le21.t (le465.t le470))) m469 g472 hS) ?_
 rintro _ w60 ⟨μ68,v474,v476,cs477,rfl,le473,hS,m475,m478⟩
 refine po (nw (creg ?_))
 iterate 4 refine st ?_
 refine ld ((m13 _ ((le21.t (le465.t (le470.t le473))) _ hS.a)).one d3) ?_
 obtain ⟨x479,g480,h⟩:=bI h
 obtain ⟨b481,o482,cs483,e484,f485,m486⟩:=SlR.elem (m12.up (le21.t (le465.t (le470.t le473)))) g480
 obtain ⟨a487,c488,rfl,m489⟩:=TExpr.o m486
 refine wl (su (u_iax underlying109 ti111 (et (k90 d7)) ec e484) (dt (q90 p8)) ?_)
 obtain ⟨r490,g491,h⟩:=bI h
 replace hS:=(hS.bg Y1).bg Y1
 refine ca (IH.pw_expr (hg.t (le21.t (le465.t (le470.t le473)))) m475 m478 m489 f485 g491 hS) ?_
 rintro _ w61 ⟨μ69,v493,v495,cs496,rfl,le492,hS,m494,m497⟩
 refine po (wnil (bn (endD ?_)))
 obtain rfl:=oI h
 refine retDN rfl RVs.z ?_
 exact ⟨_,_,_,_,rfl,(le21.t (le465.t (le470.t (le473.t le492)))),hS,m494,m497⟩
 replace h:=iF h466 h
 refine nz ?_
 iterate 2 refine st ?_
 refine nw ?_
 refine cifd (et (k100 d0)) (fun h498=>?_) (fun h498=>?_)
 replace h:=iT h498 h
 refine creg ?_
 iterate 4 refine st ?_
 refine ld ((m13 _ ((le21.t le465) _ hS.a)).one d2) ?_
 refine wl (s_bsl underlying122 ti9 (Parts.s ec rfl (Parts.s ec rfl (Parts.s (et (k100 d6)) rfl (Parts.s ec rfl Parts.z)))) rfl rfl hS ?_); clear hS; intro b499 w62 hb500 hS; refine po ?_
 obtain ⟨μ70,le502,m501,hS⟩:=Sep.frzBlk (l:=([[114,101,99,118],[40],p_2.Name,[41]]:List (List UInt8))) hS (Rw.cons (α:=List UInt8) (cs:=[S [114,101,99,118]]) rfl (Rw.cons (α:=List UInt8) (cs:=[S [40]]) rfl (Rw.cons (α:=List UInt8) (cs:=[S p_2.Name]) rfl (Rw.cons (α:=List UInt8) (cs:=[S [41]]) rfl Rw.nil)))) (Nat.le_of_ble_eq_true rfl)
 obtain ⟨r503,g504,h⟩:=bI h
 replace hS:=(hS.bg Y1).bg Y1
 refine ca (pw_put_w (hg.t (le21.t (le465.t le502))) (m3.up (le21.t (le465.t le502))) (m7.up (le21.t (le465.t le502))) m501 g504 hS) ?_
 rintro _ w63 ⟨μ71,v506,v508,cs509,rfl,le505,hS,m507,m510⟩
 refine po (wnil (bn (endD ?_)))
 obtain rfl:=oI h
 refine retDN rfl RVs.z ?_
 exact ⟨_,_,_,_,rfl,(le21.t (le465.t (le502.t le505))),hS,m507,m510⟩
 replace h:=iF h498 h
 refine nz ?_
 iterate 2 refine st ?_
 refine nw ?_
 refine cifd (et (k100 d9)) (fun h511=>?_) (fun h511=>?_)
 replace h:=iT h511 h
 refine nz (st ?_)
 refine wl (s_bsl underlying122 ti9 (Parts.s ec rfl Parts.z) rfl rfl hS ?_); clear hS; intro b512 w64 hb513 hS; refine po ?_
 obtain ⟨μ72,le515,m514,hS⟩:=Sep.frzBlk (l:=([[121,105,101,108,100]]:List (List UInt8))) hS (Rw.one (α:=List UInt8) rfl) (Nat.le_of_ble_eq_true rfl)
 obtain ⟨r516,g517,h⟩:=bI h
 replace hS:=(hS.bg Y1).bg Y1
 refine ca (pw_put_w (hg.t (le21.t (le465.t le515))) (m3.up (le21.t (le465.t le515))) (m7.up (le21.t (le465.t le515))) m514 g517 hS) ?_
 rintro _ w65 ⟨μ73,v519,v521,cs522,rfl,le518,hS,m520,m523⟩
 refine po (nw (creg ?_))
 iterate 4 refine st ?_
 refine ld ((m13 _ ((le21.t (le465.t (le515.t le518))) _ hS.a)).one d3) ?_
 obtain ⟨r524,g525,h⟩:=bI h
 replace hS:=(hS.bg Y1).bg Y1
 refine ca (IH.pw_args (hg.t (le21.t (le465.t (le515.t le518)))) m520 m523 (m12.up (le21.t (le465.t (le515.t le518)))) g525 hS) ?_
 rintro _ w66 ⟨μ74,v527,v529,cs530,rfl,le526,hS,m528,m531⟩
 refine po (wnil (bn (endD ?_)))
 obtain rfl:=oI h
 refine retDN rfl RVs.z ?_
 exact ⟨_,_,_,_,rfl,(le21.t (le465.t (le515.t (le518.t le526)))),hS,m528,m531⟩
 replace h:=iF h511 h
 refine nz ?_
 iterate 2 refine st ?_
 refine nw ?_
 refine cifd (et (k100 (k20 d0))) (fun h532=>?_) (fun h532=>?_)
 replace h:=iT h532 h
 refine nz (st ?_)
 refine wl (s_bsl underlying122 ti9 (Parts.s ec rfl Parts.z) rfl rfl hS ?_); clear hS; intro b533 w67 hb534 hS; refine po ?_
 obtain ⟨μ75,le536,m535,hS⟩:=Sep.frzBlk (l:=([[114,101,115,117,109,101]]:List (List UInt8))) hS (Rw.one (α:=List UInt8) rfl) (Nat.le_of_ble_eq_true rfl)
 obtain ⟨r537,g538,h⟩:=bI h
 replace hS:=(hS.bg Y1).bg Y1
 refine ca (pw_put_w (hg.t (le21.t (le465.t le536))) (m3.up (le21.t (le465.t le536))) (m7.up (le21.t (le465.t le536))) m535 g538 hS) ?_
 rintro _ w68 ⟨μ76,v540,v542,cs543,rfl,le539,hS,m541,m544⟩
 refine po (nw (creg ?_))
 iterate 4 refine st ?_
 refine ld ((m13 _ ((le21.t (le465.t (le536.t le539))) _ hS.a)).one d3) ?_
 obtain ⟨r545,g546,h⟩:=bI h
 replace hS:=(hS.bg Y1).bg Y1
 refine ca (IH.pw_args (hg.t (le21.t (le465.t (le536.t le539)))) m541 m544 (m12.up (le21.t (le465.t (le536.t le539)))) g546 hS) ?_
 rintro _ w69 ⟨μ77,v548,v550,cs551,rfl,le547,hS,m549,m552⟩
 refine po (wnil (bn (endD ?_)))
 obtain rfl:=oI h
 refine retDN rfl RVs.z ?_
 exact ⟨_,_,_,_,rfl,(le21.t (le465.t (le536.t (le539.t le547)))),hS,m549,m552⟩
 replace h:=iF h532 h
 refine nz ?_
 iterate 2 refine st ?_
 refine nw ?_
 refine cifd (et (k100 (k30 d1))) (fun h553=>?_) (fun h553=>?_)
 replace h:=iT h553 h
 refine nz (st ?_)
 refine wl (s_bsl underlying122 ti9 (Parts.s ec rfl Parts.z) rfl rfl hS ?_); clear hS; intro b554 w70 hb555 hS; refine po ?_
 obtain ⟨μ78,le557,m556,hS⟩:=Sep.frzBlk (l:=([[97,108,105,118,101]]:List (List UInt8))) hS (Rw.one (α:=List UInt8) rfl) (Nat.le_of_ble_eq_true rfl)
 obtain ⟨r558,g559,h⟩:=bI h
 replace hS:=(hS.bg Y1).bg Y1
 refine ca (pw_put_w (hg.t (le21.t (le465.t le557))) (m3.up (le21.t (le465.t le557))) (m7.up (le21.t (le465.t le557))) m556 g559 hS) ?_
 rintro _ w71 ⟨μ79,v561,v563,cs564,rfl,le560,hS,m562,m565⟩
 refine po (nw (creg ?_))
 iterate 4 refine st ?_
 refine ld ((m13 _ ((le21.t (le465.t (le557.t le560))) _ hS.a)).one d3) ?_
 obtain ⟨r566,g567,h⟩:=bI h
 replace hS:=(hS.bg Y1).bg Y1
 refine ca (IH.pw_args (hg.t (le21.t (le465.t (le557.t le560)))) m562 m565 (m12.up (le21.t (le465.t (le557.t le560)))) g567 hS) ?_
 rintro _ w72 ⟨μ80,v569,v571,cs572,rfl,le568,hS,m570,m573⟩
 refine po (wnil (bn (endD ?_)))
 obtain rfl:=oI h
 refine retDN rfl RVs.z ?_
 exact ⟨_,_,_,_,rfl,(le21.t (le465.t (le557.t (le560.t le568)))),hS,m570,m573⟩
 replace h:=iF h553 h
 refine nz ?_
 iterate 2 refine st ?_
 refine nw ?_
 refine cifd (et (k100 (k40 d2))) (fun h574=>?_) (fun h574=>?_)
 replace h:=iT h574 h
 refine nz ?_
 iterate 4 refine st ?_
 refine ld ((m13 _ ((le21.t le465) _ hS.a)).one d2) ?_
 refine wl (s_bsl underlying122 ti9 (Parts.s ec rfl (Parts.s (et (k100 (k40 d8))) rfl Parts.z)) rfl rfl hS ?_); clear hS; intro b575 w73 hb576 hS; refine po ?_
 obtain ⟨μ81,le578,m577,hS⟩:=Sep.frzBlk (l:=([[115,116,97,114,116],p_2.Name]:List (List UInt8))) hS (Rw.cons (α:=List UInt8) (cs:=[S [115,116,97,114,116]]) rfl (Rw.cons (α:=List UInt8) (cs:=[S p_2.Name]) rfl Rw.nil)) (Nat.le_of_ble_eq_true rfl)
 obtain ⟨r579,g580,h⟩:=bI h
 replace hS:=(hS.bg Y1).bg Y1
 refine ca (pw_put_w (hg.t (le21.t (le465.t le578))) (m3.up (le21.t (le465.t le578))) (m7.up (le21.t (le465.t le578))) m577 g580 hS) ?_
 rintro _ w74 ⟨μ82,v582,v584,cs585,rfl,le581,hS,m583,m586⟩
 refine po (nw (creg ?_))
 iterate 4 refine st ?_
 refine ld ((m13 _ ((le21.t (le465.t (le578.t le581))) _ hS.a)).one d3) ?_
 obtain ⟨r587,g588,h⟩:=bI h
 replace hS:=(hS.bg Y1).bg Y1
 refine ca (IH.pw_args (hg.t (le21.t (le465.t (le578.t le581)))) m583 m586 (m12.up (le21.t (le465.t (le578.t le581)))) g588 hS) ?_
 rintro _ w75 ⟨μ83,v590,v592,cs593,rfl,le589,hS,m591,m594⟩
 refine po (wnil (bn (endD ?_)))
 obtain rfl:=oI h
 refine retDN rfl RVs.z ?_
 exact ⟨_,_,_,_,rfl,(le21.t (le465.t (le578.t (le581.t le589)))),hS,m591,m594⟩
 replace h:=iF h574 h
 refine nz ?_
 iterate 2 refine st ?_
 refine nw ?_
 refine cifd (et (k100 (k50 d7))) (fun h595=>?_) (fun h595=>?_)
 replace h:=iT h595 h
 refine nz ?_
 iterate 4 refine st ?_
 refine ld ((m13 _ ((le21.t le465) _ hS.a)).one d2) ?_
 refine wl (s_bsl underlying122 ti9 (Parts.s (et (k100 (k60 d3))) rfl Parts.z) rfl rfl hS ?_); clear hS; intro b596 w76 hb597 hS; refine po ?_
 obtain ⟨μ84,le599,m598,hS⟩:=Sep.frzBlk (l:=([p_2.Name]:List (List UInt8))) hS (Rw.one (α:=List UInt8) rfl) (Nat.le_of_ble_eq_true rfl)
 obtain ⟨r600,g601,h⟩:=bI h
 replace hS:=(hS.bg Y1).bg Y1
 refine ca (pw_put_w (hg.t (le21.t (le465.t le599))) (m3.up (le21.t (le465.t le599))) (m7.up (le21.t (le465.t le599))) m598 g601 hS) ?_
 rintro _ w77 ⟨μ85,v603,v605,cs606,rfl,le602,hS,m604,m607⟩
 refine po (nw (creg ?_))
 iterate 4 refine st ?_
 refine ld ((m13 _ ((le21.t (le465.t (le599.t le602))) _ hS.a)).one d3) ?_
 obtain ⟨r608,g609,h⟩:=bI h
 replace hS:=(hS.bg Y1).bg Y1
 refine ca (IH.pw_args (hg.t (le21.t (le465.t (le599.t le602)))) m604 m607 (m12.up (le21.t (le465.t (le599.t le602)))) g609 hS) ?_
 rintro _ w78 ⟨μ86,v611,v613,cs614,rfl,le610,hS,m612,m615⟩
 refine po (wnil (bn (endD ?_)))
 obtain rfl:=oI h
 refine retDN rfl RVs.z ?_
 exact ⟨_,_,_,_,rfl,(le21.t (le465.t (le599.t (le602.t le610)))),hS,m612,m615⟩
 replace h:=iF h595 h
 refine nz ?_
 iterate 2 refine st ?_
 refine ny (nz ?_)
 iterate 2 refine st ?_
 refine nw ?_
 refine ccutE (rg 32 2) (by decide) (fun m w=>∃ μx i616,m=(yK8 (.i (.int .i64 i616)::(yK20 (yK3 (yO2 32 [])))))∧pw_expr_j4 self p_2 buf_4 r19 i616=some r∧Le μ66 μx∧Sq μx w0 w (.blk b1 58 [v2,v5]::.row v5 5 1 buf_4.length cs6::rsF)) (by rintro _ _ ⟨_,_,rfl,_⟩; rfl) ?_ ?_
 refine cifd (et (k30 d1)) (fun h617=>?_) (fun h617=>?_)
 replace h:=iT h617 h
 refine creg (st ?_)
 obtain ⟨i618,g619,h⟩:=bI h
 refine wl (su (u_addc (et (k30 d2)) ec g619) (dt (q30 p3)) (st (wnil (xl ?_))))
 exact ⟨_,_,rfl,(aK8 (aI (aK20 (aK3 (aO2 aZ))))),_,_,rfl,h,Le.r,hS⟩
 replace h:=iF h617 h
 refine cskip (xl ?_)
 exact ⟨_,_,rfl,(aK8 (aI (aK20 (aK3 (aO2 aZ))))),_,r19.2,rfl,h,Le.r,hS⟩
 rintro _ t w79 ⟨μ87,i616,rfl,h,le620,hS⟩
 unfold pw_expr_j4 at h
 refine nrm (mK8 (mi (mK20 (mK3 (mO2 mz))))) (xn (nz ?_))
 iterate 4 refine st ?_
 refine ld ((m13 _ ((le21.t (le465.t le620)) _ hS.a)).one d3) ?_
 obtain ⟨x621,g622,h⟩:=bI h
 obtain ⟨b623,o624,cs625,e626,f627,m628⟩:=SlR.elem (m12.up (le21.t (le465.t le620))) g622
 obtain ⟨a629,c630,rfl,m631⟩:=TExpr.o m628
 refine wl (su (u_iax underlying109 ti111 (et (k30 d8)) ec e626) (dt (q30 p9)) (st ?_))
 obtain ⟨r632,g633,h⟩:=bI h
 replace hS:=(hS.bg Y1).bg Y1
 refine ca (IH.pw_expr (hg.t (le21.t (le465.t le620))) (m3.up (le21.t (le465.t le620))) (m7.up (le21.t (le465.t le620))) m631 f627 g633 hS) ?_
 rintro _ w80 ⟨μ88,v635,v637,cs638,rfl,le634,hS,m636,m639⟩
 refine po (nx ?_)
 iterate 2 refine st ?_
 refine wl (s_bsl underlying122 ti9 (Parts.s (et (k40 d3)) rfl Parts.z) rfl rfl hS ?_); clear hS; intro b640 w81 hb641 hS; refine po ?_
 obtain ⟨μ89,le643,m642,hS⟩:=Sep.frzBlk (l:=([r19.1]:List (List UInt8))) hS (Rw.one (α:=List UInt8) rfl) (Nat.le_of_ble_eq_true rfl)
 obtain ⟨r644,g645,h⟩:=bI h
 replace hS:=(hS.bg Y1).bg Y1
 refine ca (pw_put_w (hg.t (le21.t (le465.t (le620.t (le634.t le643))))) (m636.up le643) (m639.up le643) m642 g645 hS) ?_
 rintro _ w82 ⟨μ90,v647,v649,cs650,rfl,le646,hS,m648,m651⟩
 refine po (nw (creg ?_))
 iterate 4 refine st ?_
 refine ld ((m13 _ ((le21.t (le465.t (le620.t (le634.t (le643.t le646))))) _ hS.a)).one d3) ?_
 obtain ⟨x652,g653,h⟩:=bI h
 obtain ⟨b654,o655,cs656,e657,f658,m659⟩:=SlR.elem (m12.up (le21.t (le465.t (le620.t (le634.t (le643.t le646)))))) g653
 obtain ⟨a660,c661,rfl,m662⟩:=TExpr.o m659
 refine wl (su (u_iax underlying109 ti111 (et (k50 d0)) ec e657) (dt (q50 p1)) (st ?_))
 obtain ⟨i663,g664,h⟩:=bI h
 refine wl (su (u_addc (et (k50 d2)) ec g664) (dt (q50 p3)) ?_)
 obtain ⟨r665,g666,h⟩:=bI h
 replace hS:=(hS.bg Y1).bg Y1
 refine ca (IH.pw_expr (hg.t (le21.t (le465.t (le620.t (le634.t (le643.t le646)))))) m648 m651 m662 f658 g666 hS) ?_
 rintro _ w83 ⟨μ91,v668,v670,cs671,rfl,le667,hS,m669,m672⟩
 refine po (wnil (bn (endD ?_)))
 obtain rfl:=oI h
 refine retDN rfl RVs.z ?_
 exact ⟨_,_,_,_,rfl,(le21.t (le465.t (le620.t (le634.t (le643.t (le646.t le667)))))),hS,m669,m672⟩
theorem pw_args_w {self:PrE} (IH:PrESound self) {μ0:M} {w0 w:World} {rsF:List Res} (hg:Le Gm μ0) {b1:Nat} {v2:Value} {buf_4:List UInt8} {v5:Value} {cs6:List Value} {p_2:List TExpr} {a8:Option Addr} {c9:Nat} {r:List UInt8} (m3:Bp μ0 b1 v2) (m7:Rw μ0 cs6 buf_4) (m10:Sl μ0 a8 c9 p_2) (h:pw_args self buf_4 p_2=some r) (hS:Sq μ0 w0 w (.blk b1 58 [v2,v5]::.row v5 5 1 buf_4.length cs6::rsF)):CallsV prog 175 [.pointer (some ⟨b1,0,none⟩),.slice a8 p_2.length c9] w (fun v w'=>∃ (μ':M) (v11:Value) (v13:Value) (cs14:List Value),v=.tuple ⟨[]⟩∧Le μ0 μ'∧Sq μ' w0 w' (.blk b1 58 [v11,v13]::.row v13 5 1 r.length cs14::rsF)∧Bp μ' b1 v11∧Rw μ' cs14 r):=by
 unfold pw_args at h
 refine enter func175 rfl (frm:=_::_::u5 (u20 [])) rfl (nz (st ?_))
 refine wl (s_bsl underlying122 ti9 (Parts.s ec rfl Parts.z) rfl rfl hS ?_); clear hS; intro b16 w1 hb17 hS; refine po ?_
 obtain ⟨μ1,le19,m18,hS⟩:=Sep.frzBlk (l:=([[40]]:List (List UInt8))) hS (Rw.one (α:=List UInt8) rfl) (Nat.le_of_ble_eq_true rfl)
 obtain ⟨r20,g21,h⟩:=bI h
 replace hS:=(hS.bg Y1).bg Y1
 refine ca (pw_put_w (hg.t le19) (m3.up le19) (m7.up le19) m18 g21 hS) ?_
 rintro _ w2 ⟨μ2,v23,v25,cs26,rfl,le22,hS,m24,m27⟩
 refine po (ny (nz (st (wl (su (u_lensl underlying109 (et d8)) (dt p9) (st (nw (cblock ?_))))))))
 refine cloopE ([4]++rg 11 13) (by decide) (fun n m w=>∃ μx i67 v68 l72 v70 cs71,m=(yK4 (yO1 4 (yK5 (.i (.int .i64 i67)::(yO10 11 (yO3 21 []))))))∧pw_args_l1 self p_2 n i67 l72=some r∧Le μ2 μx∧Sq μx w0 w (.blk b1 58 [v68,v70]::.row v70 5 1 l72.length cs71::rsF)∧Bp μx b1 v68∧Rw μx cs71 l72) (by rintro _ _ _ ⟨_,_,_,_,_,_,rfl,_⟩; rfl) _ _ (aK4 (aO1 (aK5 (aI (aO10 (aO3 aZ)))))) ⟨_,0,v23,r20,v25,cs26,rfl,h,Le.r,hS,m24,m27⟩ ?_
 rintro n_1 _ t w3 ⟨μ3,i67,v68,l72,v70,cs71,rfl,h,le113,hS,m114,m115⟩
 rcases n_1 with _|n_1
 cases h
 unfold pw_args_l1 at h
 refine cnrm (mK4 (mO1 (mK5 (mi (mO10 (mO3 mz)))))) (nz (st (ny ?_)))
 refine cifd (et (k10 d1)) (fun h116=>?_) (fun h116=>?_)
 replace h:=iT h116 h
 refine cskip (xn (cseq (cblock (nz ?_))))
 iterate 2 refine st ?_
 refine ny (nz ?_)
 iterate 2 refine st ?_
 refine nw ?_
 refine ccutE (rg 15 3) (by decide) (fun m w=>∃ μx v117 l121 v119 cs120,m=(yK10 (yK5 (yO3 15 [])))∧pw_args_j1 self p_2 i67 (pw_args_l1 self p_2 n_1) l121=some r∧Le μ3 μx∧Sq μx w0 w (.blk b1 58 [v117,v119]::.row v119 5 1 l121.length cs120::rsF)∧Bp μx b1 v117∧Rw μx cs120 l121) (by rintro _ _ ⟨_,_,_,_,_,rfl,_⟩; rfl) ?_ ?_
 refine cifd (et (k10 d4)) (fun h123=>?_) (fun h123=>?_)
 replace h:=iT h123 h
 refine creg (st ?_)
 refine wl (s_bsl underlying122 ti9 (Parts.s ec rfl Parts.z) rfl rfl hS ?_); clear hS; intro b124 w4 hb125 hS; refine po ?_
 obtain ⟨μ4,le127,m126,hS⟩:=Sep.frzBlk (l:=([[44]]:List (List UInt8))) hS (Rw.one (α:=List UInt8) rfl) (Nat.le_of_ble_eq_true rfl)
 obtain ⟨r128,g129,h⟩:=bI h
 replace hS:=(hS.bg Y1).bg Y1
 refine ca (pw_put_w (hg.t (le19.t (le22.t (le113.t le127)))) (m114.up le127) (m115.up le127) m126 g129 hS) ?_
 rintro _ w5 ⟨μ5,v131,v133,cs134,rfl,le130,hS,m132,m135⟩
 refine po (wnil (xl ?_))
 exact ⟨_,_,rfl,(aK10 (aK5 (aO3 aZ))),_,_,_,_,_,rfl,h,(le127.t le130),hS,m132,m135⟩
 replace h:=iF h123 h
 refine cskip (xl ?_)
 exact ⟨_,_,rfl,(aK10 (aK5 (aO3 aZ))),_,_,_,_,_,rfl,h,Le.r,hS,m114,m115⟩
 rintro _ t w6 ⟨μ6,v117,l121,v119,cs120,rfl,h,le136,hS,m137,m138⟩
 unfold pw_args_j1 at h
 refine nrm (mK10 (mK5 (mO3 mz))) (xn (creg ?_))
 iterate 3 refine st ?_
 obtain ⟨x139,g140,h⟩:=bI h
 obtain ⟨b141,o142,cs143,e144,f145,m146⟩:=SlR.elem (m10.up (le19.t (le22.t (le113.t le136)))) g140
 obtain ⟨a147,c148,rfl,m149⟩:=TExpr.o m146
 refine wl (su (u_iax underlying109 ti111 (et (k10 d9)) (et (k20 d0)) e144) (dt (q20 p1)) ?_)
 obtain ⟨r150,g151,h⟩:=bI h
 replace hS:=(hS.bg Y1).bg Y1
 refine ca (IH.pw_expr (hg.t (le19.t (le22.t (le113.t le136)))) m137 m138 m149 f145 g151 hS) ?_
 rintro _ w7 ⟨μ7,v153,v155,cs156,rfl,le152,hS,m154,m157⟩
 refine po (wnil ?_)
 refine (fun h=>bn (xn h)) ?_
 refine creg ?_
 obtain ⟨i158,g159,h⟩:=bI h
 refine wl (su (u_addc (et (k10 d0)) ec g159) (dt (q20 p3)) (st (wnil (xl ?_))))
 exact ⟨n_1,_,_,rfl,(aK4 (aO1 (aK5 (aI (aO10 (aO3 aZ)))))),⟨_,i158,v153,r150,v155,cs156,rfl,h,(le113.t (le136.t le152)),hS,m154,m157⟩,Nat.lt_succ_self _⟩
 replace h:=iF h116 h
 refine cexit ?_
 refine (fun h=>xe (xe (bh h))) ?_
 refine xn (creg (st ?_))
 refine wl (s_bsl underlying122 ti9 (Parts.s ec rfl Parts.z) rfl rfl hS ?_); clear hS; intro b160 w8 hb161 hS; refine po ?_
 obtain ⟨μ8,le163,m162,hS⟩:=Sep.frzBlk (l:=([[41]]:List (List UInt8))) hS (Rw.one (α:=List UInt8) rfl) (Nat.le_of_ble_eq_true rfl)
 obtain ⟨r164,g165,h⟩:=bI h
 replace hS:=(hS.bg Y1).bg Y1
 refine ca (pw_put_w (hg.t (le19.t (le22.t (le113.t le163)))) (m114.up le163) (m115.up le163) m162 g165 hS) ?_
 rintro _ w9 ⟨μ9,v167,v169,cs170,rfl,le166,hS,m168,m171⟩
 refine po (wnil ?_)
 obtain rfl:=oI h
 refine end0 rfl ?_
 exact ⟨_,_,_,_,rfl,(le19.t (le22.t (le113.t (le163.t le166)))),hS,m168,m171⟩
theorem PrE_sound:∀ n,PrESound (PrE_run n)
  | 0=>⟨(by intros; rename_i h _; cases h),(by intros; rename_i h _; cases h)⟩
  | n+1=>⟨pw_expr_w (PrE_sound n),pw_args_w (PrE_sound n)⟩
structure PrSSound (sf:PrS):Prop where
  pw_body:∀ {μ0:M} {w0 w:World} {rsF:List Res} (hg:Le Gm μ0) {b1:Nat} {v2:Value} {buf_4:List UInt8} {v5:Value} {cs6:List Value} {p_2:List TStat} {a8:Option Addr} {c9:Nat} {r:List UInt8} (m3:Bp μ0 b1 v2) (m7:Rw μ0 cs6 buf_4) (m10:Sl μ0 a8 c9 p_2) (h:sf.pw_body buf_4 p_2=some r) (hS:Sq μ0 w0 w (.blk b1 58 [v2,v5]::.row v5 5 1 buf_4.length cs6::rsF)),CallsV prog 52 [.pointer (some ⟨b1,0,none⟩),.slice a8 p_2.length c9] w (fun v w'=>∃ (μ':M) (v11:Value) (v13:Value) (cs14:List Value),v=.tuple ⟨[]⟩∧Le μ0 μ'∧Sq μ' w0 w' (.blk b1 58 [v11,v13]::.row v13 5 1 r.length cs14::rsF)∧Bp μ' b1 v11∧Rw μ' cs14 r)
  pw_stat:∀ {μ0:M} {w0 w:World} {rsF:List Res} (hg:Le Gm μ0) {b1:Nat} {v2:Value} {buf_4:List UInt8} {v5:Value} {cs6:List Value} {p_2:TStat} {b8 o9:Nat} {a10:Option Addr} {c11:Nat} {a13:Option Addr} {c14:Nat} {a16:Option Addr} {c17:Nat} {r:List UInt8} (m3:Bp μ0 b1 v2) (m7:Rw μ0 cs6 buf_4) (m12:Sl μ0 a10 c11 p_2.X.Kids) (m15:Sl μ0 a13 c14 p_2.Body) (m18:Sl μ0 a16 c17 p_2.Else) (m19:At μ0 b8 o9 [.int .i64 p_2.Kind,S p_2.Name,.int .i64 p_2.X.Kind,.int .i64 p_2.X.N,S p_2.X.Name,.slice a10 p_2.X.Kids.length c11,.slice a13 p_2.Body.length c14,.slice a16 p_2.Else.length c17]) (h:sf.pw_stat buf_4 p_2=some r) (hS:Sq μ0 w0 w (.blk b1 58 [v2,v5]::.row v5 5 1 buf_4.length cs6::rsF)),CallsV prog 104 [.pointer (some ⟨b1,0,none⟩),.pointer (some ⟨b8,o9,none⟩)] w (fun v w'=>∃ (μ':M) (v20:Value) (v22:Value) (cs23:List Value),v=.tuple ⟨[]⟩∧Le μ0 μ'∧Sq μ' w0 w' (.blk b1 58 [v20,v22]::.row v22 5 1 r.length cs23::rsF)∧Bp μ' b1 v20∧Rw μ' cs23 r)
theorem pw_body_w {self:PrS} (IH:PrSSound self) {μ0:M} {w0 w:World} {rsF:List Res} (hg:Le Gm μ0) {b1:Nat} {v2:Value} {buf_4:List UInt8} {v5:Value} {cs6:List Value} {p_2:List TStat} {a8:Option Addr} {c9:Nat} {r:List UInt8} (m3:Bp μ0 b1 v2) (m7:Rw μ0 cs6 buf_4) (m10:Sl μ0 a8 c9 p_2) (h:pw_body self buf_4 p_2=some r) (hS:Sq μ0 w0 w (.blk b1 58 [v2,v5]::.row v5 5 1 buf_4.length cs6::rsF)):CallsV prog 52 [.pointer (some ⟨b1,0,none⟩),.slice a8 p_2.length c9] w (fun v w'=>∃ (μ':M) (v11:Value) (v13:Value) (cs14:List Value),v=.tuple ⟨[]⟩∧Le μ0 μ'∧Sq μ' w0 w' (.blk b1 58 [v11,v13]::.row v13 5 1 r.length cs14::rsF)∧Bp μ' b1 v11∧Rw μ' cs14 r):=by
 unfold pw_body at h
 refine enter func52 rfl (frm:=_::_::u20 []) rfl (nz (st ?_))
 refine wl (s_bsl underlying122 ti9 (Parts.s ec rfl Parts.z) rfl rfl hS ?_); clear hS; intro b16 w1 hb17 hS; refine po ?_
 obtain ⟨μ1,le19,m18,hS⟩:=Sep.frzBlk (l:=([[123]]:List (List UInt8))) hS (Rw.one (α:=List UInt8) rfl) (Nat.le_of_ble_eq_true rfl)
 obtain ⟨r20,g21,h⟩:=bI h
 replace hS:=(hS.bg Y1).bg Y1
 refine ca (pw_put_w (hg.t le19) (m3.up le19) (m7.up le19) m18 g21 hS) ?_
 rintro _ w2 ⟨μ2,v23,v25,cs26,rfl,le22,hS,m24,m27⟩
 refine po (ny (nz (st (wl (su (u_lensl underlying64 (et d8)) (dt p9) (st (nw (cblock ?_))))))))
 refine cloopE ([4]++rg 11 8) (by decide) (fun n m w=>∃ μx i55 v56 l60 v58 cs59,m=(yK4 (yO1 4 (yK5 (.i (.int .i64 i55)::(yO8 11 [])))))∧pw_body_l1 self p_2 n i55 l60=some r∧Le μ2 μx∧Sq μx w0 w (.blk b1 58 [v56,v58]::.row v58 5 1 l60.length cs59::rsF)∧Bp μx b1 v56∧Rw μx cs59 l60) (by rintro _ _ _ ⟨_,_,_,_,_,_,rfl,_⟩; rfl) _ _ (aK4 (aO1 (aK5 (aI (aO8 aZ))))) ⟨_,0,v23,r20,v25,cs26,rfl,h,Le.r,hS,m24,m27⟩ ?_
 rintro n_1 _ t w3 ⟨μ3,i55,v56,l60,v58,cs59,rfl,h,le89,hS,m90,m91⟩
 rcases n_1 with _|n_1
 cases h
 unfold pw_body_l1 at h
 refine cnrm (mK4 (mO1 (mK5 (mi (mO8 mz))))) (nz (st (ny ?_)))
 refine cifd (et (k10 d1)) (fun h92=>?_) (fun h92=>?_)
 replace h:=iT h92 h
 refine cskip (xn (cseq (cblock (nz ?_))))
 iterate 2 refine st ?_
 refine nw (creg ?_)
 iterate 3 refine st ?_
 obtain ⟨x93,g94,h⟩:=bI h
 obtain ⟨b95,o96,cs97,e98,f99,m100⟩:=SlR.elem (m10.up (le19.t (le22.t le89))) g94
 obtain ⟨a101,c102,a104,c105,a107,c108,rfl,m103,m106,m109⟩:=TStat.o m100
 refine wl (su (u_iax underlying64 ti113 (et (k10 d4)) (et (k10 d5)) e98) (dt (q10 p6)) ?_)
 obtain ⟨r110,g111,h⟩:=bI h
 replace hS:=(hS.bg Y1).bg Y1
 refine ca (IH.pw_stat (hg.t (le19.t (le22.t le89))) m90 m91 m103 m106 m109 f99 g111 hS) ?_
 rintro _ w4 ⟨μ4,v113,v115,cs116,rfl,le112,hS,m114,m117⟩
 refine po (wnil ?_)
 refine (fun h=>bn (xn h)) ?_
 refine creg ?_
 obtain ⟨i118,g119,h⟩:=bI h
 refine wl (su (u_addc (et (k10 d0)) ec g119) (dt (q10 p8)) (st (wnil (xl ?_))))
 exact ⟨n_1,_,_,rfl,(aK4 (aO1 (aK5 (aI (aO8 aZ))))),⟨_,i118,v113,r110,v115,cs116,rfl,h,(le89.t le112),hS,m114,m117⟩,Nat.lt_succ_self _⟩
 replace h:=iF h92 h
 refine cexit ?_
 refine (fun h=>xe (xe (bh h))) ?_
 refine xn (creg (st ?_))
 refine wl (s_bsl underlying122 ti9 (Parts.s ec rfl Parts.z) rfl rfl hS ?_); clear hS; intro b120 w5 hb121 hS; refine po ?_
 obtain ⟨μ5,le123,m122,hS⟩:=Sep.frzBlk (l:=([[125]]:List (List UInt8))) hS (Rw.one (α:=List UInt8) rfl) (Nat.le_of_ble_eq_true rfl)
 obtain ⟨r124,g125,h⟩:=bI h
 replace hS:=(hS.bg Y1).bg Y1
 refine ca (pw_put_w (hg.t (le19.t (le22.t (le89.t le123)))) (m90.up le123) (m91.up le123) m122 g125 hS) ?_
 rintro _ w6 ⟨μ6,v127,v129,cs130,rfl,le126,hS,m128,m131⟩
 refine po (wnil ?_)
 obtain rfl:=oI h
 refine end0 rfl ?_
 exact ⟨_,_,_,_,rfl,(le19.t (le22.t (le89.t (le123.t le126)))),hS,m128,m131⟩
theorem pw_stat_w {self:PrS} (IH:PrSSound self) {fu:Nat} {μ0:M} {w0 w:World} {rsF:List Res} (hg:Le Gm μ0) {b1:Nat} {v2:Value} {buf_4:List UInt8} {v5:Value} {cs6:List Value} {p_2:TStat} {b8 o9:Nat} {a10:Option Addr} {c11:Nat} {a13:Option Addr} {c14:Nat} {a16:Option Addr} {c17:Nat} {r:List UInt8} (m3:Bp μ0 b1 v2) (m7:Rw μ0 cs6 buf_4) (m12:Sl μ0 a10 c11 p_2.X.Kids) (m15:Sl μ0 a13 c14 p_2.Body) (m18:Sl μ0 a16 c17 p_2.Else) (m19:At μ0 b8 o9 [.int .i64 p_2.Kind,S p_2.Name,.int .i64 p_2.X.Kind,.int .i64 p_2.X.N,S p_2.X.Name,.slice a10 p_2.X.Kids.length c11,.slice a13 p_2.Body.length c14,.slice a16 p_2.Else.length c17]) (h:pw_stat fu self buf_4 p_2=some r) (hS:Sq μ0 w0 w (.blk b1 58 [v2,v5]::.row v5 5 1 buf_4.length cs6::rsF)):CallsV prog 104 [.pointer (some ⟨b1,0,none⟩),.pointer (some ⟨b8,o9,none⟩)] w (fun v w'=>∃ (μ':M) (v20:Value) (v22:Value) (cs23:List Value),v=.tuple ⟨[]⟩∧Le μ0 μ'∧Sq μ' w0 w' (.blk b1 58 [v20,v22]::.row v22 5 1 r.length cs23::rsF)∧Bp μ' b1 v20∧Rw μ' cs23 r):=by
 unfold pw_stat at h
 refine enter func104 rfl (frm:=_::_::u2 (u50 (u50 []))) rfl (cseq (nz ?_))
 iterate 3 refine st ?_
 refine ld ((m19 _ hS.a).one d0) (nw ?_)
 refine ccutE (rg 8 83) (by decide +kernel) (fun m w=>∃ μx v25 l29 v27 cs28,m=(yK8 (yO50 8 (yO20 58 (yO10 78 (yO3 88 [])))))∧pw_stat_j1 fu p_2 l29=some r∧Le μ0 μx∧Sq μx w0 w (.blk b1 58 [v25,v27]::.row v27 5 1 l29.length cs28::rsF)∧Bp μx b1 v25∧Rw μx cs28 l29) (by rintro _ _ ⟨_,_,_,_,_,rfl,_⟩; rfl) ?_ ?_
 refine cblock (cseq (nz ?_))
 iterate 2 refine st ?_
 refine nw ?_
 refine ccutE ([20]) (by decide) (fun m w=>∃ μx b31,m=(yK10 (yK8 (.i (.bool b31)::(yK1 (yO1 20 [])))))∧pw_stat_j2 fu self p_2 buf_4 b31=some r∧Le μ0 μx∧Sq μx w0 w (.blk b1 58 [v2,v5]::.row v5 5 1 buf_4.length cs6::rsF)) (by rintro _ _ ⟨_,_,rfl,_⟩; rfl) ?_ ?_
 refine cifd (et (k10 d8)) (fun h32=>?_) (fun h32=>?_)
 replace h:=iT h32 h
 refine cskip (xl ?_)
 exact ⟨_,_,rfl,(aK10 (aK8 (aI (aK1 (aO1 aZ))))),_,(decide (p_2.Kind=3)),rfl,h,Le.r,hS⟩
 replace h:=iF h32 h
 refine creg ?_
 iterate 2 refine st ?_
 refine wnil (xl ?_)
 exact ⟨_,_,rfl,(aK10 (aK8 (aI (aK1 (aO1 aZ))))),_,(decide (p_2.Kind=4)),rfl,h,Le.r,hS⟩
 rintro _ t w1 ⟨μ1,b31,rfl,h,le33,hS⟩
 unfold pw_stat_j2 at h
 refine nrm (mK10 (mK8 (mi (mK1 (mO1 mz))))) (xn ?_)
 refine cifb (et (k10 d8)) (fun h34=>?_) (fun h34=>?_)
 replace h:=iT h34 h
 refine nz (st ?_)
 refine wl (s_mkmap hS ?_); clear hS; intro b35 w2 hb36 hS; refine po ?_
 refine wl (s_minsM (κ:=Int) (β:=List UInt8) (kk:=3) (xx:=[105,102]) underlying133 underlying3 (et (k20 d2)) ec ec rfl hS d0 (Mq.nil (κ:=Int) (β:=List UInt8) (μ:=μ1) (c:=0)) dn ?_); clear hS; intro es37 c38 w3 rs_ m39 hp_ hS; cases (show _=rs_ from hp_)
 replace hS:=Sep.reput hS p0
 refine wl (s_minsM (κ:=Int) (β:=List UInt8) (kk:=4) (xx:=[119,104,105,108,101]) underlying133 underlying3 (et (k20 d2)) ec ec rfl hS d0 m39 dn ?_); clear hS; intro es40 c41 w4 rs_ m42 hp_ hS; cases (show _=rs_ from hp_)
 replace hS:=Sep.reput hS p0
 iterate 4 refine st ?_
 refine ld ((m19 _ (le33 _ hS.a)).one d0) ?_
 refine wl (s_mget1 (κ:=Int) (k:=p_2.Kind) (β:=List UInt8) (zx:=[]) underlying133 underlying3 (et (k20 d3)) (et (k20 d7)) zv9 rfl (hS.get d0) m42 ?_); rintro _ rfl; refine po ?_
 refine wl (s_bsl underlying122 ti9 (Parts.s (et (k20 d8)) rfl Parts.z) rfl rfl hS ?_); clear hS; intro b45 w5 hb46 hS; refine po ?_
 obtain ⟨μ2,le48,m47,hS⟩:=Sep.frzBlk (l:=([((mget (mput (mput ([]:List (Int×List UInt8)) 3 [105,102]) 4 [119,104,105,108,101]) p_2.Kind).getD [])]:List (List UInt8))) hS (Rw.one (α:=List UInt8) rfl) (Nat.le_of_ble_eq_true rfl)
 obtain ⟨r49,g50,h⟩:=bI h
 replace hS:=(hS.bg Y2).bg Y2
 refine ca (pw_put_w (hg.t (le33.t le48)) (m3.up (le33.t le48)) (m7.up (le33.t le48)) m47 g50 hS) ?_
 rintro _ w6 ⟨μ3,v52,v54,cs55,rfl,le51,hS,m53,m56⟩
 refine po (nx ?_)
 iterate 4 refine st ?_
 obtain ⟨r57,g58,h⟩:=bI h
 replace hS:=(hS.bg Y1).bg Y1
 refine ca ((PrE_sound fu).pw_expr (hg.t (le33.t (le48.t le51))) m53 m56 (m12.up (le33.t (le48.t le51))) ((m19.up (le33.t (le48.t le51))).sb 2 4) g58 hS) ?_
 rintro _ w7 ⟨μ4,v60,v62,cs63,rfl,le59,hS,m61,m64⟩
 refine po (nx ?_)
 iterate 4 refine st ?_
 refine ld ((m19 _ ((le33.t (le48.t (le51.t le59))) _ hS.a)).one d6) ?_
 obtain ⟨r65,g66,h⟩:=bI h
 replace hS:=(hS.bg Y1).bg Y1
 refine ca (IH.pw_body (hg.t (le33.t (le48.t (le51.t le59)))) m61 m64 (m15.up (le33.t (le48.t (le51.t le59)))) g66 hS) ?_
 rintro _ w8 ⟨μ5,v68,v70,cs71,rfl,le67,hS,m69,m72⟩
 refine po (ny (cseq ?_))
 refine ccutE (rg 42 12) (by decide) (fun m w=>∃ μx b73,m=(yK20 (yK20 (yK2 (yO10 42 (yO2 52 (.i (.bool b73)::[]))))))∧pw_stat_j3 self p_2 r65 b73=some r∧Le μ5 μx∧Sq μx w0 w (.blk b1 58 [v68,v70]::.row v70 5 1 r65.length cs71::rsF)) (by rintro _ _ ⟨_,_,rfl,_⟩; rfl) ?_ ?_
 refine creg ?_
 iterate 3 refine st ?_
 refine ld ((m19 _ ((le33.t (le48.t (le51.t (le59.t le67)))) _ hS.a)).one d0) ?_
 iterate 2 refine st ?_
 refine wspd (k40 d7) (q40 p7) (q40 p7) (fun h74=>?_) (fun h74=>?_)
 replace h:=iT h74 h
 refine sy rfl (sy rfl (sy rfl (wy rfl (k40 d7) (s_load ti64 (et (k50 d0)) ((m19 _ ((le33.t (le48.t (le51.t (le59.t le67)))) _ hS.a)).one d7) (dt (q50 p1)) (wy rfl (k40 d7) (su (u_lensl underlying64 (et (k50 d1))) (dt (q50 p2)) (sy rfl (st (wnil (xl ?_))))))))))
 replace hS:=hS.drop (Rm.s (Rm.s Rm.z))
 exact ⟨_,_,rfl,(aK20 (aK20 (aK2 (aO10 (aO2 (aI aZ)))))),_,(decide ((0:Int)<(p_2.Else.length:Int))),rfl,h,Le.r,hS⟩
 replace h:=iF h74 h
 refine sn rfl rfl (sn rfl rfl (sn rfl rfl (sn rfl rfl (sn rfl rfl (sn rfl rfl (st (wnil (xl ?_))))))))
 replace hS:=hS.drop (Rm.s (Rm.s Rm.z))
 exact ⟨_,_,rfl,(aK20 (aK20 (aK2 (aO10 (aO2 (aI aZ)))))),_,false,rfl,h,Le.r,hS⟩
 rintro _ t w9 ⟨μ6,b73,rfl,h,le75,hS⟩
 unfold pw_stat_j3 at h
 refine nrm (mK20 (mK20 (mK2 (mO10 (mO2 (mi mz)))))) (xn ?_)
 refine cifb (et (k50 d4)) (fun h76=>?_) (fun h76=>?_)
 replace h:=iT h76 h
 refine nz (st ?_)
 refine wl (s_bsl underlying122 ti9 (Parts.s ec rfl Parts.z) rfl rfl hS ?_); clear hS; intro b77 w10 hb78 hS; refine po ?_
 obtain ⟨μ7,le80,m79,hS⟩:=Sep.frzBlk (l:=([[101,108,115,101]]:List (List UInt8))) hS (Rw.one (α:=List UInt8) rfl) (Nat.le_of_ble_eq_true rfl)
 obtain ⟨r81,g82,h⟩:=bI h
 replace hS:=(hS.bg Y1).bg Y1
 refine ca (pw_put_w (hg.t (le33.t (le48.t (le51.t (le59.t (le67.t (le75.t le80))))))) (m69.up (le75.t le80)) (m72.up (le75.t le80)) m79 g82 hS) ?_
 rintro _ w11 ⟨μ8,v84,v86,cs87,rfl,le83,hS,m85,m88⟩
 refine po (nw (creg ?_))
 iterate 4 refine st ?_
 refine ld ((m19 _ ((le33.t (le48.t (le51.t (le59.t (le67.t (le75.t (le80.t le83))))))) _ hS.a)).one d7) ?_
 obtain ⟨r89,g90,h⟩:=bI h
 replace hS:=(hS.bg Y1).bg Y1
 refine ca (IH.pw_body (hg.t (le33.t (le48.t (le51.t (le59.t (le67.t (le75.t (le80.t le83)))))))) m85 m88 (m18.up (le33.t (le48.t (le51.t (le59.t (le67.t (le75.t (le80.t le83)))))))) g90 hS) ?_
 rintro _ w12 ⟨μ9,v92,v94,cs95,rfl,le91,hS,m93,m96⟩
 refine po (nw (cret ?_))
 refine (fun h=>br (xr (xr h))) ?_
 obtain rfl:=oI h
 refine ret0 rfl ?_
 exact ⟨_,_,_,_,rfl,(le33.t (le48.t (le51.t (le59.t (le67.t (le75.t (le80.t (le83.t le91)))))))),hS,m93,m96⟩
 replace h:=iF h76 h
 refine cskip (xn (cret ?_))
 refine (fun h=>br (xr (xr h))) ?_
 obtain rfl:=oI h
 refine ret0 rfl ?_
 exact ⟨_,_,_,_,rfl,(le33.t (le48.t (le51.t (le59.t (le67.t le75))))),hS,(m69.up le75),(m72.up le75)⟩
 replace h:=iF h34 h
 refine nz ?_
 iterate 2 refine st ?_
 refine nw ?_
 refine cifd (et (k60 d4)) (fun h97=>?_) (fun h97=>?_)
 replace h:=iT h97 h
 refine creg ?_
 iterate 4 refine st ?_
 refine ld ((m19 _ (le33 _ hS.a)).one d1) ?_
 refine wl (s_bsl underlying122 ti9 (Parts.s ec rfl (Parts.s (et (k70 d0)) rfl (Parts.s ec rfl Parts.z))) rfl rfl hS ?_); clear hS; intro b98 w13 hb99 hS; refine po ?_
 obtain ⟨μ10,le101,m100,hS⟩:=Sep.frzBlk (l:=([[108,101,116],p_2.Name,[61]]:List (List UInt8))) hS (Rw.cons (α:=List UInt8) (cs:=[S [108,101,116]]) rfl (Rw.cons (α:=List UInt8) (cs:=[S p_2.Name]) rfl (Rw.cons (α:=List UInt8) (cs:=[S [61]]) rfl Rw.nil))) (Nat.le_of_ble_eq_true rfl)
 obtain ⟨r102,g103,h⟩:=bI h
 replace hS:=(hS.bg Y1).bg Y1
 refine ca (pw_put_w (hg.t (le33.t le101)) (m3.up (le33.t le101)) (m7.up (le33.t le101)) m100 g103 hS) ?_
 rintro _ w14 ⟨μ11,v105,v107,cs108,rfl,le104,hS,m106,m109⟩
 refine po (wnil ?_)
 refine (fun h=>bn (xl h)) ?_
 exact ⟨_,_,rfl,(aK8 (aO50 (aO20 (aO10 (aO3 aZ))))),_,_,_,_,_,rfl,h,(le33.t (le101.t le104)),hS,m106,m109⟩
 replace h:=iF h97 h
 refine nz ?_
 iterate 2 refine st ?_
 refine nw ?_
 refine cifd (et (k70 d3)) (fun h110=>?_) (fun h110=>?_)
 replace h:=iT h110 h
 refine creg ?_
 iterate 4 refine st ?_
 refine ld ((m19 _ (le33 _ hS.a)).one d1) ?_
 refine wl (s_bsl underlying122 ti9 (Parts.s (et (k70 d9)) rfl (Parts.s ec rfl Parts.z)) rfl rfl hS ?_); clear hS; intro b111 w15 hb112 hS; refine po ?_
 obtain ⟨μ12,le114,m113,hS⟩:=Sep.frzBlk (l:=([p_2.Name,[61]]:List (List UInt8))) hS (Rw.cons (α:=List UInt8) (cs:=[S p_2.Name]) rfl (Rw.cons (α:=List UInt8) (cs:=[S [61]]) rfl Rw.nil)) (Nat.le_of_ble_eq_true rfl)
 obtain ⟨r115,g116,h⟩:=bI h
 replace hS:=(hS.bg Y1).bg Y1
 refine ca (pw_put_w (hg.t (le33.t le114)) (m3.up (le33.t le114)) (m7.up (le33.t le114)) m113 g116 hS) ?_
 rintro _ w16 ⟨μ13,v118,v120,cs121,rfl,le117,hS,m119,m122⟩
 refine po (wnil ?_)
 refine (fun h=>bn (xl h)) ?_
 exact ⟨_,_,rfl,(aK8 (aO50 (aO20 (aO10 (aO3 aZ))))),_,_,_,_,_,rfl,h,(le33.t (le114.t le117)),hS,m119,m122⟩
 replace h:=iF h110 h
 refine nz ?_
 iterate 2 refine st ?_
 refine nw ?_
 refine cifd (et (k80 d2)) (fun h123=>?_) (fun h123=>?_)
 replace h:=iT h123 h
 refine creg ?_
 iterate 4 refine st ?_
 refine ld ((m19 _ (le33 _ hS.a)).one d1) ?_
 refine wl (s_bsl underlying122 ti9 (Parts.s ec rfl (Parts.s (et (k80 d8)) rfl Parts.z)) rfl rfl hS ?_); clear hS; intro b124 w17 hb125 hS; refine po ?_
 obtain ⟨μ14,le127,m126,hS⟩:=Sep.frzBlk (l:=([[115,101,110,100],p_2.Name]:List (List UInt8))) hS (Rw.cons (α:=List UInt8) (cs:=[S [115,101,110,100]]) rfl (Rw.cons (α:=List UInt8) (cs:=[S p_2.Name]) rfl Rw.nil)) (Nat.le_of_ble_eq_true rfl)
 obtain ⟨r128,g129,h⟩:=bI h
 replace hS:=(hS.bg Y1).bg Y1
 refine ca (pw_put_w (hg.t (le33.t le127)) (m3.up (le33.t le127)) (m7.up (le33.t le127)) m126 g129 hS) ?_
 rintro _ w18 ⟨μ15,v131,v133,cs134,rfl,le130,hS,m132,m135⟩
 refine po (wnil ?_)
 refine (fun h=>bn (xl h)) ?_
 exact ⟨_,_,rfl,(aK8 (aO50 (aO20 (aO10 (aO3 aZ))))),_,_,_,_,_,rfl,h,(le33.t (le127.t le130)),hS,m132,m135⟩
 replace h:=iF h123 h
 refine creg (st ?_)
 refine wl (s_mkmap hS ?_); clear hS; intro b136 w19 hb137 hS; refine po ?_
 refine wl (s_minsM (κ:=Int) (β:=List UInt8) (kk:=5) (xx:=[114,101,116,117,114,110]) underlying133 underlying3 (et d9) ec ec rfl hS d0 (Mq.nil (κ:=Int) (β:=List UInt8) (μ:=μ1) (c:=0)) dn ?_); clear hS; intro es138 c139 w20 rs_ m140 hp_ hS; cases (show _=rs_ from hp_)
 replace hS:=Sep.reput hS p0
 refine wl (s_minsM (κ:=Int) (β:=List UInt8) (kk:=6) (xx:=[115,116,111,112]) underlying133 underlying3 (et d9) ec ec rfl hS d0 m140 dn ?_); clear hS; intro es141 c142 w21 rs_ m143 hp_ hS; cases (show _=rs_ from hp_)
 replace hS:=Sep.reput hS p0
 refine wl (s_minsM (κ:=Int) (β:=List UInt8) (kk:=8) (xx:=[111,117,116]) underlying133 underlying3 (et d9) ec ec rfl hS d0 m143 dn ?_); clear hS; intro es144 c145 w22 rs_ m146 hp_ hS; cases (show _=rs_ from hp_)
 replace hS:=Sep.reput hS p0
 refine wl (s_minsM (κ:=Int) (β:=List UInt8) (kk:=9) (xx:=[100,111]) underlying133 underlying3 (et d9) ec ec rfl hS d0 m146 dn ?_); clear hS; intro es147 c148 w23 rs_ m149 hp_ hS; cases (show _=rs_ from hp_)
 replace hS:=Sep.reput hS p0
 iterate 4 refine st ?_
 refine ld ((m19 _ (le33 _ hS.a)).one d0) ?_
 refine wl (s_mget1 (κ:=Int) (k:=p_2.Kind) (β:=List UInt8) (zx:=[]) underlying133 underlying3 (et (k10 d0)) (et (k10 d4)) zv9 rfl (hS.get d0) m149 ?_); rintro _ rfl; refine po ?_
 refine wl (s_bsl underlying122 ti9 (Parts.s (et (k10 d5)) rfl Parts.z) rfl rfl hS ?_); clear hS; intro b152 w24 hb153 hS; refine po ?_
 obtain ⟨μ16,le155,m154,hS⟩:=Sep.frzBlk (l:=([((mget (mput (mput (mput (mput ([]:List (Int×List UInt8)) 5 [114,101,116,117,114,110]) 6 [115,116,111,112]) 8 [111,117,116]) 9 [100,111]) p_2.Kind).getD [])]:List (List UInt8))) hS (Rw.one (α:=List UInt8) rfl) (Nat.le_of_ble_eq_true rfl)
 obtain ⟨r156,g157,h⟩:=bI h
 replace hS:=(hS.bg Y2).bg Y2
 refine ca (pw_put_w (hg.t (le33.t le155)) (m3.up (le33.t le155)) (m7.up (le33.t le155)) m154 g157 hS) ?_
 rintro _ w25 ⟨μ17,v159,v161,cs162,rfl,le158,hS,m160,m163⟩
 refine po (wnil ?_)
 refine (fun h=>bn (xl h)) ?_
 replace hS:=hS.drop (Rm.s (Rm.s Rm.z))
 exact ⟨_,_,rfl,(aK8 (aO50 (aO20 (aO10 (aO3 aZ))))),_,_,_,_,_,rfl,h,(le33.t (le155.t le158)),hS,m160,m163⟩
 rintro _ t w26 ⟨μ18,v25,l29,v27,cs28,rfl,h,le164,hS,m165,m166⟩
 unfold pw_stat_j1 at h
 refine nrm (mK8 (mO50 (mO20 (mO10 (mO3 mz))))) (xn (cseq (nz ?_)))
 iterate 3 refine st ?_
 refine ld ((m19 _ (le164 _ hS.a)).one d0) (st (nw ?_))
 refine ccutE (rg 96 5) (by decide) (fun m w=>∃ μx v167 l171 v169 cs170,m=(yK50 (yK20 (yK20 (yK6 (yO5 96 [])))))∧pw_stat_j4 l171=some r∧Le μ18 μx∧Sq μx w0 w (.blk b1 58 [v167,v169]::.row v169 5 1 l171.length cs170::rsF)∧Bp μx b1 v167∧Rw μx cs170 l171) (by rintro _ _ ⟨_,_,_,_,_,rfl,_⟩; rfl) ?_ ?_
 refine cifd (et (k90 d5)) (fun h173=>?_) (fun h173=>?_)
 replace h:=iT h173 h
 refine creg ?_
 iterate 4 refine st ?_
 obtain ⟨r174,g175,h⟩:=bI h
 replace hS:=(hS.bg Y1).bg Y1
 refine ca ((PrE_sound fu).pw_expr (hg.t le164) m165 m166 (m12.up le164) ((m19.up le164).sb 2 4) g175 hS) ?_
 rintro _ w27 ⟨μ19,v177,v179,cs180,rfl,le176,hS,m178,m181⟩
 refine po (wnil (xl ?_))
 exact ⟨_,_,rfl,(aK50 (aK20 (aK20 (aK6 (aO5 aZ))))),_,_,_,_,_,rfl,h,le176,hS,m178,m181⟩
 replace h:=iF h173 h
 refine cskip (xl ?_)
 exact ⟨_,_,rfl,(aK50 (aK20 (aK20 (aK6 (aO5 aZ))))),_,_,_,_,_,rfl,h,Le.r,hS,m165,m166⟩
 rintro _ t w28 ⟨μ20,v167,l171,v169,cs170,rfl,h,le182,hS,m183,m184⟩
 unfold pw_stat_j4 at h
 refine nrm (mK50 (mK20 (mK20 (mK6 (mO5 mz))))) (xn (creg (st ?_)))
 refine wl (s_bsl underlying122 ti9 (Parts.s ec rfl Parts.z) rfl rfl hS ?_); clear hS; intro b185 w29 hb186 hS; refine po ?_
 obtain ⟨μ21,le188,m187,hS⟩:=Sep.frzBlk (l:=([[59]]:List (List UInt8))) hS (Rw.one (α:=List UInt8) rfl) (Nat.le_of_ble_eq_true rfl)
 obtain ⟨r189,g190,h⟩:=bI h
 replace hS:=(hS.bg Y1).bg Y1
 refine ca (pw_put_w (hg.t (le164.t (le182.t le188))) (m183.up le188) (m184.up le188) m187 g190 hS) ?_
 rintro _ w30 ⟨μ22,v192,v194,cs195,rfl,le191,hS,m193,m196⟩
 refine po (wnil ?_)
 obtain rfl:=oI h
 refine end0 rfl ?_
 exact ⟨_,_,_,_,rfl,(le164.t (le182.t (le188.t le191))),hS,m193,m196⟩
theorem PrS_sound:∀ n,PrSSound (PrS_run n)
  | 0=>⟨(by intros; rename_i h _; cases h),(by intros; rename_i h _; cases h)⟩
  | n+1=>⟨pw_body_w (PrS_sound n),pw_stat_w (PrS_sound n)⟩
theorem pw_def_w (hg:Le Gm μ0) {buf_4:List UInt8} {p_2:TDef} {r:List UInt8} (m3:Bp μ0 b1 v2) (m7:Rw μ0 cs6 buf_4) (m12:Sl μ0 a10 c11 p_2.Params) (m15:Sl μ0 a13 c14 p_2.Body) (m16:At μ0 b8 o9 [.int .i64 p_2.Kind,S p_2.Name,.int .i64 p_2.Typ.Kind,S p_2.Typ.Gen,.int .i64 p_2.Takes.Kind,S p_2.Takes.Gen,.int .i64 p_2.Cap,.slice a10 p_2.Params.length c11,.slice a13 p_2.Body.length c14]) (h:pw_def fu buf_4 p_2=some r) (hS:Sq μ0 w0 w (.blk b1 58 [v2,v5]::.row v5 5 1 buf_4.length cs6::rsF)):CallsV prog 22 [.pointer (some ⟨b1,0,none⟩),.pointer (some ⟨b8,o9,none⟩)] w (fun v w'=>∃ (μ':M) (v17:Value) (v19:Value) (cs20:List Value),v=.tuple ⟨[]⟩∧Le μ0 μ'∧Sq μ' w0 w' (.blk b1 58 [v17,v19]::.row v19 5 1 r.length cs20::rsF)∧Bp μ' b1 v17∧Rw μ' cs20 r):=by
 unfold pw_def at h
 refine enter func22 rfl (frm:=_::_::u2 (u2 (u50 (u50 [])))) rfl (cseq (nz ?_))
 iterate 3 refine st ?_
 refine ld ((m16 _ hS.a).one d0) (nw ?_)
 refine ccutE (rg 4 2++rg 10 90) (by decide +kernel) (fun m w=>∃ μx v22 l26 v24 cs25,m=(yK4 (yO2 4 (yK4 (yO50 10 (yO20 60 (yO20 80 []))))))∧pw_def_j1 fu p_2 l26=some r∧Le μ0 μx∧Sq μx w0 w (.blk b1 58 [v22,v24]::.row v24 5 1 l26.length cs25::rsF)∧Bp μx b1 v22∧Rw μx cs25 l26) (by rintro _ _ ⟨_,_,_,_,_,rfl,_⟩; rfl) ?_ ?_
 refine cblock (nz ?_)
 iterate 2 refine st ?_
 refine nw ?_
 refine cifd (et (k70 d2)) (fun h28=>?_) (fun h28=>?_)
 replace h:=iT h28 h
 refine cseq ?_
 refine ccutE (rg 74 17) (by decide) (fun m w=>∃ μx v29 l33 v31 cs32,m=(yK50 (yK20 (yK4 (yO10 74 (yO7 84 [])))))∧pw_def_j2 l33=some r∧Le μ0 μx∧Sq μx w0 w (.blk b1 58 [v29,v31]::.row v31 5 1 l33.length cs32::rsF)∧Bp μx b1 v29∧Rw μx cs32 l33) (by rintro _ _ ⟨_,_,_,_,_,rfl,_⟩; rfl) ?_ ?_
 refine cdw hS ?_; clear hS; intro w1 hS
 refine sf_start (fpi 0 [0,16] rfl (fpi 1 [1,2,3,4,15,16] rfl (fpi 2 [2,3,4,15,16] rfl (fpi 3 [3,4,15,16] rfl (fr_ 4 [4,15,16] rfl (u_load ti9 (et (k70 d7)) ((m16 _ hS.a).one d1)) (q70 p8) (fpi 5 [5,6,7,8,9,14,15,16] rfl (fpi 6 [6,7,8,9,14,15,16] rfl (fpi 7 [7,8,9,14,15,16] rfl (fr_ 8 [8,9,14,15,16] rfl (u_loads ti62 (et (k80 d1)) ((m16 _ hS.a).sb 2 2) rfl) (q80 p2) (fpi 10 [10,11,12,13,14,15,16] rfl (fpi 11 [11,12,13,14,15,16] rfl (fpi 12 [12,13,14,15,16] rfl (fr_ 13 [13,14,15,16] rfl (u_load ti3 (et (k80 d6)) ((m16 _ hS.a).one d6)) (q80 p7) ?_)))))))))))))
 obtain ⟨r35,g36,h⟩:=bI h
 refine sf1 rfl rfl rfl rfl (wn0 rfl) (s_callv isfn50 ef (e1 (et (k80 d2)) e0) (pr_type_w hg g36 hS) ?_)
 rintro _ w2 ⟨μ1,rfl,le37,hS⟩
 refine po ?_
 refine ⟨(Mons.s (u_load ti3 (et (k80 d6)) ((m16 _ (le37 _ hS.a)).one d6)) (Mons.s (u_load ti9 (et (k70 d7)) ((m16 _ (le37 _ hS.a)).one d1)) Mons.z)),?_⟩
 obtain ⟨s38,g39,h⟩:=bI h
 refine sf1 rfl rfl rfl rfl (wn0 rfl) (s_callv isfn51 ef (e1 (et (k80 d7)) e0) (itoa_w (hg.t le37) g39 hS) ?_); clear hS; rintro _ w3 ⟨rfl,hS⟩; refine po ?_
 refine ⟨(Mons.s (u_load ti9 (et (k70 d7)) ((m16 _ (le37 _ hS.a)).one d1)) Mons.z),?_⟩
 refine sf1 rfl rfl rfl rfl (wn0 rfl) (s_bsl underlying122 ti9 (Parts.s ec rfl (Parts.s (et (k70 d8)) rfl (Parts.s (et (k80 d3)) rfl (Parts.s (et (k80 d8)) rfl (Parts.s ec rfl Parts.z))))) rfl rfl hS ?_); clear hS; intro b40 w4 hb41 hS; refine po ?_
 refine ⟨Mons.z,?_⟩
 obtain ⟨μ2,le43,m42,hS⟩:=Sep.frzBlk (l:=([[98,111,120],p_2.Name,r35,s38,[59]]:List (List UInt8))) hS (Rw.cons (α:=List UInt8) (cs:=[S [98,111,120]]) rfl (Rw.cons (α:=List UInt8) (cs:=[S p_2.Name]) rfl (Rw.cons (α:=List UInt8) (cs:=[S r35]) rfl (Rw.cons (α:=List UInt8) (cs:=[S s38]) rfl (Rw.cons (α:=List UInt8) (cs:=[S [59]]) rfl Rw.nil))))) (Nat.le_of_ble_eq_true rfl)
 obtain ⟨r44,g45,h⟩:=bI h
 replace hS:=(hS.bg Y1).bg Y1
 refine sf1 rfl rfl rfl rfl (wn0 rfl) (s_callv isfn49 ef (e1 (et (k70 d4)) (e1 (et (k80 d9)) e0)) (pw_put_w (hg.t (le37.t le43)) (m3.up (le37.t le43)) (m7.up (le37.t le43)) m42 g45 hS) ?_)
 rintro _ w5 ⟨μ3,v47,v49,cs50,rfl,le46,hS,m48,m51⟩
 refine po ?_
 refine ⟨Mons.z,?_⟩
 refine sf_nil (xl ?_)
 exact ⟨_,_,rfl,(aK50 (aK20 (aK4 (aO10 (aO7 aZ))))),_,_,_,_,_,rfl,h,(le37.t (le43.t le46)),hS,m48,m51⟩
 rintro _ t w6 ⟨μ4,v29,l33,v31,cs32,rfl,h,le52,hS,m53,m54⟩
 unfold pw_def_j2 at h
 refine nrm (mK50 (mK20 (mK4 (mO10 (mO7 mz))))) (xn (cret ?_))
 refine (fun h=>br (xr (xr h))) ?_
 obtain rfl:=oI h
 refine ret0 rfl ?_
 exact ⟨_,_,_,_,rfl,le52,hS,m53,m54⟩
 replace h:=iF h28 h
 refine nz ?_
 iterate 2 refine st ?_
 refine nw ?_
 refine cifd (et (k90 d1)) (fun h55=>?_) (fun h55=>?_)
 replace h:=iT h55 h
 refine creg ?_
 iterate 4 refine st ?_
 refine ld ((m16 _ hS.a).one d1) ?_
 refine wl (s_bsl underlying122 ti9 (Parts.s ec rfl (Parts.s (et (k90 d7)) rfl Parts.z)) rfl rfl hS ?_); clear hS; intro b56 w7 hb57 hS; refine po ?_
 obtain ⟨μ5,le59,m58,hS⟩:=Sep.frzBlk (l:=([[116,97,115,107],p_2.Name]:List (List UInt8))) hS (Rw.cons (α:=List UInt8) (cs:=[S [116,97,115,107]]) rfl (Rw.cons (α:=List UInt8) (cs:=[S p_2.Name]) rfl Rw.nil)) (Nat.le_of_ble_eq_true rfl)
 obtain ⟨r60,g61,h⟩:=bI h
 replace hS:=(hS.bg Y1).bg Y1
 refine ca (pw_put_w (hg.t le59) (m3.up le59) (m7.up le59) m58 g61 hS) ?_
 rintro _ w8 ⟨μ6,v63,v65,cs66,rfl,le62,hS,m64,m67⟩
 refine po (wnil ?_)
 refine (fun h=>bn (xl h)) ?_
 exact ⟨_,_,rfl,(aK4 (aO2 (aK4 (aO50 (aO20 (aO20 aZ)))))),_,_,_,_,_,rfl,h,(le59.t le62),hS,m64,m67⟩
 replace h:=iF h55 h
 refine cseq ?_
 refine ccutE (rg 10 14) (by decide) (fun m w=>∃ μx v68 l72 v70 cs71,m=(yK10 (yO10 10 (yO4 20 [])))∧pw_def_j3 fu p_2 l72=some r∧Le μ0 μx∧Sq μx w0 w (.blk b1 58 [v68,v70]::.row v70 5 1 l72.length cs71::rsF)∧Bp μx b1 v68∧Rw μx cs71 l72) (by rintro _ _ ⟨_,_,_,_,_,rfl,_⟩; rfl) ?_ ?_
 refine cdw hS ?_; clear hS; intro w9 hS
 refine sf_start (fpi 0 [0,15] rfl (fpi 5 [5,6,7,8,9,14,15] rfl (fpi 6 [6,7,8,9,14,15] rfl (fpi 7 [7,8,9,14,15] rfl (fr_ 8 [8,9,14,15] rfl (u_load ti3 (et (k10 d5)) ((m16 _ hS.a).one d0)) (q10 p6) (fpi 10 [10,11,12,13,14,15] rfl (fpi 11 [11,12,13,14,15] rfl (fpi 12 [12,13,14,15] rfl (fr_ 13 [13,14,15] rfl (u_load ti9 (et (k20 d0)) ((m16 _ hS.a).one d1)) (q20 p1) ?_)))))))))
 refine sf1 rfl rfl rfl rfl (wn0 rfl) (s_mkmap hS ?_); clear hS; intro b74 w10 hb75 hS; refine po ?_
 refine ⟨(Mons.s (u_load ti9 (et (k20 d0)) ((m16 _ hS.a).one d1)) (Mons.s (u_load ti3 (et (k10 d5)) ((m16 _ hS.a).one d0)) Mons.z)),?_⟩
 refine sf2 (i:=2) (j:=3) rfl rfl rfl rfl rfl rfl rfl (wn0 rfl) (wn0 rfl) ?_ ?_
 refine id (s_minsM (κ:=Int) (β:=List UInt8) (kk:=2) (xx:=[102,110]) underlying133 underlying3 (et (k10 d1)) ec ec rfl hS d0 (Mq.nil (κ:=Int) (β:=List UInt8) (μ:=μ0) (c:=0)) dn ?_); clear hS; intro es76 c77 w11 rs_ m78 hp_ hS; cases (show _=rs_ from hp_)
 replace hS:=Sep.reput hS p0
 refine ⟨(Mons.s (u_load ti9 (et (k20 d0)) ((m16 _ hS.a).one d1)) (Mons.s (u_load ti3 (et (k10 d5)) ((m16 _ hS.a).one d0)) Mons.z)),?_⟩
 refine sf1 rfl rfl rfl rfl (wn0 rfl) (s_minsM (κ:=Int) (β:=List UInt8) (kk:=3) (xx:=[103,101,110]) underlying133 underlying3 (et (k10 d1)) ec ec rfl hS d0 m78 dn ?_); clear hS; intro es79 c80 w12 rs_ m81 hp_ hS; cases (show _=rs_ from hp_)
 replace hS:=Sep.reput hS p0
 refine ⟨(Mons.s (u_load ti9 (et (k20 d0)) ((m16 _ hS.a).one d1)) (Mons.s (u_load ti3 (et (k10 d5)) ((m16 _ hS.a).one d0)) Mons.z)),?_⟩
 refine fpi 4 [4,9,14,15] rfl ?_
 refine sf1 rfl rfl rfl rfl (wn0 rfl) (s_mget1 (κ:=Int) (k:=p_2.Kind) (β:=List UInt8) (zx:=[]) underlying133 underlying3 (et (k10 d2)) (et (k10 d6)) zv9 rfl (hS.get d0) m81 ?_); rintro _ rfl; refine po ?_
 refine ⟨(Mons.s (u_load ti9 (et (k20 d0)) ((m16 _ hS.a).one d1)) Mons.z),?_⟩
 refine sf1 rfl rfl rfl rfl (wn0 rfl) (s_bsl underlying122 ti9 (Parts.s (et (k10 d7)) rfl (Parts.s (et (k20 d1)) rfl (Parts.s ec rfl Parts.z))) rfl rfl hS ?_); clear hS; intro b84 w13 hb85 hS; refine po ?_
 refine ⟨Mons.z,?_⟩
 obtain ⟨μ7,le87,m86,hS⟩:=Sep.frzBlk (l:=([((mget (mput (mput ([]:List (Int×List UInt8)) 2 [102,110]) 3 [103,101,110]) p_2.Kind).getD []),p_2.Name,[40]]:List (List UInt8))) hS (Rw.cons (α:=List UInt8) (cs:=[S ((mget (mput (mput ([]:List (Int×List UInt8)) 2 [102,110]) 3 [103,101,110]) p_2.Kind).getD [])]) rfl (Rw.cons (α:=List UInt8) (cs:=[S p_2.Name]) rfl (Rw.cons (α:=List UInt8) (cs:=[S [40]]) rfl Rw.nil))) (Nat.le_of_ble_eq_true rfl)
 obtain ⟨r88,g89,h⟩:=bI h
 replace hS:=(hS.bg Y2).bg Y2
 refine sf1 rfl rfl rfl rfl (wn0 rfl) (s_callv isfn49 ef (e1 (et (k10 d0)) (e1 (et (k20 d2)) e0)) (pw_put_w (hg.t le87) (m3.up le87) (m7.up le87) m86 g89 hS) ?_)
 rintro _ w14 ⟨μ8,v91,v93,cs94,rfl,le90,hS,m92,m95⟩
 refine po ?_
 refine ⟨Mons.z,?_⟩
 refine sf_nil (xl ?_)
 replace hS:=hS.drop (Rm.s (Rm.s Rm.z))
 exact ⟨_,_,rfl,(aK10 (aO10 (aO4 aZ))),_,_,_,_,_,rfl,h,(le87.t le90),hS,m92,m95⟩
 obtain ⟨r88,g89,h⟩:=bI h
 refine id (s_minsM (κ:=Int) (β:=List UInt8) (kk:=3) (xx:=[103,101,110]) underlying133 underlying3 (et (k10 d1)) ec ec rfl hS d0 (Mq.nil (κ:=Int) (β:=List UInt8) (μ:=μ0) (c:=0)) dn ?_); clear hS; intro es96 c97 w15 rs_ m98 hp_ hS; cases (show _=rs_ from hp_)
 replace hS:=Sep.reput hS p0
 refine ⟨(Mons.s (u_load ti9 (et (k20 d0)) ((m16 _ hS.a).one d1)) (Mons.s (u_load ti3 (et (k10 d5)) ((m16 _ hS.a).one d0)) Mons.z)),?_⟩
 refine sf1 rfl rfl rfl rfl (wn0 rfl) (s_minsM (κ:=Int) (β:=List UInt8) (kk:=2) (xx:=[102,110]) underlying133 underlying3 (et (k10 d1)) ec ec rfl hS d0 m98 dn ?_); clear hS; intro es99 c100 w16 rs_ m101 hp_ hS; cases (show _=rs_ from hp_)
 replace hS:=Sep.reput hS p0
 refine ⟨(Mons.s (u_load ti9 (et (k20 d0)) ((m16 _ hS.a).one d1)) (Mons.s (u_load ti3 (et (k10 d5)) ((m16 _ hS.a).one d0)) Mons.z)),?_⟩
 refine fpi 4 [4,9,14,15] rfl ?_
 refine sf1 rfl rfl rfl rfl (wn0 rfl) (s_mget1 (κ:=Int) (k:=p_2.Kind) (β:=List UInt8) (zx:=[]) underlying133 underlying3 (et (k10 d2)) (et (k10 d6)) zv9 rfl (hS.get d0) m101 ?_); rintro _ rfl; refine po ?_
 rw [show mget (mput (mput ([]:List (Int×List UInt8)) 3 [103,101,110]) 2 [102,110]) p_2.Kind=mget (mput (mput ([]:List (Int×List UInt8)) 2 [102,110]) 3 [103,101,110]) p_2.Kind from mget_swap (by decide)]
 refine ⟨(Mons.s (u_load ti9 (et (k20 d0)) ((m16 _ hS.a).one d1)) Mons.z),?_⟩
 refine sf1 rfl rfl rfl rfl (wn0 rfl) (s_bsl underlying122 ti9 (Parts.s (et (k10 d7)) rfl (Parts.s (et (k20 d1)) rfl (Parts.s ec rfl Parts.z))) rfl rfl hS ?_); clear hS; intro b104 w17 hb105 hS; refine po ?_
 refine ⟨Mons.z,?_⟩
 obtain ⟨μ9,le107,m106,hS⟩:=Sep.frzBlk (l:=([((mget (mput (mput ([]:List (Int×List UInt8)) 2 [102,110]) 3 [103,101,110]) p_2.Kind).getD []),p_2.Name,[40]]:List (List UInt8))) hS (Rw.cons (α:=List UInt8) (cs:=[S ((mget (mput (mput ([]:List (Int×List UInt8)) 2 [102,110]) 3 [103,101,110]) p_2.Kind).getD [])]) rfl (Rw.cons (α:=List UInt8) (cs:=[S p_2.Name]) rfl (Rw.cons (α:=List UInt8) (cs:=[S [40]]) rfl Rw.nil))) (Nat.le_of_ble_eq_true rfl)
 replace hS:=(hS.bg Y2).bg Y2
 refine sf1 rfl rfl rfl rfl (wn0 rfl) (s_callv isfn49 ef (e1 (et (k10 d0)) (e1 (et (k20 d2)) e0)) (pw_put_w (hg.t le107) (m3.up le107) (m7.up le107) m106 g89 hS) ?_)
 rintro _ w18 ⟨μ10,v109,v111,cs112,rfl,le108,hS,m110,m113⟩
 refine po ?_
 refine ⟨Mons.z,?_⟩
 refine sf_nil (xl ?_)
 replace hS:=hS.drop (Rm.s (Rm.s Rm.z))
 exact ⟨_,_,rfl,(aK10 (aO10 (aO4 aZ))),_,_,_,_,_,rfl,h,(le107.t le108),hS,m110,m113⟩
 rintro _ t w19 ⟨μ11,v68,l72,v70,cs71,rfl,h,le114,hS,m115,m116⟩
 unfold pw_def_j3 at h
 refine nrm (mK10 (mO10 (mO4 mz))) (xn (cseq (nz ?_)))
 iterate 3 refine st ?_
 refine ld ((m16 _ (le114 _ hS.a)).one d7) (wl (su (u_lensl underlying63 (et (k20 d7))) (dt (q20 p8)) (st (nw (cblock ?_)))))
 refine cloopE (rg 4 2++rg 30 18) (by decide) (fun n m w=>∃ μx i162 v163 l167 v165 cs166,m=(yK4 (yO2 4 (yK20 (yK3 (.i (.int .i64 i162)::(yO10 30 (yO8 40 [])))))))∧pw_def_l1 fu p_2 n i162 l167=some r∧Le μ11 μx∧Sq μx w0 w (.blk b1 58 [v163,v165]::.row v165 5 1 l167.length cs166::rsF)∧Bp μx b1 v163∧Rw μx cs166 l167) (by rintro _ _ _ ⟨_,_,_,_,_,_,rfl,_⟩; rfl) _ _ (aK4 (aO2 (aK20 (aK3 (aI (aO10 (aO8 aZ))))))) ⟨_,0,v68,l72,v70,cs71,rfl,h,Le.r,hS,m115,m116⟩ ?_
 rintro n_1 _ t w20 ⟨μ12,i162,v163,l167,v165,cs166,rfl,h,le214,hS,m215,m216⟩
 rcases n_1 with _|n_1
 cases h
 unfold pw_def_l1 at h
 refine cnrm (mK4 (mO2 (mK20 (mK3 (mi (mO10 (mO8 mz))))))) (nz (st (ny ?_)))
 refine cifd (et (k30 d0)) (fun h217=>?_) (fun h217=>?_)
 replace h:=iT h217 h
 refine cskip (xn (cseq (cblock (nz (st ?_)))))
 obtain ⟨x218,g219,h⟩:=bI h
 obtain ⟨b220,o221,cs222,e223,f224,m225⟩:=SlR.elem (m12.up (le114.t le214)) g219
 obtain rfl:=m225
 refine wl (su (u_iax underlying63 ti97 (et (k20 d7)) (et (k20 d9)) e223) (dt (q30 p2)) (lds (f224 _ hS.a) rfl ?_))
 refine wl (s_alloc ti97 hS ?_); clear hS; intro b226 w21 hb227 hS; refine po ?_
 refine st (wl (s_storeA ti97 (et d5) (et (k30 d3)) rfl rfl hS d0 rfl p0 dn ?_))
 clear hS; intro w22 hS
 refine ny (nz ?_)
 iterate 2 refine st ?_
 refine nw ?_
 refine ccutE (rg 36 3) (by decide) (fun m w=>∃ μx v228 l232 v230 cs231,m=(yK20 (yK10 (yK6 (yO3 36 []))))∧pw_def_j4 i162 x218 (pw_def_l1 fu p_2 n_1) l232=some r∧Le μ12 μx∧Sq μx w0 w (.blk b1 58 [v228,v230]::.row v230 5 1 l232.length cs231::.blk b226 97 [S x218.Name,.int .i64 x218.Typ.Kind,S x218.Typ.Gen]::rsF)∧Bp μx b1 v228∧Rw μx cs231 l232) (by rintro _ _ ⟨_,_,_,_,_,rfl,_⟩; rfl) ?_ ?_
 refine cifd (et (k30 d5)) (fun h234=>?_) (fun h234=>?_)
 replace h:=iT h234 h
 refine creg (st ?_)
 refine wl (s_bsl underlying122 ti9 (Parts.s ec rfl Parts.z) rfl rfl hS ?_); clear hS; intro b235 w23 hb236 hS; refine po ?_
 obtain ⟨μ13,le238,m237,hS⟩:=Sep.frzBlk (l:=([[44]]:List (List UInt8))) hS (Rw.one (α:=List UInt8) rfl) (Nat.le_of_ble_eq_true rfl)
 obtain ⟨r239,g240,h⟩:=bI h
 replace hS:=(hS.bg Y2).bg Y2
 refine ca (pw_put_w (hg.t (le114.t (le214.t le238))) (m215.up le238) (m216.up le238) m237 g240 hS) ?_
 rintro _ w24 ⟨μ14,v242,v244,cs245,rfl,le241,hS,m243,m246⟩
 refine po (wnil (xl ?_))
 exact ⟨_,_,rfl,(aK20 (aK10 (aK6 (aO3 aZ)))),_,_,_,_,_,rfl,h,(le238.t le241),hS,m243,m246⟩
 replace h:=iF h234 h
 refine cskip (xl ?_)
 replace hS:=(hS.bg Y2).bg Y2
 exact ⟨_,_,rfl,(aK20 (aK10 (aK6 (aO3 aZ)))),_,_,_,_,_,rfl,h,Le.r,hS,m215,m216⟩
 rintro _ t w25 ⟨μ15,v228,l232,v230,cs231,rfl,h,le247,hS,m248,m249⟩
 unfold pw_def_j4 at h
 refine nrm (mK20 (mK10 (mK6 (mO3 mz)))) (xn ?_)
 refine ccutE (rg 39 8) (by decide) (fun m w=>∃ μx v250 l254 v252 cs253,m=(yK20 (yK10 (yK9 (yO8 39 []))))∧pw_def_j5 i162 (pw_def_l1 fu p_2 n_1) l254=some r∧Le μ15 μx∧Sq μx w0 w (.blk b1 58 [v250,v252]::.row v252 5 1 l254.length cs253::rsF)∧Bp μx b1 v250∧Rw μx cs253 l254) (by rintro _ _ ⟨_,_,_,_,_,rfl,_⟩; rfl) ?_ ?_
 refine cdw hS ?_; clear hS; intro w26 hS
 refine sf_start (fpi 0 [0,7] rfl (fpi 1 [1,2,6,7] rfl (fr_ 2 [2,6,7] rfl (u_load ti9 (et (k40 d0)) ((hS.blk d2).cell d0)) (q40 p1) (fpi 3 [3,4,5,6,7] rfl (fr_ 4 [4,5,6,7] rfl (u_loads ti62 (et (k40 d2)) ((hS.blk d2).cellsAt (Sb.s d1 (Sb.s d2 Sb.z))) rfl) (q40 p3) ?_)))))
 obtain ⟨r256,g257,h⟩:=bI h
 refine sf1 rfl rfl rfl rfl (wn0 rfl) (s_callv isfn50 ef (e1 (et (k40 d3)) e0) (pr_type_w (hg.t (le114.t (le214.t le247))) g257 hS) ?_)
 rintro _ w27 ⟨μ16,rfl,le258,hS⟩
 refine po ?_
 refine ⟨(Mons.s (u_load ti9 (et (k40 d0)) ((hS.blk d2).cell d0)) Mons.z),?_⟩
 refine sf1 rfl rfl rfl rfl (wn0 rfl) (s_bsl underlying122 ti9 (Parts.s (et (k40 d1)) rfl (Parts.s (et (k40 d4)) rfl Parts.z)) rfl rfl hS ?_); clear hS; intro b259 w28 hb260 hS; refine po ?_
 refine ⟨Mons.z,?_⟩
 obtain ⟨μ17,le262,m261,hS⟩:=Sep.frzBlk (l:=([x218.Name,r256]:List (List UInt8))) hS (Rw.cons (α:=List UInt8) (cs:=[S x218.Name]) rfl (Rw.cons (α:=List UInt8) (cs:=[S r256]) rfl Rw.nil)) (Nat.le_of_ble_eq_true rfl)
 obtain ⟨r263,g264,h⟩:=bI h
 replace hS:=(hS.bg Y1).bg Y1
 refine sf1 rfl rfl rfl rfl (wn0 rfl) (s_callv isfn49 ef (e1 (et (k30 d9)) (e1 (et (k40 d5)) e0)) (pw_put_w (hg.t (le114.t (le214.t (le247.t (le258.t le262))))) (m248.up (le258.t le262)) (m249.up (le258.t le262)) m261 g264 hS) ?_)
 rintro _ w29 ⟨μ18,v266,v268,cs269,rfl,le265,hS,m267,m270⟩
 refine po ?_
 refine ⟨Mons.z,?_⟩
 refine sf_nil (xl ?_)
 replace hS:=hS.drop (Rm.s (Rm.s Rm.z))
 exact ⟨_,_,rfl,(aK20 (aK10 (aK9 (aO8 aZ)))),_,_,_,_,_,rfl,h,(le258.t (le262.t le265)),hS,m267,m270⟩
 rintro _ t w30 ⟨μ19,v250,l254,v252,cs253,rfl,h,le271,hS,m272,m273⟩
 unfold pw_def_j5 at h
 refine nrm (mK20 (mK10 (mK9 (mO8 mz)))) ?_
 refine (fun h=>bn (xn h)) ?_
 refine creg ?_
 obtain ⟨i274,g275,h⟩:=bI h
 refine wl (su (u_addc (et (k20 d9)) ec g275) (dt (q40 p7)) (st (wnil (xl ?_))))
 exact ⟨n_1,_,_,rfl,(aK4 (aO2 (aK20 (aK3 (aI (aO10 (aO8 aZ))))))),⟨_,i274,v250,l254,v252,cs253,rfl,h,(le214.t (le247.t le271)),hS,m272,m273⟩,Nat.lt_succ_self _⟩
 replace h:=iF h217 h
 refine cexit ?_
 refine (fun h=>xe (xe (bh h))) ?_
 refine xn (nz (st ?_))
 refine wl (s_bsl underlying122 ti9 (Parts.s ec rfl Parts.z) rfl rfl hS ?_); clear hS; intro b276 w31 hb277 hS; refine po ?_
 obtain ⟨μ20,le279,m278,hS⟩:=Sep.frzBlk (l:=([[41]]:List (List UInt8))) hS (Rw.one (α:=List UInt8) rfl) (Nat.le_of_ble_eq_true rfl)
 obtain ⟨r280,g281,h⟩:=bI h
 replace hS:=(hS.bg Y1).bg Y1
 refine ca (pw_put_w (hg.t (le114.t (le214.t le279))) (m215.up le279) (m216.up le279) m278 g281 hS) ?_
 rintro _ w32 ⟨μ21,v283,v285,cs286,rfl,le282,hS,m284,m287⟩
 refine po (ny (nz ?_))
 iterate 3 refine st ?_
 refine ld ((m16 _ ((le114.t (le214.t (le279.t le282))) _ hS.a)).one d0) (st (nw ?_))
 refine ccutE (rg 56 8) (by decide) (fun m w=>∃ μx v288 l292 v290 cs291,m=(yK50 (yK6 (yO8 56 [])))∧pw_def_j6 fu p_2 l292=some r∧Le μ21 μx∧Sq μx w0 w (.blk b1 58 [v288,v290]::.row v290 5 1 l292.length cs291::rsF)∧Bp μx b1 v288∧Rw μx cs291 l292) (by rintro _ _ ⟨_,_,_,_,_,rfl,_⟩; rfl) ?_ ?_
 refine cifd (et (k50 d5)) (fun h294=>?_) (fun h294=>?_)
 replace h:=iT h294 h
 refine creg ?_
 iterate 4 refine st ?_
 refine lds ((m16 _ ((le114.t (le214.t (le279.t le282))) _ hS.a)).sb 4 2) rfl ?_
 obtain ⟨r295,g296,h⟩:=bI h
 refine ca (pr_type_w (hg.t (le114.t (le214.t (le279.t le282)))) g296 hS) ?_
 rintro _ w33 ⟨μ22,rfl,le297,hS⟩
 refine po ?_
 refine wl (s_bsl underlying122 ti9 (Parts.s ec rfl (Parts.s (et (k60 d1)) rfl (Parts.s ec rfl Parts.z))) rfl rfl hS ?_); clear hS; intro b298 w34 hb299 hS; refine po ?_
 obtain ⟨μ23,le301,m300,hS⟩:=Sep.frzBlk (l:=([[116,97,107,101,115],r295,[121,105,101,108,100,115]]:List (List UInt8))) hS (Rw.cons (α:=List UInt8) (cs:=[S [116,97,107,101,115]]) rfl (Rw.cons (α:=List UInt8) (cs:=[S r295]) rfl (Rw.cons (α:=List UInt8) (cs:=[S [121,105,101,108,100,115]]) rfl Rw.nil))) (Nat.le_of_ble_eq_true rfl)
 obtain ⟨r302,g303,h⟩:=bI h
 replace hS:=(hS.bg Y1).bg Y1
 refine ca (pw_put_w (hg.t (le114.t (le214.t (le279.t (le282.t (le297.t le301)))))) (m284.up (le297.t le301)) (m287.up (le297.t le301)) m300 g303 hS) ?_
 rintro _ w35 ⟨μ24,v305,v307,cs308,rfl,le304,hS,m306,m309⟩
 refine po (wnil (xl ?_))
 exact ⟨_,_,rfl,(aK50 (aK6 (aO8 aZ))),_,_,_,_,_,rfl,h,(le297.t (le301.t le304)),hS,m306,m309⟩
 replace h:=iF h294 h
 refine cskip (xl ?_)
 exact ⟨_,_,rfl,(aK50 (aK6 (aO8 aZ))),_,_,_,_,_,rfl,h,Le.r,hS,m284,m287⟩
 rintro _ t w36 ⟨μ25,v288,l292,v290,cs291,rfl,h,le310,hS,m311,m312⟩
 unfold pw_def_j6 at h
 refine nrm (mK50 (mK6 (mO8 mz))) (xn (creg ?_))
 iterate 4 refine st ?_
 refine lds ((m16 _ ((le114.t (le214.t (le279.t (le282.t le310)))) _ hS.a)).sb 2 2) rfl ?_
 obtain ⟨r313,g314,h⟩:=bI h
 refine ca (pr_type_w (hg.t (le114.t (le214.t (le279.t (le282.t le310))))) g314 hS) ?_
 rintro _ w37 ⟨μ26,rfl,le315,hS⟩
 refine po ?_
 refine wl (s_bsl underlying122 ti9 (Parts.s (et (k60 d9)) rfl Parts.z) rfl rfl hS ?_); clear hS; intro b316 w38 hb317 hS; refine po ?_
 obtain ⟨μ27,le319,m318,hS⟩:=Sep.frzBlk (l:=([r313]:List (List UInt8))) hS (Rw.one (α:=List UInt8) rfl) (Nat.le_of_ble_eq_true rfl)
 obtain ⟨r320,g321,h⟩:=bI h
 replace hS:=(hS.bg Y1).bg Y1
 refine ca (pw_put_w (hg.t (le114.t (le214.t (le279.t (le282.t (le310.t (le315.t le319))))))) (m311.up (le315.t le319)) (m312.up (le315.t le319)) m318 g321 hS) ?_
 rintro _ w39 ⟨μ28,v323,v325,cs326,rfl,le322,hS,m324,m327⟩
 refine po (wnil ?_)
 refine (fun h=>bn (xl h)) ?_
 exact ⟨_,_,rfl,(aK4 (aO2 (aK4 (aO50 (aO20 (aO20 aZ)))))),_,_,_,_,_,rfl,h,(le114.t (le214.t (le279.t (le282.t (le310.t (le315.t (le319.t le322))))))),hS,m324,m327⟩
 rintro _ t w40 ⟨μ29,v22,l26,v24,cs25,rfl,h,le328,hS,m329,m330⟩
 unfold pw_def_j1 at h
 refine nrm (mK4 (mO2 (mK4 (mO50 (mO20 (mO20 mz)))))) (xn (creg ?_))
 iterate 4 refine st ?_
 refine ld ((m16 _ (le328 _ hS.a)).one d8) ?_
 obtain ⟨r331,g332,h⟩:=bI h
 replace hS:=(hS.bg Y1).bg Y1
 refine ca ((PrS_sound fu).pw_body (hg.t le328) m329 m330 (m15.up le328) g332 hS) ?_
 rintro _ w41 ⟨μ30,v334,v336,cs337,rfl,le333,hS,m335,m338⟩
 refine po (wnil ?_)
 obtain rfl:=oI h
 refine end0 rfl ?_
 exact ⟨_,_,_,_,rfl,(le328.t le333),hS,m335,m338⟩
theorem syn_print_w (hg:Le Gm μ0) {p_1:List TDef} {r:List UInt8×TFault} (m3:Sl μ0 a1 c2 p_1) (h:syn_print fu p_1=some r) (hS:Sq μ0 w0 w (rsF)):CallsV prog 9 [.slice a1 p_1.length c2] w (fun v w'=>∃ (μ':M) ,v=.tuple ⟨[S r.1,.agg ⟨[.int .i64 r.2.Err,.int .i64 r.2.At]⟩]⟩∧Le μ0 μ'∧Sq μ' w0 w' (rsF)):=by
 unfold syn_print at h
 refine enter func9 rfl (frm:=_::u1 (u5 (u10 (u20 [])))) rfl (nz (st ?_))
 refine wl (s_alloc ti26 hS ?_); clear hS; intro b4 w1 hb5 hS; refine po ?_
 refine ny (nz (st ?_))
 obtain ⟨r6,g7,h⟩:=bI h
 refine ca (syn_wrong_w hg m3 g7 hS) ?_
 rintro _ w2 ⟨μ1,rfl,le8,hS⟩
 refine po ?_
 refine wl (s_alloc ti26 hS ?_); clear hS; intro b9 w3 hb10 hS; refine po ?_
 refine wl (s_storeA ti26 (et d4) (et d8) rfl rfl hS d0 rfl p0 dn ?_)
 clear hS; intro w4 hS
 refine nx (st (ld ((hS.blk d0).cell d0) (st (nw ?_))))
 refine cifd (et (k10 d1)) (fun h11=>?_) (fun h11=>?_)
 replace h:=iT h11 h
 refine cseq ?_
 refine cdw hS ?_; clear hS; intro w5 hS
 refine sf_start (fr_ 0 [0,2] rfl (u_loads ti26 (et d4) (hS.blk d0).cells rfl) (q10 p2) (fpi 1 [1,2] rfl (sf1 rfl rfl rfl rfl (wn0 rfl) (s_storeA ti26 (et d3) (et (k10 d2)) rfl rfl hS d1 rfl p1 dn ?_))))
 clear hS; intro w6 hS
 refine ⟨Mons.z,?_⟩
 refine sf_nil (xn (cret (xr ?_)))
 obtain rfl:=oI h
 refine retN rfl (RVs.s (.t d2) (RVs.s (.a d3 ti26 (hS.blk d1).cells rfl) RVs.z)) ?_
 replace hS:=(hS.drop Rm.z).drop Rm.z
 exact ⟨_,rfl,le8,hS⟩
 replace h:=iF h11 h
 refine cskip (xn (nz (wl (s_build ti58 pl58 Fl.z (dt (q10 p3)) ?_))))
 refine wl (s_box (et (k10 d3)) rfl hS ?_); clear hS; intro b12 w7 hb13 hS; refine po ?_
 refine st (ny (nz (st (wl (su (u_lensl underlying22 (et (k10 d5))) (dt (q10 p6)) (st (nw (cblock ?_))))))))
 replace hS:=hS.nilRow 5 (Mo.sz UInt8)
 replace hS:=((hS.drop (Rm.s (Rm.s Rm.z))).bg Y1).bg Y2
 refine cloopE ([6]++rg 18 8) (by decide) (fun n m w=>∃ μx i39 v40 l44 v42 cs43,m=(yK6 (yO1 6 (yK10 (.i (.int .i64 i39)::(yO8 18 [])))))∧syn_print_l1 fu p_1 n i39 l44=some r∧Le μ1 μx∧Sq μx w0 w (.blk b4 26 [.int .i64 0,.int .i64 0]::.blk b12 58 [v40,v42]::.row v42 5 1 l44.length cs43::rsF)∧Bp μx b12 v40∧Rw μx cs43 l44) (by rintro _ _ _ ⟨_,_,_,_,_,_,rfl,_⟩; rfl) _ _ (aK6 (aO1 (aK10 (aI (aO8 aZ))))) ⟨_,0,(.pointer none),[],(.slice none 0 0),[],rfl,h,Le.r,hS,Bp.nil,Rw.nil⟩ ?_
 rintro n_1 _ t w8 ⟨μ2,i39,v40,l44,v42,cs43,rfl,h,le70,hS,m71,m72⟩
 rcases n_1 with _|n_1
 cases h
 unfold syn_print_l1 at h
 refine cnrm (mK6 (mO1 (mK10 (mi (mO8 mz))))) (nz (st (ny ?_)))
 refine cifd (et (k10 d8)) (fun h73=>?_) (fun h73=>?_)
 replace h:=iT h73 h
 refine cskip (xn (cseq (cblock (nz ?_))))
 iterate 2 refine st ?_
 refine nw (creg ?_)
 iterate 3 refine st ?_
 obtain ⟨x74,g75,h⟩:=bI h
 obtain ⟨b76,o77,cs78,e79,f80,m81⟩:=SlR.elem (m3.up (le8.t le70)) g75
 obtain ⟨a82,c83,a85,c86,rfl,m84,m87⟩:=m81
 refine wl (su (u_iax underlying22 ti66 (et (k20 d1)) (et (k20 d2)) e79) (dt (q20 p3)) ?_)
 obtain ⟨r88,g89,h⟩:=bI h
 replace hS:=(hS.bg Y2).bg Y2
 refine ca (pw_def_w (hg.t (le8.t le70)) m71 m72 m84 m87 f80 g89 hS) ?_
 rintro _ w9 ⟨μ3,v91,v93,cs94,rfl,le90,hS,m92,m95⟩
 refine po (wnil ?_)
 refine (fun h=>bn (xn h)) ?_
 refine creg ?_
 obtain ⟨i96,g97,h⟩:=bI h
 refine wl (su (u_addc (et (k10 d7)) ec g97) (dt (q20 p5)) (st (wnil (xl ?_))))
 replace hS:=((hS.bg Y1).bg Y1).bg Y2
 exact ⟨n_1,_,_,rfl,(aK6 (aO1 (aK10 (aI (aO8 aZ))))),⟨_,i96,v91,r88,v93,cs94,rfl,h,(le70.t le90),hS,m92,m95⟩,Nat.lt_succ_self _⟩
 replace h:=iF h73 h
 refine cexit ?_
 refine (fun h=>xe (xe (bh h))) ?_
 refine xn (cseq (nz ?_))
 iterate 3 refine st ?_
 obtain ⟨r98,g99,h⟩:=bI h
 replace hS:=(hS.bg Y2).bg Y2
 refine ca (bd_len_w (hg.t (le8.t le70)) m71 m72 g99 hS) ?_
 rintro _ w10 ⟨μ4,rfl,le100,hS⟩
 refine po (st (nw ?_))
 refine cifd (et (k30 d0)) (fun h101=>?_) (fun h101=>?_)
 replace h:=iT h101 h
 refine nz (wl (s_build ti26 pl26 (Fl.o rfl ec rfl rfl p0 Fl.z) (dt (q30 p1)) (st (wl (s_storeA ti26 (et d3) (et (k30 d1)) rfl rfl hS d2 rfl p2 dn ?_)))))
 clear hS; intro w11 hS
 refine nw (cret (xr ?_))
 obtain rfl:=oI h
 refine retN rfl (RVs.s (.t d2) (RVs.s (.a d3 ti26 (hS.blk d2).cells rfl) RVs.z)) ?_
 replace hS:=((hS.drop Rm.z).drop Rm.z).drop Rm.z
 exact ⟨_,rfl,(le8.t (le70.t le100)),hS⟩
 replace h:=iF h101 h
 refine cskip (xn (nz ?_))
 iterate 3 refine st ?_
 replace hS:=(hS.bg Y1).bg Y1
 refine ca (bw_string (m72.up le100) hS) ?_
 rintro _ w12 ⟨μ5,rfl,le102,hS⟩; refine po ?_
 refine wl (s_build ti26 pl26 Fl.z (dt (q30 p6)) (st (wl (s_storeA ti26 (et d3) (et (k30 d6)) rfl rfl hS d0 rfl p0 dn ?_))))
 clear hS; intro w13 hS
 refine nw (cret ?_)
 obtain rfl:=oI h
 refine retN rfl (RVs.s (.t d2) (RVs.s (.a d3 ti26 (hS.blk d0).cells rfl) RVs.z)) ?_
 replace hS:=hS.drop Rm.z
 exact ⟨_,rfl,(le8.t (le70.t (le100.t le102))),hS⟩
end Go.Proofs.YtdfnejebobekoaaGreatDoor
set_option maxRecDepth 100000
set_option maxHeartbeats 20000000
namespace Go.Proofs.YtdfnejebobekoaaGreatDoor
open Go.Wk Go.Xt Go.Y Tryz
variable {fu:Nat} {μ0:M} {w0 w:World} {rsF:List Res}
theorem l3_alive_w (hg:Le Gm μ0)  {r:Bool}  (h:l3_alive fu =some r) (hS:Sq μ0 w0 w (rsF)):CallsV prog 8 [] w (fun v w'=>∃ (μ':M) ,v=.bool r∧Le μ0 μ'∧Sq μ' w0 w' (rsF)):=by
 unfold l3_alive at h
 refine enter func8 rfl (frm:=u2 (u2 (u10 (u20 [])))) rfl (nz (st (nx ?_)))
 obtain ⟨r1,g2,h⟩:=bI h
 refine ca (syn_read_w hg g2 hS) ?_
 rintro _ w1 ⟨μ1,a4,c5,rfl,le3,hS,m6⟩
 refine po ?_
 iterate 3 refine st ?_
 refine wl (s_alloc ti26 hS ?_); clear hS; intro b7 w2 hb8 hS; refine po ?_
 refine st (wl (s_storeA ti26 (et d2) (et d8) rfl rfl hS d0 rfl p0 dn ?_))
 clear hS; intro w3 hS
 refine nx (st ?_)
 obtain ⟨r9,g10,h⟩:=bI h
 refine ca (sema_owners_w (hg.t le3) m6 g10 hS) ?_
 rintro _ w4 ⟨μ2,a12,c13,rfl,le11,hS,m14⟩
 refine po ?_
 iterate 3 refine st ?_
 refine wl (s_alloc ti26 hS ?_); clear hS; intro b15 w5 hb16 hS; refine po ?_
 refine st (wl (s_storeA ti26 (et d4) (et (k10 d3)) rfl rfl hS d0 rfl p0 dn ?_))
 clear hS; intro w6 hS
 refine nx (st (ld ((hS.blk d1).cell d0) ?_))
 iterate 2 refine st ?_
 refine wspd (k10 d7) (q10 p7) (q10 p7) (fun h17=>?_) (fun h17=>?_)
 replace h:=iT h17 h
 refine sy rfl (wy rfl (k10 d7) (s_load ti24 (et (k10 d8)) ((hS.blk d0).cell d0) (dt (q10 p9)) (sy rfl ?_)))
 iterate 2 refine st ?_
 refine wspd (k20 d2) (q20 p2) (q20 p2) (fun h18=>?_) (fun h18=>?_)
 replace h:=iT h18 h
 refine sy rfl (wy rfl (k20 d2) (su (u_lensl underlying47 (et (k20 d3))) (dt (q20 p4)) (sy rfl ?_)))
 iterate 2 refine st ?_
 refine wspd (k20 d7) (q20 p7) (q20 p7) (fun h19=>?_) (fun h19=>?_)
 replace h:=iT h19 h
 refine sy rfl ?_
 obtain ⟨x20,g21,h⟩:=bI h
 obtain ⟨b22,o23,cs24,e25,f26,m27⟩:=SlR.elem m14 g21
 obtain rfl:=m27
 refine wy rfl (k20 d7) (su (u_iax underlying47 ti51 (et (k20 d8)) ec e25) (dt (q20 p9)) (wy rfl (k20 d7) (s_loads ti51 (et (k20 d9)) (f26 _ hS.a) rfl (dt (q30 p0)) (wy rfl (k20 d7) (s_build ti51 pl51 (Fl.o rfl ec rfl rfl p0 (Fl.o rfl ec rfl rfl p1 (Fl.o rfl ec rfl rfl p2 Fl.z))) (dt (q30 p1)) (wy rfl (k20 d7) (s_eqa (ES.mk underlying51 eh51 eg51) (et (k30 d0)) (et (k30 d1)) (EqFs.o rfl rfl rfl ti9 d0 d0 (eq_str underlying9) (EqFs.o rfl rfl rfl ti9 d1 d1 (eq_str underlying9) (EqFs.o rfl rfl rfl ti9 d2 d2 (eq_str underlying9) EqFs.z))) rfl (dt (q30 p2)) ?_)))))))
 iterate 2 refine st ?_
 refine nw (cret ?_)
 obtain rfl:=oI h
 refine ret1 rfl d0 ?_
 replace hS:=(hS.drop Rm.z).drop Rm.z
 exact ⟨_,rfl,(le3.t le11),hS⟩
 replace h:=iF h19 h
 refine sn rfl rfl (sn rfl rfl (sn rfl rfl (sn rfl rfl (sn rfl rfl ?_))))
 iterate 2 refine st ?_
 refine nw (cret ?_)
 obtain rfl:=oI h
 refine ret1 rfl d0 ?_
 replace hS:=(hS.drop Rm.z).drop Rm.z
 exact ⟨_,rfl,(le3.t le11),hS⟩
 replace h:=iF h18 h
 refine sn rfl rfl (sn rfl rfl (sn rfl rfl ?_))
 iterate 2 refine st ?_
 refine sn rfl rfl (sn rfl rfl (sn rfl rfl (sn rfl rfl (sn rfl rfl ?_))))
 iterate 2 refine st ?_
 refine nw (cret ?_)
 obtain rfl:=oI h
 refine ret1 rfl d0 ?_
 replace hS:=(hS.drop Rm.z).drop Rm.z
 exact ⟨_,rfl,(le3.t le11),hS⟩
 replace h:=iF h17 h
 refine sn rfl rfl (sn rfl rfl (sn rfl rfl ?_))
 iterate 2 refine st ?_
 refine sn rfl rfl (sn rfl rfl (sn rfl rfl ?_))
 iterate 2 refine st ?_
 refine sn rfl rfl (sn rfl rfl (sn rfl rfl (sn rfl rfl (sn rfl rfl ?_))))
 iterate 2 refine st ?_
 refine nw (cret ?_)
 obtain rfl:=oI h
 refine ret1 rfl d0 ?_
 replace hS:=(hS.drop Rm.z).drop Rm.z
 exact ⟨_,rfl,(le3.t le11),hS⟩
end Go.Proofs.YtdfnejebobekoaaGreatDoor
set_option maxRecDepth 100000
set_option maxHeartbeats 20000000
namespace Go.Proofs.YtdfnejebobekoaaGreatDoor
open Go.Wk Go.Xt Go.Y Tryz
variable {c2 fu:Nat} {a1:Option Addr} {μ0:M} {w0 w:World} {rsF:List Res}
theorem law_semaw_w (hg:Le Gm μ0) {p_1:List TDef} {r:Bool} (m3:Sl μ0 a1 c2 p_1) (h:law_semaw fu p_1=some r) (hS:Sq μ0 w0 w (rsF)):CallsV prog 3 [.slice a1 p_1.length c2] w (fun v w'=>∃ (μ':M) ,v=.bool r∧Le μ0 μ'∧Sq μ' w0 w' (rsF)):=by
 unfold law_semaw at h
 refine enter func3 rfl (frm:=_::u10 (u20 [])) rfl (nz (st (ny (nz ?_))))
 obtain ⟨r4,g5,h⟩:=bI h
 refine ca (l3_alive_w hg g5 hS) ?_
 rintro _ w1 ⟨μ1,rfl,le6,hS⟩
 refine po (st (nw ?_))
 refine cifnb (et d7) (fun h7=>?_) (fun h7=>?_)
 replace h:=iF h7 h
 refine nz (st (nw (cret (xr ?_))))
 obtain rfl:=oI h
 refine ret1 rfl d2 ?_
 exact ⟨_,rfl,le6,hS⟩
 replace h:=iT h7 h
 refine cskip (xn (nz (st ?_)))
 obtain ⟨r8,g9,h⟩:=bI h
 refine ca (syn_print_w (hg.t le6) (m3.up le6) g9 hS) ?_
 rintro _ w2 ⟨μ2,rfl,le10,hS⟩
 refine po ?_
 iterate 3 refine st ?_
 refine wl (s_alloc ti26 hS ?_); clear hS; intro b11 w3 hb12 hS; refine po ?_
 refine st (wl (s_storeA ti26 (et d4) (et (k10 d2)) rfl rfl hS d0 rfl p0 dn ?_))
 clear hS; intro w4 hS
 refine ny (nz (st (ld ((hS.blk d0).cell d0) (st (nw ?_)))))
 refine cifd (et (k10 d5)) (fun h13=>?_) (fun h13=>?_)
 replace h:=iT h13 h
 refine nz (st (nw (cret (xr ?_))))
 obtain rfl:=oI h
 refine ret1 rfl d2 ?_
 replace hS:=hS.drop Rm.z
 exact ⟨_,rfl,(le6.t le10),hS⟩
 replace h:=iF h13 h
 refine cskip (xn (nz (st ?_)))
 obtain ⟨r14,g15,h⟩:=bI h
 refine ca (syn_read_w (hg.t (le6.t le10)) g15 hS) ?_
 rintro _ w5 ⟨μ3,a17,c18,rfl,le16,hS,m19⟩
 refine po ?_
 iterate 4 refine st ?_
 refine wl (s_storeA ti26 (et d4) (et (k20 d0)) rfl rfl hS d0 rfl p0 dn ?_)
 clear hS; intro w6 hS
 refine nx (st (ld ((hS.blk d0).cell d0) ?_))
 iterate 2 refine st ?_
 refine wspd (k20 d4) (q20 p4) (q20 p4) (fun h20=>?_) (fun h20=>?_)
 replace h:=iT h20 h
 refine sy rfl ?_
 obtain ⟨r21,g22,h⟩:=bI h
 refine wy rfl (k20 d4) (s_callv isfn11 ef (e1 (et (k20 d5)) e0) (sema_check_w (hg.t (le6.t (le10.t le16))) m19 g22 hS) ?_)
 rintro _ w7 ⟨μ4,rfl,le23,hS⟩
 refine po (sy rfl ?_)
 obtain ⟨r24,g25,h⟩:=bI h
 refine wy rfl (k20 d4) (s_callv isfn11 ef (e1 (et (k20 d7)) e0) (sema_check_w (hg.t (le6.t (le10.t (le16.t le23)))) (m3.up (le6.t (le10.t (le16.t le23)))) g25 hS) ?_)
 rintro _ w8 ⟨μ5,rfl,le26,hS⟩
 refine po (wy rfl (k20 d4) (s_eqa (ES.mk underlying26 eh26 eg26) (et (k20 d6)) (et (k20 d8)) (EqFs.o rfl rfl rfl ti24 d0 d0 (eq_int underlying24) (EqFs.o rfl rfl rfl ti3 d1 d1 (eq_int underlying3) EqFs.z)) rfl (dt (q20 p9)) ?_))
 iterate 2 refine st ?_
 refine nw (cret ?_)
 obtain rfl:=oI h
 refine ret1 rfl d2 ?_
 replace hS:=hS.drop Rm.z
 exact ⟨_,rfl,(le6.t (le10.t (le16.t (le23.t le26)))),hS⟩
 replace h:=iF h20 h
 refine sn rfl rfl (sn rfl rfl (sn rfl rfl (sn rfl rfl (sn rfl rfl ?_))))
 iterate 2 refine st ?_
 refine nw (cret ?_)
 obtain rfl:=oI h
 refine ret1 rfl d2 ?_
 replace hS:=hS.drop Rm.z
 exact ⟨_,rfl,(le6.t (le10.t le16)),hS⟩
end Go.Proofs.YtdfnejebobekoaaGreatDoor
