/- Texts of Wa. -/
import Derived.Test.YtdfnejebobekoaaGreatDoorCXu
import Derived.Test.YtdfnejebobekoaaGreatDoorCMd
import Derived.Test.YtdfnejebobekoaaGreatDoorCFl
import Derived.Tactics2
import Derived.Recover
import Derived.Laws.Pointers
set_option linter.unusedSimpArgs false
set_option linter.unusedVariables false
set_option linter.unusedSectionVars false
set_option maxRecDepth 100000
set_option maxHeartbeats 20000000
namespace Go.Proofs.YtdfnejebobekoaaGreatDoor
open Go.Wk Go.Xt Go.Y Tryz
variable {fu:Nat} {μ0:M} {w0 w:World} {rsF:List Res}
theorem lx_letter_w (hg:Le Gm μ0) {p_1:UInt8} {r:Bool}  (h:lx_letter p_1=some r) (hS:Sq μ0 w0 w (rsF)):CallsV prog 54 [.int .u8 (p_1.toNat:Int)] w (fun v w'=>∃ (μ':M) ,v=.bool r∧Le μ0 μ'∧Sq μ' w0 w' (rsF)):=by
 unfold lx_letter at h
 refine enter func54 rfl (frm:=_::u2 (u10 [])) rfl (nz (st (nx ?_)))
 iterate 3 refine st ?_
 refine wspd d5 p5 p5 (fun h1=>?_) (fun h1=>?_)
 replace h:=iT h1 h
 refine sy rfl (sy rfl ?_)
 iterate 2 refine st ?_
 refine wspd d9 p9 p9 (fun h2=>?_) (fun h2=>?_)
 replace h:=iT h2 h
 refine sn rfl rfl (sn rfl rfl ?_)
 iterate 2 refine st ?_
 refine nw (cret ?_)
 obtain rfl:=oI h
 refine ret1 rfl d2 ?_
 exact ⟨_,rfl,Le.r,hS⟩
 replace h:=iF h2 h
 refine sy rfl (sy rfl ?_)
 iterate 2 refine st ?_
 refine nw (cret ?_)
 obtain rfl:=oI h
 refine ret1 rfl d2 ?_
 exact ⟨_,rfl,Le.r,hS⟩
 replace h:=iF h1 h
 refine sn rfl rfl (sn rfl rfl ?_)
 iterate 2 refine st ?_
 refine sy rfl (sy rfl ?_)
 iterate 2 refine st ?_
 refine nw (cret ?_)
 obtain rfl:=oI h
 refine ret1 rfl d2 ?_
 exact ⟨_,rfl,Le.r,hS⟩
theorem lx_digit_w (hg:Le Gm μ0) {p_1:UInt8} {r:Bool}  (h:lx_digit p_1=some r) (hS:Sq μ0 w0 w (rsF)):CallsV prog 57 [.int .u8 (p_1.toNat:Int)] w (fun v w'=>∃ (μ':M) ,v=.bool r∧Le μ0 μ'∧Sq μ' w0 w' (rsF)):=by
 unfold lx_digit at h
 refine enter func57 rfl (frm:=_::u1 (u2 (u5 []))) rfl (nz (st (nx ?_)))
 iterate 3 refine st ?_
 refine wspd d5 p5 p5 (fun h1=>?_) (fun h1=>?_)
 replace h:=iT h1 h
 refine sy rfl (sy rfl ?_)
 iterate 2 refine st ?_
 refine nw (cret ?_)
 obtain rfl:=oI h
 refine ret1 rfl d2 ?_
 exact ⟨_,rfl,Le.r,hS⟩
 replace h:=iF h1 h
 refine sn rfl rfl (sn rfl rfl ?_)
 iterate 2 refine st ?_
 refine nw (cret ?_)
 obtain rfl:=oI h
 refine ret1 rfl d2 ?_
 exact ⟨_,rfl,Le.r,hS⟩
theorem lx_while_w (hg:Le Gm μ0) {p_1:List UInt8} {K1:Nat} {caps2:List Value} {p_2:UInt8→Option Bool} {r:Int} (m3:FnOk prog μ0 K1 caps2 false p_2) (h:lx_while fu p_1 p_2=some r) (hS:Sq μ0 w0 w (rsF)):CallsV prog 55 [S p_1,.func (.func K1) ⟨[]⟩ ⟨caps2⟩] w (fun v w'=>∃ (μ':M) ,v=.int .i64 r∧Le μ0 μ'∧Sq μ' w0 w' (rsF)):=by
 unfold lx_while at h
 refine enter func55 rfl (frm:=_::_::u1 (u2 (u5 (u10 [])))) rfl (nz (st (nx (st (ny (cblock ?_))))))
 refine cloopE (rg 6 13) (by decide) (fun n m w=>∃ μx i13,m=(yK5 (.i (.int .i64 i13)::(yO10 6 (yO3 16 []))))∧lx_while_l1 p_1 p_2 n i13=some r∧Le μ0 μx∧Sq μx w0 w (rsF)) (by rintro _ _ _ ⟨_,_,rfl,_⟩; rfl) _ _ (aK5 (aI (aO10 (aO3 aZ)))) ⟨_,0,rfl,h,Le.r,hS⟩ ?_
 rintro n_1 _ t w1 ⟨μ1,i13,rfl,h,le23,hS⟩
 rcases n_1 with _|n_1
 cases h
 unfold lx_while_l1 at h
 refine cnrm (mK5 (mi (mO10 (mO3 mz)))) (cseq (cseq ?_))
 refine ccutE (rg 6 10) (by decide) (fun m w=>∃ μx b24,m=(yK6 (yO10 6 (.i (.bool b24)::[])))∧lx_while_j1 i13 (lx_while_l1 p_1 p_2 n_1) b24=some r∧Le μ1 μx∧Sq μx w0 w (rsF)) (by rintro _ _ ⟨_,_,rfl,_⟩; rfl) ?_ ?_
 refine creg ?_
 iterate 2 refine st ?_
 refine wl (su (u_lens underlying9 (et d7)) (dt p8) ?_)
 iterate 2 refine st ?_
 refine wspd (k10 d0) (q10 p0) (q10 p0) (fun h25=>?_) (fun h25=>?_)
 replace h:=iT h25 h
 refine sy rfl (sy rfl (sy rfl ?_))
 obtain ⟨u26,g27,h⟩:=bI h
 refine wy rfl (k10 d0) (s_idxc underlying9 (et (k10 d2)) (et (k10 d3)) g27 (dt (q10 p4)) ?_)
 obtain ⟨b28,g29,h⟩:=bI h
 refine wy rfl (k10 d0) (s_callc m3.isfn (et (k10 d1)) (e1 (et (k10 d4)) e0) ((m3.up le23).call (cs:=[.int .u8 (u26.toNat:Int)]) Le.r rfl g29 hS) ?_)
 rintro _ w2 ⟨μ2,rfl,le30,hS⟩; refine po ?_
 refine st (wnil (xl ?_))
 exact ⟨_,_,rfl,(aK6 (aO10 (aI aZ))),_,_,rfl,h,le30,hS⟩
 replace h:=iF h25 h
 refine sn rfl rfl (sn rfl rfl (sn rfl rfl (sn rfl rfl (sn rfl rfl (st (wnil (xl ?_)))))))
 exact ⟨_,_,rfl,(aK6 (aO10 (aI aZ))),_,false,rfl,h,Le.r,hS⟩
 rintro _ t w3 ⟨μ3,b24,rfl,h,le31,hS⟩
 unfold lx_while_j1 at h
 refine nrm (mK6 (mO10 (mi mz))) (xn ?_)
 refine cifb (et (k10 d6)) (fun h32=>?_) (fun h32=>?_)
 replace h:=iT h32 h
 refine cskip (xn (cblock (creg (st ?_))))
 obtain ⟨i33,g34,h⟩:=bI h
 refine wl (su (u_addc (et (k10 d7)) ec g34) (dt (q10 p8)) (st (wnil ?_)))
 refine (fun h=>bn (xl h)) ?_
 exact ⟨n_1,_,_,rfl,(aK5 (aI (aO10 (aO3 aZ)))),⟨_,i33,rfl,h,(le23.t le31),hS⟩,Nat.lt_succ_self _⟩
 replace h:=iF h32 h
 refine cexit ?_
 refine (fun h=>xe (xe (bh h))) ?_
 refine xn (nz ?_)
 iterate 2 refine st ?_
 refine nw (cret ?_)
 obtain rfl:=oI h
 refine ret1 rfl d4 ?_
 exact ⟨_,rfl,(le23.t le31),hS⟩
theorem lx_t1_w (hg:Le Gm μ0) {p_1:UInt8} {r:Bool}  (h:lx_t1 p_1=some r) (hS:Sq μ0 w0 w (rsF)):CallsV prog 56 [.int .u8 (p_1.toNat:Int)] w (fun v w'=>∃ (μ':M) ,v=.bool r∧Le μ0 μ'∧Sq μ' w0 w' (rsF)):=by
 unfold lx_t1 at h
 refine enter func56 rfl (frm:=_::u1 (u2 (u5 []))) rfl (nz (st (nx (st ?_))))
 obtain ⟨r1,g2,h⟩:=bI h
 refine ca (lx_letter_w hg g2 hS) ?_
 rintro _ w1 ⟨μ1,rfl,le3,hS⟩
 refine po (st ?_)
 refine wspb d5 p5 p5 (fun h4=>?_) (fun h4=>?_)
 replace h:=iT h4 h
 refine sn rfl rfl (sn rfl rfl ?_)
 iterate 2 refine st ?_
 refine nw (cret ?_)
 obtain rfl:=oI h
 refine ret1 rfl d2 ?_
 exact ⟨_,rfl,le3,hS⟩
 replace h:=iF h4 h
 refine sy rfl ?_
 obtain ⟨r5,g6,h⟩:=bI h
 refine wy rfl d5 (s_callv isfn57 ef (e1 (et d6) e0) (lx_digit_w (hg.t le3) g6 hS) ?_)
 rintro _ w2 ⟨μ2,rfl,le7,hS⟩
 refine po ?_
 iterate 2 refine st ?_
 refine nw (cret ?_)
 obtain rfl:=oI h
 refine ret1 rfl d2 ?_
 exact ⟨_,rfl,(le3.t le7),hS⟩
theorem lx_s1_w (hg:Le Gm μ0) {p_1:UInt8} {r:Bool}  (h:lx_s1 p_1=some r) (hS:Sq μ0 w0 w (rsF)):CallsV prog 105 [.int .u8 (p_1.toNat:Int)] w (fun v w'=>∃ (μ':M) ,v=.bool r∧Le μ0 μ'∧Sq μ' w0 w' (rsF)):=by
 unfold lx_s1 at h
 refine enter func105 rfl (frm:=_::u2 (u2 [])) rfl (nz (st (nx ?_)))
 iterate 3 refine st ?_
 refine nw (cret ?_)
 obtain rfl:=oI h
 refine ret1 rfl d2 ?_
 exact ⟨_,rfl,Le.r,hS⟩
theorem lx_n1_w (hg:Le Gm μ0) {p_1:UInt8} {r:Bool}  (h:lx_n1 p_1=some r) (hS:Sq μ0 w0 w (rsF)):CallsV prog 135 [.int .u8 (p_1.toNat:Int)] w (fun v w'=>∃ (μ':M) ,v=.bool r∧Le μ0 μ'∧Sq μ' w0 w' (rsF)):=by
 unfold lx_n1 at h
 refine enter func135 rfl (frm:=_::u1 (u2 (u5 []))) rfl (nz (st (nx (st ?_))))
 obtain ⟨r1,g2,h⟩:=bI h
 refine ca (lx_letter_w hg g2 hS) ?_
 rintro _ w1 ⟨μ1,rfl,le3,hS⟩
 refine po (st ?_)
 refine wspb d5 p5 p5 (fun h4=>?_) (fun h4=>?_)
 replace h:=iT h4 h
 refine sn rfl rfl (sn rfl rfl ?_)
 iterate 2 refine st ?_
 refine nw (cret ?_)
 obtain rfl:=oI h
 refine ret1 rfl d2 ?_
 exact ⟨_,rfl,le3,hS⟩
 replace h:=iF h4 h
 refine sy rfl ?_
 obtain ⟨r5,g6,h⟩:=bI h
 refine wy rfl d5 (s_callv isfn57 ef (e1 (et d6) e0) (lx_digit_w (hg.t le3) g6 hS) ?_)
 rintro _ w2 ⟨μ2,rfl,le7,hS⟩
 refine po ?_
 iterate 2 refine st ?_
 refine nw (cret ?_)
 obtain rfl:=oI h
 refine ret1 rfl d2 ?_
 exact ⟨_,rfl,(le3.t le7),hS⟩
theorem lx_hp0_w (hg:Le Gm μ0) {p_1 p_2:List UInt8} {r:Bool}  (h:lx_hp0 p_1 p_2=some r) (hS:Sq μ0 w0 w (rsF)):CallsV prog 150 [S p_1,S p_2] w (fun v w'=>∃ (μ':M) ,v=.bool r∧Le μ0 μ'∧Sq μ' w0 w' (rsF)):=by
 unfold lx_hp0 at h
 refine enter func150 rfl (frm:=_::_::u1 (u5 (u10 []))) rfl (nz (st (nx (st (wl (su (u_lens underlying9 (et d5)) (dt p6) (st (wl (su (u_lens underlying9 (et d7)) (dt p8) ?_)))))))))
 iterate 2 refine st ?_
 refine wspd (k10 d0) (q10 p0) (q10 p0) (fun h1=>?_) (fun h1=>?_)
 replace h:=iT h1 h
 refine sy rfl (sy rfl (wy rfl (k10 d0) (su (u_lens underlying9 (et (k10 d2))) (dt (q10 p3)) ?_)))
 obtain ⟨s2,g3,h⟩:=bI h
 refine wy rfl (k10 d0) (su (u_cuthic underlying9 (et (k10 d1)) (et (k10 d3)) g3) (dt (q10 p4)) (sy rfl (wy rfl (k10 d0) (su (u_eqs (et (k10 d4)) (et (k10 d5))) (dt (q10 p6)) ?_))))
 iterate 2 refine st ?_
 refine nw (cret ?_)
 obtain rfl:=oI h
 refine ret1 rfl d4 ?_
 exact ⟨_,rfl,Le.r,hS⟩
 replace h:=iF h1 h
 refine sn rfl rfl (sn rfl rfl (sn rfl rfl (sn rfl rfl (sn rfl rfl (sn rfl rfl ?_)))))
 iterate 2 refine st ?_
 refine nw (cret ?_)
 obtain rfl:=oI h
 refine ret1 rfl d4 ?_
 exact ⟨_,rfl,Le.r,hS⟩
theorem lx_hp_w (hg:Le Gm μ0) {p_1 p_2:List UInt8} {r:Bool}  (h:lx_hp p_1 p_2=some r) (hS:Sq μ0 w0 w (rsF)):CallsV prog 108 [S p_1,S p_2] w (fun v w'=>∃ (μ':M) ,v=.bool r∧Le μ0 μ'∧Sq μ' w0 w' (rsF)):=by
 unfold lx_hp at h
 refine enter func108 rfl (frm:=_::_::u1 (u5 [])) rfl (nz (st (nx ?_)))
 iterate 2 refine st ?_
 obtain ⟨r1,g2,h⟩:=bI h
 refine ca (lx_hp0_w hg g2 hS) ?_
 rintro _ w1 ⟨μ1,rfl,le3,hS⟩
 refine po (st (nw (cret ?_)))
 obtain rfl:=oI h
 refine ret1 rfl d4 ?_
 exact ⟨_,rfl,le3,hS⟩
theorem lx_sign_w (hg:Le Gm μ0) {p_1 r:List UInt8}  (h:lx_sign p_1=some r) (hS:Sq μ0 w0 w (rsF)):CallsV prog 59 [S p_1] w (fun v w'=>∃ (μ':M) ,v=S r∧Le μ0 μ'∧Sq μ' w0 w' (rsF)):=by
 unfold lx_sign at h
 refine enter func59 rfl (frm:=_::u5 (u10 [])) rfl (nz (st (ny (nz ?_))))
 refine wl (s_bsl underlying122 ti9 (Parts.s ec rfl (Parts.s ec rfl (Parts.s ec rfl (Parts.s ec rfl (Parts.s ec rfl (Parts.s ec rfl (Parts.s ec rfl (Parts.s ec rfl (Parts.s ec rfl (Parts.s ec rfl (Parts.s ec rfl (Parts.s ec rfl (Parts.s ec rfl (Parts.s ec rfl (Parts.s ec rfl (Parts.s ec rfl (Parts.s ec rfl (Parts.s ec rfl Parts.z)))))))))))))))))) rfl rfl hS ?_); clear hS; intro b1 w1 hb2 hS; refine po ?_
 refine wl (su (u_lensl underlying122 (et d5)) (dt p6) (st (nw (cblock ?_))))
 obtain ⟨μ1,le4,m3,hS⟩:=Sep.frzBlk (l:=([[61,61],[33,61],[60,61],[62,61],[60],[62],[61],[43],[45],[42],[47],[37],[40],[41],[123],[125],[44],[59]]:List (List UInt8))) hS (Rw.cons (α:=List UInt8) (cs:=[S [61,61]]) rfl (Rw.cons (α:=List UInt8) (cs:=[S [33,61]]) rfl (Rw.cons (α:=List UInt8) (cs:=[S [60,61]]) rfl (Rw.cons (α:=List UInt8) (cs:=[S [62,61]]) rfl (Rw.cons (α:=List UInt8) (cs:=[S [60]]) rfl (Rw.cons (α:=List UInt8) (cs:=[S [62]]) rfl (Rw.cons (α:=List UInt8) (cs:=[S [61]]) rfl (Rw.cons (α:=List UInt8) (cs:=[S [43]]) rfl (Rw.cons (α:=List UInt8) (cs:=[S [45]]) rfl (Rw.cons (α:=List UInt8) (cs:=[S [42]]) rfl (Rw.cons (α:=List UInt8) (cs:=[S [47]]) rfl (Rw.cons (α:=List UInt8) (cs:=[S [37]]) rfl (Rw.cons (α:=List UInt8) (cs:=[S [40]]) rfl (Rw.cons (α:=List UInt8) (cs:=[S [41]]) rfl (Rw.cons (α:=List UInt8) (cs:=[S [123]]) rfl (Rw.cons (α:=List UInt8) (cs:=[S [125]]) rfl (Rw.cons (α:=List UInt8) (cs:=[S [44]]) rfl (Rw.cons (α:=List UInt8) (cs:=[S [59]]) rfl Rw.nil)))))))))))))))))) (Nat.le_of_ble_eq_true rfl)
 refine cloopE ([2]++[4]++rg 8 8) (by decide) (fun n m w=>∃ μx i18,m=(yK2 (yO1 2 (yK1 (yO1 4 (yK2 (.i (.int .i64 i18)::(yO8 8 [])))))))∧lx_sign_l1 p_1 n i18=some r∧Le μ1 μx∧Sq μx w0 w (rsF)) (by rintro _ _ _ ⟨_,_,rfl,_⟩; rfl) _ _ (aK2 (aO1 (aK1 (aO1 (aK2 (aI (aO8 aZ))))))) ⟨_,0,rfl,h,Le.r,hS⟩ ?_
 rintro n_1 _ t w2 ⟨μ2,i18,rfl,h,le32,hS⟩
 rcases n_1 with _|n_1
 cases h
 unfold lx_sign_l1 at h
 refine cnrm (mK2 (mO1 (mK1 (mO1 (mK2 (mi (mO8 mz))))))) (nz (st (ny ?_)))
 refine cifd (et d8) (fun h33=>?_) (fun h33=>?_)
 replace h:=iT h33 h
 refine cskip (xn (cseq (cblock (nz ?_))))
 obtain ⟨x34,g35,h⟩:=bI h
 obtain ⟨b36,o37,cs38,e39,f40,m41⟩:=SlR.elem (m3.up le32) g35
 obtain rfl:=m41
 refine wl (su (u_iax underlying122 ti9 (et d5) (et d7) e39) (dt p9) (ld ((f40 _ hS.a).one d0) (st (nx ?_))))
 iterate 2 refine st ?_
 obtain ⟨r42,g43,h⟩:=bI h
 refine ca (lx_hp_w (hg.t (le4.t le32)) g43 hS) ?_
 rintro _ w3 ⟨μ3,rfl,le44,hS⟩
 refine po (nw ?_)
 refine cifb (et (k10 d3)) (fun h45=>?_) (fun h45=>?_)
 replace h:=iT h45 h
 refine nz ?_
 iterate 2 refine st ?_
 refine nw (cret ?_)
 refine (fun h=>br (xr (xr (br (xr h))))) ?_
 obtain rfl:=oI h
 refine ret1 rfl d2 ?_
 exact ⟨_,rfl,(le4.t (le32.t le44)),hS⟩
 replace h:=iF h45 h
 refine cskip ?_
 refine (fun h=>bn (xn h)) ?_
 refine creg ?_
 obtain ⟨i46,g47,h⟩:=bI h
 refine wl (su (u_addc (et d7) ec g47) (dt (q10 p5)) (st (wnil (xl ?_))))
 exact ⟨n_1,_,_,rfl,(aK2 (aO1 (aK1 (aO1 (aK2 (aI (aO8 aZ))))))),⟨_,i46,rfl,h,(le32.t le44),hS⟩,Nat.lt_succ_self _⟩
 replace h:=iF h33 h
 refine cexit ?_
 refine (fun h=>xe (xe (bh h))) ?_
 refine xn (nz (st (nw (cret ?_))))
 obtain rfl:=oI h
 refine ret1 rfl d2 ?_
 exact ⟨_,rfl,(le4.t le32),hS⟩
theorem lx_space_w (hg:Le Gm μ0) {p_1:List UInt8} {r:Int}  (h:lx_space fu p_1=some r) (hS:Sq μ0 w0 w (rsF)):CallsV prog 53 [S p_1] w (fun v w'=>∃ (μ':M) ,v=.int .i64 r∧Le μ0 μ'∧Sq μ' w0 w' (rsF)):=by
 unfold lx_space at h
 refine enter func53 rfl (frm:=_::u1 (u5 (u20 []))) rfl (nz (st (nx (st (ny (cblock ?_))))))
 refine cloopE ([2]++rg 4 22) (by decide +kernel) (fun n m w=>∃ μx i13,m=(yK2 (yO1 2 (.i (.int .i64 i13)::(yO20 4 (yO2 24 [])))))∧lx_space_l1 fu p_1 n i13=some r∧Le μ0 μx∧Sq μx w0 w (rsF)) (by rintro _ _ _ ⟨_,_,rfl,_⟩; rfl) _ _ (aK2 (aO1 (aI (aO20 (aO2 aZ))))) ⟨_,0,rfl,h,Le.r,hS⟩ ?_
 rintro n_1 _ t w1 ⟨μ1,i13,rfl,h,le26,hS⟩
 rcases n_1 with _|n_1
 cases h
 unfold lx_space_l1 at h
 refine cnrm (mK2 (mO1 (mi (mO20 (mO2 mz))))) (cseq (nz ?_))
 iterate 2 refine st ?_
 refine wl (su (u_lens underlying9 (et d5)) (dt p6) (st (nw ?_)))
 refine cifd (et d7) (fun h27=>?_) (fun h27=>?_)
 replace h:=iT h27 h
 refine cskip (xn (cblock (nz ?_)))
 iterate 2 refine st ?_
 obtain ⟨u28,g29,h⟩:=bI h
 refine wl (s_idxc underlying9 (et d8) (et d9) g29 (dt (q10 p0)) (nw (cblock (cseq (nz ?_)))))
 iterate 2 refine st ?_
 refine nw ?_
 refine ccutE (rg 14 2) (by decide) (fun m w=>∃ μx b30,m=(yK10 (yK2 (.i (.bool b30)::(yK1 (yO2 14 [])))))∧lx_space_j1 fu p_1 i13 u28 (lx_space_l1 fu p_1 n_1) b30=some r∧Le μ1 μx∧Sq μx w0 w (rsF)) (by rintro _ _ ⟨_,_,rfl,_⟩; rfl) ?_ ?_
 refine cifd (et (k10 d2)) (fun h31=>?_) (fun h31=>?_)
 replace h:=iT h31 h
 refine cskip (xl ?_)
 exact ⟨_,_,rfl,(aK10 (aK2 (aI (aK1 (aO2 aZ))))),_,(decide ((u28.toNat:Int)=32)),rfl,h,Le.r,hS⟩
 replace h:=iF h31 h
 refine nz ?_
 iterate 2 refine st ?_
 refine nw ?_
 refine cifd (et (k10 d2)) (fun h32=>?_) (fun h32=>?_)
 replace h:=iT h32 h
 refine cskip (xl ?_)
 exact ⟨_,_,rfl,(aK10 (aK2 (aI (aK1 (aO2 aZ))))),_,(decide ((u28.toNat:Int)=9)),rfl,h,Le.r,hS⟩
 replace h:=iF h32 h
 refine creg ?_
 iterate 2 refine st ?_
 refine wnil (xl ?_)
 exact ⟨_,_,rfl,(aK10 (aK2 (aI (aK1 (aO2 aZ))))),_,(decide ((u28.toNat:Int)=10)),rfl,h,Le.r,hS⟩
 rintro _ t w2 ⟨μ2,b30,rfl,h,le33,hS⟩
 unfold lx_space_j1 at h
 refine nrm (mK10 (mK2 (mi (mK1 (mO2 mz))))) (xn ?_)
 refine cifb (et (k10 d2)) (fun h34=>?_) (fun h34=>?_)
 replace h:=iT h34 h
 refine creg (st ?_)
 obtain ⟨i35,g36,h⟩:=bI h
 refine wl (su (u_addc (et (k10 d6)) ec g36) (dt (q10 p7)) (st (wnil ?_)))
 refine (fun h=>bn (bn (xl h))) ?_
 exact ⟨n_1,_,_,rfl,(aK2 (aO1 (aI (aO20 (aO2 aZ))))),⟨_,i35,rfl,h,(le26.t le33),hS⟩,Nat.lt_succ_self _⟩
 replace h:=iF h34 h
 refine nz ?_
 iterate 2 refine st ?_
 refine nw ?_
 refine cifd (et (k10 d8)) (fun h37=>?_) (fun h37=>?_)
 replace h:=iT h37 h
 refine creg ?_
 iterate 3 refine st ?_
 obtain ⟨s38,g39,h⟩:=bI h
 refine wl (su (u_cutloc underlying9 (et (k20 d1)) (et (k20 d2)) g39) (dt (q20 p3)) ?_)
 obtain ⟨r40,g41,h⟩:=bI h
 refine wl (s_callv isfn55 ef (e1 (et (k20 d3)) (e1 ef e0)) (lx_while_w (hg.t (le26.t le33)) (⟨isfn105,fun hle_ hm_ g_ hS_=>by obtain rfl:=hm_; exact lx_s1_w ((hg.t (le26.t le33)).t hle_)  g_ hS_⟩) g41 hS) ?_)
 rintro _ w3 ⟨μ3,rfl,le42,hS⟩
 refine po ?_
 obtain ⟨i43,g44,h⟩:=bI h
 refine wl (su (u_addc (et (k20 d0)) (et (k20 d4)) g44) (dt (q20 p5)) (st (wnil ?_)))
 refine (fun h=>bn (bn (xl h))) ?_
 exact ⟨n_1,_,_,rfl,(aK2 (aO1 (aI (aO20 (aO2 aZ))))),⟨_,i43,rfl,h,(le26.t (le33.t le42)),hS⟩,Nat.lt_succ_self _⟩
 replace h:=iF h37 h
 refine nz ?_
 iterate 2 refine st ?_
 refine nw (cret ?_)
 refine (fun h=>br (br (xr (br (xr h))))) ?_
 obtain rfl:=oI h
 refine ret1 rfl d2 ?_
 exact ⟨_,rfl,(le26.t le33),hS⟩
 replace h:=iF h27 h
 refine cexit ?_
 refine (fun h=>xe (xe (bh h))) ?_
 refine xn (nz ?_)
 iterate 2 refine st ?_
 refine nw (cret ?_)
 obtain rfl:=oI h
 refine ret1 rfl d2 ?_
 exact ⟨_,rfl,le26,hS⟩
theorem lex_named_w (hg:Le Gm μ0) {p_1:List UInt8} {r:Bool}  (h:lex_named fu p_1=some r) (hS:Sq μ0 w0 w (rsF)):CallsV prog 94 [S p_1] w (fun v w'=>∃ (μ':M) ,v=.bool r∧Le μ0 μ'∧Sq μ' w0 w' (rsF)):=by
 unfold lex_named at h
 refine enter func94 rfl (frm:=_::u2 (u5 (u20 []))) rfl (nz (st (ny (cseq ?_))))
 refine ccutE (rg 3 19) (by decide) (fun m w=>∃ μx b1,m=(yK3 (yO10 3 (yO9 13 (.i (.bool b1)::[]))))∧lex_named_j1 fu p_1 b1=some r∧Le μ0 μx∧Sq μx w0 w (rsF)) (by rintro _ _ ⟨_,_,rfl,_⟩; rfl) ?_ ?_
 refine creg (st (wl (su (u_lens underlying9 (et d3)) (dt p4) ?_)))
 iterate 2 refine st ?_
 refine wspd d6 p6 p6 (fun h2=>?_) (fun h2=>?_)
 replace h:=iT h2 h
 refine sn rfl rfl (sn rfl rfl (sn rfl rfl ?_))
 iterate 2 refine st ?_
 refine sn rfl rfl (sn rfl rfl (sn rfl rfl (sn rfl rfl ?_)))
 iterate 2 refine st ?_
 refine sn rfl rfl (sn rfl rfl (sn rfl rfl (sn rfl rfl (st (wnil (xl ?_))))))
 exact ⟨_,_,rfl,(aK3 (aO10 (aO9 (aI aZ)))),_,true,rfl,h,Le.r,hS⟩
 replace h:=iF h2 h
 refine sy rfl (wy rfl d6 (su (u_lens underlying9 (et d7)) (dt p8) (sy rfl ?_)))
 iterate 2 refine st ?_
 refine wspd (k10 d1) (q10 p1) (q10 p1) (fun h3=>?_) (fun h3=>?_)
 replace h:=iT h3 h
 refine sn rfl rfl (sn rfl rfl (sn rfl rfl (sn rfl rfl ?_)))
 iterate 2 refine st ?_
 refine sn rfl rfl (sn rfl rfl (sn rfl rfl (sn rfl rfl (st (wnil (xl ?_))))))
 exact ⟨_,_,rfl,(aK3 (aO10 (aO9 (aI aZ)))),_,true,rfl,h,Le.r,hS⟩
 replace h:=iF h3 h
 refine sy rfl ?_
 obtain ⟨u4,g5,h⟩:=bI h
 refine wy rfl (k10 d1) (s_idxc underlying9 (et (k10 d2)) ec g5 (dt (q10 p3)) ?_)
 obtain ⟨r6,g7,h⟩:=bI h
 refine wy rfl (k10 d1) (s_callv isfn54 ef (e1 (et (k10 d3)) e0) (lx_letter_w hg g7 hS) ?_)
 rintro _ w1 ⟨μ1,rfl,le8,hS⟩
 refine po (sy rfl ?_)
 iterate 2 refine st ?_
 refine wspnb (k10 d7) (q10 p7) (q10 p7) (fun h9=>?_) (fun h9=>?_)
 replace h:=iF h9 h
 refine sn rfl rfl (sn rfl rfl (sn rfl rfl (sn rfl rfl (st (wnil (xl ?_))))))
 exact ⟨_,_,rfl,(aK3 (aO10 (aO9 (aI aZ)))),_,true,rfl,h,le8,hS⟩
 replace h:=iT h9 h
 refine sy rfl ?_
 obtain ⟨s10,g11,h⟩:=bI h
 refine wy rfl (k10 d7) (su (u_catc ec (et (k10 d8)) g11) (dt (q10 p9)) ?_)
 obtain ⟨s12,g13,h⟩:=bI h
 refine wy rfl (k10 d7) (su (u_catc (et (k10 d9)) ec g13) (dt (q20 p0)) ?_)
 obtain ⟨b14,g15,h⟩:=bI h
 refine wy rfl (k10 d7) (s_callv isfn134 ef (e1 ec (e1 (et (k20 d0)) e0)) (scont_w (hg.t le8) g15 hS) ?_); clear hS; rintro _ w2 ⟨rfl,hS⟩; refine po ?_
 refine st (wnil (xl ?_))
 exact ⟨_,_,rfl,(aK3 (aO10 (aO9 (aI aZ)))),_,_,rfl,h,le8,hS⟩
 rintro _ t w3 ⟨μ2,b1,rfl,h,le16,hS⟩
 unfold lex_named_j1 at h
 refine nrm (mK3 (mO10 (mO9 (mi mz)))) (xn ?_)
 refine cifb (et (k20 d2)) (fun h17=>?_) (fun h17=>?_)
 replace h:=iT h17 h
 refine nz (st (nw (cret (xr ?_))))
 obtain rfl:=oI h
 refine ret1 rfl d2 ?_
 exact ⟨_,rfl,le16,hS⟩
 replace h:=iF h17 h
 refine cskip (xn (nz (st ?_)))
 obtain ⟨r18,g19,h⟩:=bI h
 refine wl (s_callv isfn55 ef (e1 (et (k20 d3)) (e1 ef e0)) (lx_while_w (hg.t le16) (⟨isfn135,fun hle_ hm_ g_ hS_=>by obtain rfl:=hm_; exact lx_n1_w ((hg.t le16).t hle_)  g_ hS_⟩) g19 hS) ?_)
 rintro _ w4 ⟨μ3,rfl,le20,hS⟩
 refine po (st (wl (su (u_lens underlying9 (et (k20 d5))) (dt (q20 p6)) ?_)))
 iterate 2 refine st ?_
 refine nw (cret ?_)
 obtain rfl:=oI h
 refine ret1 rfl d2 ?_
 exact ⟨_,rfl,(le16.t le20),hS⟩
theorem lex_tokens_w (hg:Le Gm μ0) {p_1:List UInt8} {r:List TToken×TFault}  (h:lex_tokens fu p_1=some r) (hS:Sq μ0 w0 w (rsF)):CallsV prog 25 [S p_1] w (fun v w'=>∃ (μ':M) (a1:Option Addr) (c2:Nat),v=.tuple ⟨[.slice a1 r.1.length c2,.agg ⟨[.int .i64 r.2.Err,.int .i64 r.2.At]⟩]⟩∧Le μ0 μ'∧Sq μ' w0 w' (rsF)∧Sl μ' a1 c2 r.1):=by
 unfold lex_tokens at h
 refine enter func25 rfl (frm:=_::u2 (u10 (u20 (u50 [])))) rfl (nz (st ?_))
 refine wl (s_alloc ti26 hS ?_); clear hS; intro b4 w1 hb5 hS; refine po ?_
 refine ny (nz (st (wl (su (u_lens underlying9 (et d9)) (dt (q10 p0)) (st (nw ?_))))))
 refine cifd (et (k10 d1)) (fun h6=>?_) (fun h6=>?_)
 replace h:=iT h6 h
 refine nz (wl (s_build ti26 pl26 (Fl.o rfl ec rfl rfl p0 Fl.z) (dt (q10 p2)) (st (wl (s_storeA ti26 (et d3) (et (k10 d2)) rfl rfl hS d0 rfl p0 dn ?_)))))
 clear hS; intro w2 hS
 refine nw (cret (xr ?_))
 obtain rfl:=oI h
 refine retN rfl (RVs.s (.t d2) (RVs.s (.a d3 ti26 (hS.blk d0).cells rfl) RVs.z)) ?_
 replace hS:=hS.drop Rm.z
 exact ⟨_,none,0,rfl,Le.r,hS,Sl.nil⟩
 replace h:=iF h6 h
 refine cskip (xn (nz (st (ny (nz (st ?_))))))
 obtain ⟨r7,g8,h⟩:=bI h
 refine ca (lx_space_w hg g8 hS) ?_
 rintro _ w3 ⟨μ1,rfl,le9,hS⟩
 refine po (st (nw (cblock ?_)))
 replace hS:=hS.nilRow 138 (Mo.sz TToken)
 replace hS:=hS.bg Y1
 refine cloopE ([2]++rg 6 3++rg 15 66) (by decide +kernel) (fun n m w=>∃ μx i58 l61 v59 cs60,m=(yK2 (yO1 2 (yK1 (.i (v59)::(.i (.int .i64 i58)::(yO3 6 (yK6 (yO50 15 (yO10 65 (yO6 75 []))))))))))∧lex_tokens_l1 fu p_1 n i58 l61=some r∧Le μ1 μx∧Sq μx w0 w (.blk b4 26 [.int .i64 0,.int .i64 0]::.row v59 138 4 l61.length cs60::rsF)∧Rw μx cs60 l61) (by rintro _ _ _ ⟨_,_,_,_,_,rfl,_⟩; rfl) _ _ (aK2 (aO1 (aK1 (aI (aI (aO3 (aK6 (aO50 (aO10 (aO6 aZ)))))))))) ⟨_,r7,[],(.slice none 0 0),[],rfl,h,Le.r,hS,Rw.nil⟩ ?_
 rintro n_1 _ t w4 ⟨μ2,i58,l61,v59,cs60,rfl,h,le109,hS,m110⟩
 rcases n_1 with _|n_1
 cases h
 unfold lex_tokens_l1 at h
 refine cnrm (mK2 (mO1 (mK1 (mi (mi (mO3 (mK6 (mO50 (mO10 (mO6 mz)))))))))) (cseq (nz ?_))
 iterate 2 refine st ?_
 refine wl (su (u_lens underlying9 (et (k10 d6))) (dt (q10 p7)) (st (nw ?_)))
 refine cifd (et (k10 d8)) (fun h111=>?_) (fun h111=>?_)
 replace h:=iT h111 h
 refine cskip (xn (cseq (cblock (nz ?_))))
 iterate 2 refine st ?_
 obtain ⟨s112,g113,h⟩:=bI h
 refine wl (su (u_cutloc underlying9 (et (k20 d5)) (et (k20 d6)) g113) (dt (q20 p7)) (st (nx (st (wl (s_build ti138 pl138 (Fl.o rfl (et (k20 d8)) rfl rfl p3 Fl.z) (dt (q20 p9)) ?_))))))
 refine wl (s_alloc ti138 hS ?_); clear hS; intro b114 w5 hb115 hS; refine po ?_
 refine wl (s_storeA ti138 (et d7) (et (k20 d9)) rfl rfl hS d0 rfl p0 dn ?_)
 clear hS; intro w6 hS
 refine ny (nz (st ?_))
 obtain ⟨u116,g117,h⟩:=bI h
 refine wl (s_idxc underlying9 (et (k30 d0)) ec g117 (dt (q30 p1)) (st (nw ?_)))
 refine ccutE ([2]++rg 32 40) (by decide +kernel) (fun m w=>∃ μx i118 s119 i120,m=(yK2 (yO1 2 (yK20 (yK9 (yO20 32 (yO20 52 []))))))∧lex_tokens_j1 fu p_1 i58 l61 (lex_tokens_l1 fu p_1 n_1) i118 s119 i120=some r∧Le μ2 μx∧Sq μx w0 w (.blk b4 26 [.int .i64 0,.int .i64 0]::.row v59 138 4 l61.length cs60::.blk b114 138 [.int .i64 i118,S s119,.int .i64 i120,.int .i64 i58]::rsF)) (by rintro _ _ ⟨_,_,_,_,rfl,_⟩; rfl) ?_ ?_
 refine cblock (nz (st ?_))
 obtain ⟨r121,g122,h⟩:=bI h
 refine ca (lx_letter_w (hg.t (le9.t le109)) g122 hS) ?_
 rintro _ w7 ⟨μ3,rfl,le123,hS⟩
 refine po (st (nw ?_))
 refine cifb (et (k40 d1)) (fun h124=>?_) (fun h124=>?_)
 replace h:=iT h124 h
 refine cdw hS ?_; clear hS; intro w8 hS
 refine sf_start (fpi 0 [0,3,6,7] rfl (fpi 1 [1,2,3,5,6,7] rfl (fpi 4 [4,5,6,7] rfl ?_)))
 obtain ⟨r125,g126,h⟩:=bI h
 refine sf1 rfl rfl rfl rfl (wn0 rfl) (s_callv isfn55 ef (e1 (et (k40 d5)) (e1 ef e0)) (lx_while_w (hg.t (le9.t (le109.t le123))) (⟨isfn56,fun hle_ hm_ g_ hS_=>by obtain rfl:=hm_; exact lx_t1_w ((hg.t (le9.t (le109.t le123))).t hle_)  g_ hS_⟩) g126 hS) ?_)
 rintro _ w9 ⟨μ4,rfl,le127,hS⟩
 refine po ?_
 refine ⟨Mons.z,?_⟩
 obtain ⟨s128,g129,h⟩:=bI h
 refine fp 3 [3,6,7] rfl (u_cuthic underlying9 (et (k40 d4)) (et (k40 d6)) g129) (q40 p7) (sf1 rfl rfl rfl rfl (wn0 rfl) (s_store1 ti3 (et (k40 d8)) ec rfl hS d0 p0 rfl p0 dn ?_))
 clear hS; intro w10 hS
 refine ⟨Mons.z,?_⟩
 refine fpi 6 [6,7] rfl (sf1 rfl rfl rfl rfl (wn0 rfl) (s_store1 ti9 (et (k40 d9)) (et (k40 d7)) rfl hS d0 p1 rfl p0 dn ?_))
 clear hS; intro w11 hS
 refine ⟨Mons.z,?_⟩
 refine sf_nil ?_
 refine (fun h=>bn (xl h)) ?_
 replace hS:=(hS.bg Y2).bg Y2
 exact ⟨_,_,rfl,(aK2 (aO1 (aK20 (aK9 (aO20 (aO20 aZ)))))),_,1,_,0,rfl,h,(le123.t le127),hS⟩
 replace h:=iF h124 h
 refine nz (st ?_)
 obtain ⟨r130,g131,h⟩:=bI h
 refine ca (lx_digit_w (hg.t (le9.t (le109.t le123))) g131 hS) ?_
 rintro _ w12 ⟨μ5,rfl,le132,hS⟩
 refine po (st (nw ?_))
 refine cifb (et (k50 d0)) (fun h133=>?_) (fun h133=>?_)
 replace h:=iT h133 h
 refine cseq ?_
 refine cdw hS ?_; clear hS; intro w13 hS
 refine sf_start (fpi 0 [0,3,6,7] rfl (fpi 1 [1,2,3,5,6,7] rfl (fpi 4 [4,5,6,7] rfl ?_)))
 obtain ⟨r134,g135,h⟩:=bI h
 refine sf1 rfl rfl rfl rfl (wn0 rfl) (s_callv isfn55 ef (e1 (et (k50 d4)) (e1 ef e0)) (lx_while_w (hg.t (le9.t (le109.t (le123.t le132)))) (⟨isfn57,fun hle_ hm_ g_ hS_=>by obtain rfl:=hm_; exact lx_digit_w ((hg.t (le9.t (le109.t (le123.t le132)))).t hle_)  g_ hS_⟩) g135 hS) ?_)
 rintro _ w14 ⟨μ6,rfl,le136,hS⟩
 refine po ?_
 refine ⟨Mons.z,?_⟩
 obtain ⟨s137,g138,h⟩:=bI h
 refine fp 3 [3,6,7] rfl (u_cuthic underlying9 (et (k50 d3)) (et (k50 d5)) g138) (q50 p6) (sf1 rfl rfl rfl rfl (wn0 rfl) (s_store1 ti3 (et (k50 d7)) ec rfl hS d0 p0 rfl p0 dn ?_))
 clear hS; intro w15 hS
 refine ⟨Mons.z,?_⟩
 refine fpi 6 [6,7] rfl (sf1 rfl rfl rfl rfl (wn0 rfl) (s_store1 ti9 (et (k50 d8)) (et (k50 d6)) rfl hS d0 p1 rfl p0 dn ?_))
 clear hS; intro w16 hS
 refine ⟨Mons.z,?_⟩
 refine sf_nil (xn (cseq (nz (st (ld ((hS.blk d0).cell d1) (wl (su (u_lens underlying9 (et (k60 d0))) (dt (q60 p1)) (st (nw ?_)))))))))
 refine cifd (et (k60 d2)) (fun h139=>?_) (fun h139=>?_)
 replace h:=iT h139 h
 refine nz (st (wl (s_build ti26 pl26 (Fl.o rfl ec rfl rfl p0 (Fl.o rfl (et (k60 d3)) rfl rfl p1 Fl.z)) (dt (q60 p4)) (st (wl (s_storeA ti26 (et d3) (et (k60 d4)) rfl rfl hS d1 rfl p1 dn ?_))))))
 clear hS; intro w17 hS
 refine nw (cret ((fun h=>xr (br (xr (xr (br (xr (xr (br (xr h))))))))) ?_))
 obtain rfl:=oI h
 refine retN rfl (RVs.s (.t d2) (RVs.s (.a d3 ti26 (hS.blk d1).cells rfl) RVs.z)) ?_
 replace hS:=((hS.drop Rm.z).drop Rm.z).drop Rm.z
 exact ⟨_,none,0,rfl,(le9.t (le109.t (le123.t (le132.t le136)))),hS,Sl.nil⟩
 replace h:=iF h139 h
 refine cskip (xn (creg (st (ld ((hS.blk d0).cell d1) ?_))))
 obtain ⟨i140,g141,h⟩:=bI h
 refine wl (s_callv isfn58 ef (e1 (et (k60 d7)) (e1 ec (e1 ec e0))) (pint_w g141 hS) ?_); clear hS; rintro _ w18 ⟨rfl,hS⟩; refine po ?_
 iterate 4 refine st ?_
 refine wl (s_store1 ti2 (et (k70 d1)) (et (k60 d9)) rfl hS d0 p2 rfl p0 dn ?_)
 clear hS; intro w19 hS
 refine wnil ?_
 refine (fun h=>bn (xl h)) ?_
 replace hS:=(hS.bg Y2).bg Y2
 exact ⟨_,_,rfl,(aK2 (aO1 (aK20 (aK9 (aO20 (aO20 aZ)))))),_,2,_,_,rfl,h,(le123.t (le132.t le136)),hS⟩
 replace h:=iF h133 h
 refine nz (st ?_)
 obtain ⟨r142,g143,h⟩:=bI h
 refine ca (lx_sign_w (hg.t (le9.t (le109.t (le123.t le132)))) g143 hS) ?_
 rintro _ w20 ⟨μ7,rfl,le144,hS⟩
 refine po (st (wl (s_store1 ti3 (et (k30 d4)) ec rfl hS d0 p0 rfl p0 dn ?_)))
 clear hS; intro w21 hS
 refine st (wl (s_store1 ti9 (et (k30 d5)) (et (k30 d3)) rfl hS d0 p1 rfl p0 dn ?_))
 clear hS; intro w22 hS
 refine nx (st (ld ((hS.blk d0).cell d1) (wl (su (u_eqs (et (k30 d7)) ec) (dt (q30 p8)) (nw ?_)))))
 refine cifd (et (k30 d8)) (fun h145=>?_) (fun h145=>?_)
 replace h:=iT h145 h
 refine nz (st (wl (s_build ti26 pl26 (Fl.o rfl ec rfl rfl p0 (Fl.o rfl (et (k30 d9)) rfl rfl p1 Fl.z)) (dt (q40 p0)) (st (wl (s_storeA ti26 (et d3) (et (k40 d0)) rfl rfl hS d1 rfl p1 dn ?_))))))
 clear hS; intro w23 hS
 refine nw (cret ((fun h=>br (xr (xr (br (xr (xr (br (xr h)))))))) ?_))
 obtain rfl:=oI h
 refine retN rfl (RVs.s (.t d2) (RVs.s (.a d3 ti26 (hS.blk d1).cells rfl) RVs.z)) ?_
 replace hS:=((hS.drop Rm.z).drop Rm.z).drop Rm.z
 exact ⟨_,none,0,rfl,(le9.t (le109.t (le123.t (le132.t le144)))),hS,Sl.nil⟩
 replace h:=iF h145 h
 refine cskip ?_
 refine (fun h=>bn (xl h)) ?_
 replace hS:=(hS.bg Y2).bg Y2
 exact ⟨_,_,rfl,(aK2 (aO1 (aK20 (aK9 (aO20 (aO20 aZ)))))),_,3,_,0,rfl,h,(le123.t (le132.t le144)),hS⟩
 rintro _ t w24 ⟨μ8,i118,s119,i120,rfl,h,le146,hS⟩
 unfold lex_tokens_j1 at h
 refine nrm (mK2 (mO1 (mK20 (mK9 (mO20 (mO20 mz)))))) (xn (nz (st (lds (hS.blk d2).cells rfl ?_))))
 refine wl (s_bsl1 underlying69 ti138 rfl (et (k70 d3)) rfl hS ?_); clear hS; intro b147 w25 hb148 hS; refine po ?_
 obtain ⟨l151,g152,h⟩:=bI h
 have m153:Rw μ8 [.int .i64 i118,S s119,.int .i64 i120,.int .i64 i58] [(TToken.mk i118 s119 i120 i58)]:=(Rw.one (α:=TToken) rfl)
 have m150:=Rw.app (m110.up le146) m153 g152
 refine wl (s_app1 underlying69 ti138 rfl (et (k70 d2)) (et (k70 d4)) hS d2 (hS.blk d0).cells m153 rfl g152 (by decide) ?_); clear hS; intro v149 w26 rs_ hp_ hS; cases (show _=rs_ from hp_)
 replace hS:=Sep.reput hS p2; refine po ?_
 replace hS:=hS.drop Rm.z
 refine st (nw (creg ?_))
 iterate 2 refine st ?_
 refine ld ((hS.blk d2).cell d1) (wl (su (u_lens underlying9 (et (k70 d8))) (dt (q70 p9)) ?_))
 obtain ⟨i154,g155,h⟩:=bI h
 refine wl (su (u_addc (et (k70 d6)) (et (k70 d9)) g155) (dt (q80 p0)) (st (wnil ?_)))
 refine (fun h=>bn (xn h)) ?_
 refine creg ?_
 iterate 3 refine st ?_
 obtain ⟨s156,g157,h⟩:=bI h
 refine wl (su (u_cutloc underlying9 (et (k20 d0)) (et (k20 d1)) g157) (dt (q20 p2)) ?_)
 obtain ⟨r158,g159,h⟩:=bI h
 refine ca (lx_space_w (hg.t (le9.t (le109.t le146))) g159 hS) ?_
 rintro _ w27 ⟨μ9,rfl,le160,hS⟩
 refine po ?_
 obtain ⟨i161,g162,h⟩:=bI h
 refine wl (su (u_addc (et (k10 d9)) (et (k20 d3)) g162) (dt (q20 p4)) (st (wnil (xl ?_))))
 replace hS:=hS.drop (Rm.s (Rm.s Rm.z))
 exact ⟨n_1,_,_,rfl,(aK2 (aO1 (aK1 (aI (aI (aO3 (aK6 (aO50 (aO10 (aO6 aZ)))))))))),⟨_,i161,l151,v149,(cs60++[.int .i64 i118,S s119,.int .i64 i120,.int .i64 i58]),rfl,h,(le109.t (le146.t le160)),hS,(m150.up le160)⟩,Nat.lt_succ_self _⟩
 replace h:=iF h111 h
 refine cexit ?_
 refine (fun h=>xe (xe (bh h))) ?_
 refine xn (nz (st (wl (s_build ti26 pl26 Fl.z (dt (q80 p2)) (st (wl (s_storeA ti26 (et d3) (et (k80 d2)) rfl rfl hS d0 rfl p0 dn ?_)))))))
 clear hS; intro w28 hS
 refine nw (cret ?_)
 replace hS:=hS.bg Y1
 obtain ⟨μ10,a163,c164,e167,le166,m165,hq_⟩:=Sep.frzRow hS m110 rfl; clear hS
 subst e167; have hS:=hq_; clear hq_
 obtain rfl:=oI h
 refine retN rfl (RVs.s (.t d2) (RVs.s (.a d3 ti26 (hS.blk d0).cells rfl) RVs.z)) ?_
 replace hS:=hS.drop Rm.z
 exact ⟨_,_,_,rfl,(le9.t (le109.t le166)),hS,m165⟩
end Go.Proofs.YtdfnejebobekoaaGreatDoor
set_option maxRecDepth 100000
set_option maxHeartbeats 20000000
namespace Go.Proofs.YtdfnejebobekoaaGreatDoor
open Go.Wk Go.Xt Go.Y Tryz
variable {b1 b3 c2 c6 c9 fu o4:Nat} {a1 a5 a8:Option Addr} {μ0:M} {w0 w:World} {rsF:List Res}
theorem syn_kids_w (hg:Le Gm μ0) {p_1 r:Int}  (h:syn_kids p_1=some r) (hS:Sq μ0 w0 w (rsF)):CallsV prog 184 [.int .i64 p_1] w (fun v w'=>∃ (μ':M) ,v=.int .i64 r∧Le μ0 μ'∧Sq μ' w0 w' (rsF)):=by
 unfold syn_kids at h
 refine enter func184 rfl (frm:=_::u2 (u5 (u20 []))) rfl (nz (st (ny (cblock (cseq ?_)))))
 refine ccutE (rg 4 6) (by decide) (fun m w=>∃ μx b1,m=(yK3 (.i (.bool b1)::(yO6 4 [])))∧syn_kids_j1 p_1 b1=some r∧Le μ0 μx∧Sq μx w0 w (rsF)) (by rintro _ _ ⟨_,_,rfl,_⟩; rfl) ?_ ?_
 refine creg ?_
 iterate 3 refine st ?_
 refine wspd d6 p6 p6 (fun h2=>?_) (fun h2=>?_)
 replace h:=iT h2 h
 refine sn rfl rfl (sn rfl rfl ?_)
 iterate 2 refine st ?_
 refine wnil (xl ?_)
 exact ⟨_,_,rfl,(aK3 (aI (aO6 aZ))),_,true,rfl,h,Le.r,hS⟩
 replace h:=iF h2 h
 refine sy rfl (sy rfl ?_)
 iterate 2 refine st ?_
 refine wnil (xl ?_)
 exact ⟨_,_,rfl,(aK3 (aI (aO6 aZ))),_,(decide (p_1=20)),rfl,h,Le.r,hS⟩
 rintro _ t w1 ⟨μ1,b1,rfl,h,le3,hS⟩
 unfold syn_kids_j1 at h
 refine nrm (mK3 (mi (mO6 mz))) (xn ?_)
 refine cifb (et d3) (fun h4=>?_) (fun h4=>?_)
 replace h:=iT h4 h
 refine nz (st (nw (cret ?_)))
 refine (fun h=>br (xr h)) ?_
 obtain rfl:=oI h
 refine ret1 rfl d2 ?_
 exact ⟨_,rfl,le3,hS⟩
 replace h:=iF h4 h
 refine cseq ?_
 refine ccutE (rg 11 10) (by decide) (fun m w=>∃ μx b5,m=(yK10 (.i (.bool b5)::(yO10 11 [])))∧syn_kids_j2 p_1 b5=some r∧Le μ1 μx∧Sq μx w0 w (rsF)) (by rintro _ _ ⟨_,_,rfl,_⟩; rfl) ?_ ?_
 refine creg ?_
 iterate 3 refine st ?_
 refine wspd (k10 d3) (q10 p3) (q10 p3) (fun h6=>?_) (fun h6=>?_)
 replace h:=iT h6 h
 refine sn rfl rfl (sn rfl rfl ?_)
 iterate 2 refine st ?_
 refine sn rfl rfl (sn rfl rfl ?_)
 iterate 2 refine st ?_
 refine wnil (xl ?_)
 exact ⟨_,_,rfl,(aK10 (aI (aO10 aZ))),_,true,rfl,h,Le.r,hS⟩
 replace h:=iF h6 h
 refine sy rfl (sy rfl ?_)
 iterate 2 refine st ?_
 refine wspd (k10 d7) (q10 p7) (q10 p7) (fun h7=>?_) (fun h7=>?_)
 replace h:=iT h7 h
 refine sn rfl rfl (sn rfl rfl ?_)
 iterate 2 refine st ?_
 refine wnil (xl ?_)
 exact ⟨_,_,rfl,(aK10 (aI (aO10 aZ))),_,true,rfl,h,Le.r,hS⟩
 replace h:=iF h7 h
 refine sy rfl (sy rfl ?_)
 iterate 2 refine st ?_
 refine wnil (xl ?_)
 exact ⟨_,_,rfl,(aK10 (aI (aO10 aZ))),_,(decide (p_1=24)),rfl,h,Le.r,hS⟩
 rintro _ t w2 ⟨μ2,b5,rfl,h,le8,hS⟩
 unfold syn_kids_j2 at h
 refine nrm (mK10 (mi (mO10 mz))) (xn ?_)
 refine cifb (et (k10 d0)) (fun h9=>?_) (fun h9=>?_)
 replace h:=iT h9 h
 refine nz (st (nw (cret ?_)))
 refine (fun h=>br (xr h)) ?_
 obtain rfl:=oI h
 refine ret1 rfl d2 ?_
 exact ⟨_,rfl,(le3.t le8),hS⟩
 replace h:=iF h9 h
 refine cseq ?_
 refine ccutE (rg 22 6) (by decide) (fun m w=>∃ μx b10,m=(yK20 (yK1 (.i (.bool b10)::(yO6 22 []))))∧syn_kids_j3 b10=some r∧Le μ2 μx∧Sq μx w0 w (rsF)) (by rintro _ _ ⟨_,_,rfl,_⟩; rfl) ?_ ?_
 refine creg ?_
 iterate 3 refine st ?_
 refine wspd (k20 d4) (q20 p4) (q20 p4) (fun h11=>?_) (fun h11=>?_)
 replace h:=iT h11 h
 refine sn rfl rfl (sn rfl rfl ?_)
 iterate 2 refine st ?_
 refine wnil (xl ?_)
 exact ⟨_,_,rfl,(aK20 (aK1 (aI (aO6 aZ)))),_,true,rfl,h,Le.r,hS⟩
 replace h:=iF h11 h
 refine sy rfl (sy rfl ?_)
 iterate 2 refine st ?_
 refine wnil (xl ?_)
 exact ⟨_,_,rfl,(aK20 (aK1 (aI (aO6 aZ)))),_,(decide (p_1=23)),rfl,h,Le.r,hS⟩
 rintro _ t w3 ⟨μ3,b10,rfl,h,le12,hS⟩
 unfold syn_kids_j3 at h
 refine nrm (mK20 (mK1 (mi (mO6 mz)))) (xn ?_)
 refine cifb (et (k20 d1)) (fun h13=>?_) (fun h13=>?_)
 replace h:=iT h13 h
 refine nz (st (nw (cret ?_)))
 refine (fun h=>br (xr h)) ?_
 obtain rfl:=oI h
 refine ret1 rfl d2 ?_
 exact ⟨_,rfl,(le3.t (le8.t le12)),hS⟩
 replace h:=iF h13 h
 refine cskip ?_
 refine (fun h=>bn (xn h)) ?_
 refine nz (st (nw (cret ?_)))
 obtain rfl:=oI h
 refine ret1 rfl d2 ?_
 exact ⟨_,rfl,(le3.t (le8.t le12)),hS⟩
theorem syn_node_w (hg:Le Gm μ0) {node_2 p_2:Int} {r:Int×Int}  (h:syn_node node_2 p_2=some r) (hS:Sq μ0 w0 w (.blk b1 116 [.int .i64 node_2]::rsF)):CallsV prog 93 [.pointer (some ⟨b1,0,none⟩),.int .i64 p_2] w (fun v w'=>∃ (μ':M) ,v=.int .i64 r.1∧Le μ0 μ'∧Sq μ' w0 w' (.blk b1 116 [.int .i64 r.2]::rsF)):=by
 unfold syn_node at h
 refine enter func93 rfl (frm:=_::_::u2 (u2 (u5 (u10 [])))) rfl (nz (st (ny (nz ?_))))
 iterate 3 refine st ?_
 refine ld ((hS.blk d0).cell d0) ?_
 obtain ⟨i3,g4,h⟩:=bI h
 refine wl (su (u_addc (et d8) ec g4) (dt p9) ?_)
 iterate 2 refine st ?_
 refine wl (s_store1 ti3 (et (k10 d1)) (et d9) rfl hS d0 p0 rfl p0 dn ?_)
 clear hS; intro w1 hS
 refine ny ?_
 refine ccutE (rg 12 8) (by decide) (fun m w=>∃ μx b5,m=(yK10 (yK2 (yO8 12 (.i (.bool b5)::[]))))∧syn_node_j1 i3 b5=some r∧Le μ0 μx∧Sq μx w0 w (.blk b1 116 [.int .i64 i3]::rsF)) (by rintro _ _ ⟨_,_,rfl,_⟩; rfl) ?_ ?_
 refine creg ?_
 iterate 3 refine st ?_
 refine ld ((hS.blk d0).cell d0) ?_
 iterate 2 refine st ?_
 refine wspd (k10 d7) (q10 p7) (q10 p7) (fun h6=>?_) (fun h6=>?_)
 replace h:=iT h6 h
 refine sn rfl rfl (sn rfl rfl (st (wnil (xl ?_))))
 exact ⟨_,_,rfl,(aK10 (aK2 (aO8 (aI aZ)))),_,true,rfl,h,Le.r,hS⟩
 replace h:=iF h6 h
 refine sy rfl (sy rfl (st (wnil (xl ?_))))
 exact ⟨_,_,rfl,(aK10 (aK2 (aO8 (aI aZ)))),_,(decide ((40:Int)<p_2)),rfl,h,Le.r,hS⟩
 rintro _ t w2 ⟨μ1,b5,rfl,h,le7,hS⟩
 unfold syn_node_j1 at h
 refine nrm (mK10 (mK2 (mO8 (mi mz)))) (xn ?_)
 refine cifb (et (k20 d0)) (fun h8=>?_) (fun h8=>?_)
 replace h:=iT h8 h
 refine nz (st (nw (cret (xr ?_))))
 obtain rfl:=oI h
 refine ret1 rfl d4 ?_
 exact ⟨_,rfl,le7,hS⟩
 replace h:=iF h8 h
 refine cskip (xn (nz (st (nw (cret ?_)))))
 obtain rfl:=oI h
 refine ret1 rfl d4 ?_
 exact ⟨_,rfl,le7,hS⟩
theorem syn_typ_w (hg:Le Gm μ0) {p_1:TType} {r:Int}  (h:syn_typ fu p_1=some r) (hS:Sq μ0 w0 w (rsF)):CallsV prog 95 [.agg ⟨[.int .i64 p_1.Kind,S p_1.Gen]⟩] w (fun v w'=>∃ (μ':M) ,v=.int .i64 r∧Le μ0 μ'∧Sq μ' w0 w' (rsF)):=by
 unfold syn_typ at h
 refine enter func95 rfl (frm:=_::u1 (u20 [])) rfl (nz ?_)
 refine wl (s_box (et d0) rfl hS ?_); clear hS; intro b1 w1 hb2 hS; refine po ?_
 refine st (ny (cblock (cseq ?_)))
 refine ccutE (rg 4 8) (by decide) (fun m w=>∃ μx b3,m=(yK3 (.i (.bool b3)::(yO8 4 [])))∧syn_typ_j1 fu p_1 b3=some r∧Le μ0 μx∧Sq μx w0 w (.blk b1 62 [.int .i64 p_1.Kind,S p_1.Gen]::rsF)) (by rintro _ _ ⟨_,_,rfl,_⟩; rfl) ?_ ?_
 refine creg (st (ld ((hS.blk d0).cell d0) ?_))
 iterate 2 refine st ?_
 refine wspd d7 p7 p7 (fun h4=>?_) (fun h4=>?_)
 replace h:=iT h4 h
 refine sn rfl rfl (sn rfl rfl (sn rfl rfl ?_))
 iterate 2 refine st ?_
 refine wnil (xl ?_)
 exact ⟨_,_,rfl,(aK3 (aI (aO8 aZ))),_,true,rfl,h,Le.r,hS⟩
 replace h:=iF h4 h
 refine sy rfl (wy rfl d7 (s_load ti3 (et d8) ((hS.blk d0).cell d0) (dt p9) (sy rfl ?_)))
 iterate 2 refine st ?_
 refine wnil (xl ?_)
 exact ⟨_,_,rfl,(aK3 (aI (aO8 aZ))),_,(decide ((3:Int)<p_1.Kind)),rfl,h,Le.r,hS⟩
 rintro _ t w2 ⟨μ1,b3,rfl,h,le5,hS⟩
 unfold syn_typ_j1 at h
 refine nrm (mK3 (mi (mO8 mz))) (xn ?_)
 refine cifb (et d3) (fun h6=>?_) (fun h6=>?_)
 replace h:=iT h6 h
 refine nz (st (nw (cret ?_)))
 refine (fun h=>br (xr h)) ?_
 obtain rfl:=oI h
 refine ret1 rfl d2 ?_
 replace hS:=hS.drop Rm.z
 exact ⟨_,rfl,le5,hS⟩
 replace h:=iF h6 h
 refine cseq ?_
 refine ccutE (rg 13 9) (by decide) (fun m w=>∃ μx b7,m=(yK10 (yK2 (.i (.bool b7)::(yO9 13 []))))∧syn_typ_j2 b7=some r∧Le μ1 μx∧Sq μx w0 w (rsF)) (by rintro _ _ ⟨_,_,rfl,_⟩; rfl) ?_ ?_
 refine creg (st (ld ((hS.blk d0).cell d0) ?_))
 iterate 2 refine st ?_
 refine wspd (k10 d6) (q10 p6) (q10 p6) (fun h8=>?_) (fun h8=>?_)
 replace h:=iT h8 h
 refine sy rfl (wy rfl (k10 d6) (s_load ti9 (et (k10 d7)) ((hS.blk d0).cell d1) (dt (q10 p8)) ?_))
 obtain ⟨r9,g10,h⟩:=bI h
 refine wy rfl (k10 d6) (s_callv isfn94 ef (e1 (et (k10 d8)) e0) (lex_named_w (hg.t le5) g10 hS) ?_)
 rintro _ w3 ⟨μ2,rfl,le11,hS⟩
 refine po (sy rfl ?_)
 iterate 2 refine st ?_
 refine wnil (xl ?_)
 replace hS:=hS.drop Rm.z
 exact ⟨_,_,rfl,(aK10 (aK2 (aI (aO9 aZ)))),_,(!r9),rfl,h,le11,hS⟩
 replace h:=iF h8 h
 refine sn rfl rfl (sn rfl rfl (sn rfl rfl (sn rfl rfl ?_)))
 iterate 2 refine st ?_
 refine wnil (xl ?_)
 replace hS:=hS.drop Rm.z
 exact ⟨_,_,rfl,(aK10 (aK2 (aI (aO9 aZ)))),_,false,rfl,h,Le.r,hS⟩
 rintro _ t w4 ⟨μ3,b7,rfl,h,le12,hS⟩
 unfold syn_typ_j2 at h
 refine nrm (mK10 (mK2 (mi (mO9 mz)))) (xn ?_)
 refine cifb (et (k10 d2)) (fun h13=>?_) (fun h13=>?_)
 replace h:=iT h13 h
 refine nz (st (nw (cret ?_)))
 refine (fun h=>br (xr h)) ?_
 obtain rfl:=oI h
 refine ret1 rfl d2 ?_
 exact ⟨_,rfl,(le5.t le12),hS⟩
 replace h:=iF h13 h
 refine cskip ?_
 refine (fun h=>bn (xn h)) ?_
 refine nz (st (nw (cret ?_)))
 obtain rfl:=oI h
 refine ret1 rfl d2 ?_
 exact ⟨_,rfl,(le5.t le12),hS⟩
structure SynExprSound (sf:SynExpr):Prop where
  syn_expr:∀ {μ0:M} {w0 w:World} {rsF:List Res} (hg:Le Gm μ0) {b1:Nat} {node_2:Int} {p_2:TExpr} {b3 o4:Nat} {a5:Option Addr} {c6:Nat} {p_3:Int} {r:Int×Int} (m7:Sl μ0 a5 c6 p_2.Kids) (m8:At μ0 b3 o4 [.int .i64 p_2.Kind,.int .i64 p_2.N,S p_2.Name,.slice a5 p_2.Kids.length c6]) (h:sf.syn_expr node_2 p_2 p_3=some r) (hS:Sq μ0 w0 w (.blk b1 116 [.int .i64 node_2]::rsF)),CallsV prog 164 [.pointer (some ⟨b1,0,none⟩),.pointer (some ⟨b3,o4,none⟩),.int .i64 p_3] w (fun v w'=>∃ (μ':M) ,v=.int .i64 r.1∧Le μ0 μ'∧Sq μ' w0 w' (.blk b1 116 [.int .i64 r.2]::rsF))
theorem syn_expr_w {self:SynExpr} (IH:SynExprSound self) {fu:Nat} {μ0:M} {w0 w:World} {rsF:List Res} (hg:Le Gm μ0) {b1:Nat} {node_2:Int} {p_2:TExpr} {b3 o4:Nat} {a5:Option Addr} {c6:Nat} {p_3:Int} {r:Int×Int} (m7:Sl μ0 a5 c6 p_2.Kids) (m8:At μ0 b3 o4 [.int .i64 p_2.Kind,.int .i64 p_2.N,S p_2.Name,.slice a5 p_2.Kids.length c6]) (h:syn_expr fu self node_2 p_2 p_3=some r) (hS:Sq μ0 w0 w (.blk b1 116 [.int .i64 node_2]::rsF)):CallsV prog 164 [.pointer (some ⟨b1,0,none⟩),.pointer (some ⟨b3,o4,none⟩),.int .i64 p_3] w (fun v w'=>∃ (μ':M) ,v=.int .i64 r.1∧Le μ0 μ'∧Sq μ' w0 w' (.blk b1 116 [.int .i64 r.2]::rsF)):=by
 unfold syn_expr at h
 refine enter func164 rfl (frm:=_::_::_::u2 (u2 (u5 (u10 (u20 (u50 (u50 []))))))) rfl (nz (st (ny (nz ?_))))
 iterate 2 refine st ?_
 obtain ⟨r9,g10,h⟩:=bI h
 refine ca (syn_node_w hg g10 hS) ?_
 rintro _ w1 ⟨μ1,rfl,le11,hS⟩
 refine po (st (nx ?_))
 iterate 2 refine st ?_
 refine nw ?_
 refine cifd (et (k10 d5)) (fun h12=>?_) (fun h12=>?_)
 replace h:=iT h12 h
 refine nz ?_
 iterate 2 refine st ?_
 refine nw (cret (xr ?_))
 obtain rfl:=oI h
 refine ret1 rfl d6 ?_
 exact ⟨_,rfl,le11,hS⟩
 replace h:=iF h12 h
 refine cskip (xn (cseq (cseq ?_)))
 refine ccutE (rg 17 11) (by decide) (fun m w=>∃ μx b13,m=(yK10 (yK7 (yO10 17 (yO1 27 (.i (.bool b13)::[])))))∧syn_expr_j1 fu self p_2 p_3 r9 b13=some r∧Le μ1 μx∧Sq μx w0 w (.blk b1 116 [.int .i64 r9.2]::rsF)) (by rintro _ _ ⟨_,_,rfl,_⟩; rfl) ?_ ?_
 refine creg ?_
 iterate 3 refine st ?_
 refine ld ((m8 _ (le11 _ hS.a)).one d0) ?_
 iterate 2 refine st ?_
 refine wspd (k20 d2) (q20 p2) (q20 p2) (fun h14=>?_) (fun h14=>?_)
 replace h:=iT h14 h
 refine sn rfl rfl (sn rfl rfl (sn rfl rfl (sn rfl rfl (sn rfl rfl (st (wnil (xl ?_)))))))
 exact ⟨_,_,rfl,(aK10 (aK7 (aO10 (aO1 (aI aZ))))),_,true,rfl,h,Le.r,hS⟩
 replace h:=iF h14 h
 refine sy rfl (sy rfl (sy rfl (wy rfl (k20 d2) (s_load ti3 (et (k20 d5)) ((m8 _ (le11 _ hS.a)).one d0) (dt (q20 p6)) (sy rfl (st (wnil (xl ?_))))))))
 exact ⟨_,_,rfl,(aK10 (aK7 (aO10 (aO1 (aI aZ))))),_,(decide ((24:Int)<p_2.Kind)),rfl,h,Le.r,hS⟩
 rintro _ t w2 ⟨μ2,b13,rfl,h,le15,hS⟩
 unfold syn_expr_j1 at h
 refine nrm (mK10 (mK7 (mO10 (mO1 (mi mz))))) (xn ?_)
 refine cifb (et (k20 d8)) (fun h16=>?_) (fun h16=>?_)
 replace h:=iT h16 h
 refine nz (st (nw (cret (xr ?_))))
 obtain rfl:=oI h
 refine ret1 rfl d6 ?_
 exact ⟨_,rfl,(le11.t le15),hS⟩
 replace h:=iF h16 h
 refine cskip (xn (nz ?_))
 iterate 3 refine st ?_
 refine ld ((m8 _ ((le11.t le15) _ hS.a)).one d0) ?_
 obtain ⟨r17,g18,h⟩:=bI h
 refine ca (syn_kids_w (hg.t (le11.t le15)) g18 hS) ?_
 rintro _ w3 ⟨μ3,rfl,le19,hS⟩
 refine po (st (ny (cblock (cseq (cseq ?_)))))
 refine ccutE (rg 35 19) (by decide) (fun m w=>∃ μx b20,m=(yK20 (yK10 (yK4 (.i (.bool b20)::(yO10 35 (yO9 45 []))))))∧syn_expr_j2 fu self p_2 p_3 r9 r17 b20=some r∧Le μ3 μx∧Sq μx w0 w (.blk b1 116 [.int .i64 r9.2]::rsF)) (by rintro _ _ ⟨_,_,rfl,_⟩; rfl) ?_ ?_
 refine creg ?_
 iterate 3 refine st ?_
 refine ld ((m8 _ ((le11.t (le15.t le19)) _ hS.a)).one d0) ?_
 iterate 2 refine st ?_
 refine wspd (k40 d0) (q40 p0) (q40 p0) (fun h21=>?_) (fun h21=>?_)
 replace h:=iT h21 h
 refine sy rfl (sy rfl (sy rfl (wy rfl (k40 d0) (s_load ti2 (et (k40 d3)) ((m8 _ ((le11.t (le15.t le19)) _ hS.a)).one d1) (dt (q40 p4)) (sy rfl (sy rfl ?_))))))
 refine wspd (k40 d6) (q40 p6) (q40 p6) (fun h22=>?_) (fun h22=>?_)
 replace h:=iT h22 h
 refine sn rfl rfl (sn rfl rfl (sn rfl rfl (sn rfl rfl (sn rfl rfl (sy rfl ?_)))))
 iterate 2 refine st ?_
 refine wnil (xl ?_)
 exact ⟨_,_,rfl,(aK20 (aK10 (aK4 (aI (aO10 (aO9 aZ)))))),_,true,rfl,h,Le.r,hS⟩
 replace h:=iF h22 h
 refine sy rfl (sy rfl (sy rfl (wy rfl (k40 d6) (s_load ti2 (et (k40 d9)) ((m8 _ ((le11.t (le15.t le19)) _ hS.a)).one d1) (dt (q50 p0)) (sy rfl (sy rfl ?_))))))
 iterate 2 refine st ?_
 refine wnil (xl ?_)
 exact ⟨_,_,rfl,(aK20 (aK10 (aK4 (aI (aO10 (aO9 aZ)))))),_,(decide ((999999999999999:Int)<p_2.N)),rfl,h,Le.r,hS⟩
 replace h:=iF h21 h
 refine sn rfl rfl (sn rfl rfl (sn rfl rfl (sn rfl rfl (sn rfl rfl (sn rfl rfl (wu rfl (k40 d6) (dt (q40 p7)) (wu rfl (k40 d6) (dt (q40 p8)) (wu rfl (k40 d6) (dt (q40 p9)) (wu rfl (k40 d6) (dt (q50 p0)) (wu rfl (k40 d6) (dt (q50 p1)) (sn rfl rfl ?_)))))))))))
 iterate 2 refine st ?_
 refine wnil (xl ?_)
 exact ⟨_,_,rfl,(aK20 (aK10 (aK4 (aI (aO10 (aO9 aZ)))))),_,false,rfl,h,Le.r,hS⟩
 rintro _ t w4 ⟨μ4,b20,rfl,h,le23,hS⟩
 unfold syn_expr_j2 at h
 refine nrm (mK20 (mK10 (mK4 (mi (mO10 (mO9 mz)))))) (xn ?_)
 refine ccutE (rg 54 19) (by decide) (fun m w=>∃ μx b24,m=(yK20 (yK10 (yK4 (.i (.bool b24)::(yK10 (yK9 (yO10 54 (yO9 64 []))))))))∧syn_expr_j3 fu self p_2 p_3 r9 r17 b24=some r∧Le μ4 μx∧Sq μx w0 w (.blk b1 116 [.int .i64 r9.2]::rsF)) (by rintro _ _ ⟨_,_,rfl,_⟩; rfl) ?_ ?_
 refine cifb (et (k30 d4)) (fun h25=>?_) (fun h25=>?_)
 replace h:=iT h25 h
 refine cskip (xl ?_)
 exact ⟨_,_,rfl,(aK20 (aK10 (aK4 (aI (aK10 (aK9 (aO10 (aO9 aZ)))))))),_,_,rfl,h,Le.r,hS⟩
 replace h:=iF h25 h
 refine creg ?_
 iterate 3 refine st ?_
 refine ld ((m8 _ ((le11.t (le15.t (le19.t le23))) _ hS.a)).one d0) ?_
 iterate 2 refine st ?_
 refine wspd (k50 d9) (q50 p9) (q50 p9) (fun h26=>?_) (fun h26=>?_)
 replace h:=iT h26 h
 refine sy rfl (sy rfl (sy rfl (wy rfl (k50 d9) (s_load ti2 (et (k60 d2)) ((m8 _ ((le11.t (le15.t (le19.t le23))) _ hS.a)).one d1) (dt (q60 p3)) (sy rfl ?_)))))
 iterate 2 refine st ?_
 refine wspd (k60 d6) (q60 p6) (q60 p6) (fun h27=>?_) (fun h27=>?_)
 replace h:=iT h27 h
 refine sy rfl (sy rfl (sy rfl (wy rfl (k60 d6) (s_load ti2 (et (k60 d9)) ((m8 _ ((le11.t (le15.t (le19.t le23))) _ hS.a)).one d1) (dt (q70 p0)) (sy rfl ?_)))))
 iterate 2 refine st ?_
 refine wnil (xl ?_)
 exact ⟨_,_,rfl,(aK20 (aK10 (aK4 (aI (aK10 (aK9 (aO10 (aO9 aZ)))))))),_,(decide (p_2.N≠1)),rfl,h,Le.r,hS⟩
 replace h:=iF h27 h
 refine sn rfl rfl (sn rfl rfl (sn rfl rfl (sn rfl rfl (sn rfl rfl ?_))))
 iterate 2 refine st ?_
 refine wnil (xl ?_)
 exact ⟨_,_,rfl,(aK20 (aK10 (aK4 (aI (aK10 (aK9 (aO10 (aO9 aZ)))))))),_,false,rfl,h,Le.r,hS⟩
 replace h:=iF h26 h
 refine sn rfl rfl (sn rfl rfl (sn rfl rfl (sn rfl rfl (sn rfl rfl ?_))))
 iterate 2 refine st ?_
 refine sn rfl rfl (sn rfl rfl (sn rfl rfl (sn rfl rfl (sn rfl rfl ?_))))
 iterate 2 refine st ?_
 refine wnil (xl ?_)
 exact ⟨_,_,rfl,(aK20 (aK10 (aK4 (aI (aK10 (aK9 (aO10 (aO9 aZ)))))))),_,false,rfl,h,Le.r,hS⟩
 rintro _ t w5 ⟨μ5,b24,rfl,h,le28,hS⟩
 unfold syn_expr_j3 at h
 refine nrm (mK20 (mK10 (mK4 (mi (mK10 (mK9 (mO10 (mO9 mz)))))))) (xn ?_)
 refine cifb (et (k30 d4)) (fun h29=>?_) (fun h29=>?_)
 replace h:=iT h29 h
 refine nz (st (nw (cret ?_)))
 refine (fun h=>br (xr h)) ?_
 obtain rfl:=oI h
 refine ret1 rfl d6 ?_
 exact ⟨_,rfl,(le11.t (le15.t (le19.t (le23.t le28)))),hS⟩
 replace h:=iF h29 h
 refine cseq ?_
 refine ccutE (rg 74 24) (by decide +kernel) (fun m w=>∃ μx b30,m=(yK50 (yK20 (yK3 (.i (.bool b30)::(yO20 74 (yO4 94 []))))))∧syn_expr_j4 self p_2 p_3 r9 r17 b30=some r∧Le μ5 μx∧Sq μx w0 w (.blk b1 116 [.int .i64 r9.2]::rsF)) (by rintro _ _ ⟨_,_,rfl,_⟩; rfl) ?_ ?_
 refine creg ?_
 iterate 3 refine st ?_
 refine ld ((m8 _ ((le11.t (le15.t (le19.t (le23.t le28)))) _ hS.a)).one d0) ?_
 iterate 2 refine st ?_
 refine wspd (k70 d9) (q70 p9) (q70 p9) (fun h31=>?_) (fun h31=>?_)
 replace h:=iT h31 h
 refine sn rfl rfl (sn rfl rfl (sn rfl rfl (sn rfl rfl (sn rfl rfl ?_))))
 iterate 2 refine st ?_
 refine sn rfl rfl (sn rfl rfl ?_)
 iterate 2 refine st ?_
 refine sy rfl (sy rfl (sy rfl (wy rfl (k90 d0) (s_load ti9 (et (k90 d3)) ((m8 _ ((le11.t (le15.t (le19.t (le23.t le28)))) _ hS.a)).one d2) (dt (q90 p4)) ?_))))
 obtain ⟨r32,g33,h⟩:=bI h
 refine wy rfl (k90 d0) (s_callv isfn94 ef (e1 (et (k90 d4)) e0) (lex_named_w (hg.t (le11.t (le15.t (le19.t (le23.t le28))))) g33 hS) ?_)
 rintro _ w6 ⟨μ6,rfl,le34,hS⟩
 refine po (sy rfl ?_)
 iterate 2 refine st ?_
 refine wnil (xl ?_)
 exact ⟨_,_,rfl,(aK50 (aK20 (aK3 (aI (aO20 (aO4 aZ)))))),_,(!r32),rfl,h,le34,hS⟩
 replace h:=iF h31 h
 refine sy rfl (sy rfl (sy rfl (wy rfl (k70 d9) (s_load ti3 (et (k80 d2)) ((m8 _ ((le11.t (le15.t (le19.t (le23.t le28)))) _ hS.a)).one d0) (dt (q80 p3)) (sy rfl ?_)))))
 iterate 2 refine st ?_
 refine wspd (k80 d6) (q80 p6) (q80 p6) (fun h35=>?_) (fun h35=>?_)
 replace h:=iT h35 h
 refine sn rfl rfl (sn rfl rfl ?_)
 iterate 2 refine st ?_
 refine sy rfl (sy rfl (sy rfl (wy rfl (k90 d0) (s_load ti9 (et (k90 d3)) ((m8 _ ((le11.t (le15.t (le19.t (le23.t le28)))) _ hS.a)).one d2) (dt (q90 p4)) ?_))))
 obtain ⟨r36,g37,h⟩:=bI h
 refine wy rfl (k90 d0) (s_callv isfn94 ef (e1 (et (k90 d4)) e0) (lex_named_w (hg.t (le11.t (le15.t (le19.t (le23.t le28))))) g37 hS) ?_)
 rintro _ w7 ⟨μ7,rfl,le38,hS⟩
 refine po (sy rfl ?_)
 iterate 2 refine st ?_
 refine wnil (xl ?_)
 exact ⟨_,_,rfl,(aK50 (aK20 (aK3 (aI (aO20 (aO4 aZ)))))),_,(!r36),rfl,h,le38,hS⟩
 replace h:=iF h35 h
 refine sy rfl (sy rfl ?_)
 iterate 2 refine st ?_
 refine wspd (k90 d0) (q90 p0) (q90 p0) (fun h39=>?_) (fun h39=>?_)
 replace h:=iT h39 h
 refine sy rfl (sy rfl (sy rfl (wy rfl (k90 d0) (s_load ti9 (et (k90 d3)) ((m8 _ ((le11.t (le15.t (le19.t (le23.t le28)))) _ hS.a)).one d2) (dt (q90 p4)) ?_))))
 obtain ⟨r40,g41,h⟩:=bI h
 refine wy rfl (k90 d0) (s_callv isfn94 ef (e1 (et (k90 d4)) e0) (lex_named_w (hg.t (le11.t (le15.t (le19.t (le23.t le28))))) g41 hS) ?_)
 rintro _ w8 ⟨μ8,rfl,le42,hS⟩
 refine po (sy rfl ?_)
 iterate 2 refine st ?_
 refine wnil (xl ?_)
 exact ⟨_,_,rfl,(aK50 (aK20 (aK3 (aI (aO20 (aO4 aZ)))))),_,(!r40),rfl,h,le42,hS⟩
 replace h:=iF h39 h
 refine sn rfl rfl (sn rfl rfl (sn rfl rfl (sn rfl rfl (sn rfl rfl (sn rfl rfl ?_)))))
 iterate 2 refine st ?_
 refine wnil (xl ?_)
 exact ⟨_,_,rfl,(aK50 (aK20 (aK3 (aI (aO20 (aO4 aZ)))))),_,false,rfl,h,Le.r,hS⟩
 rintro _ t w9 ⟨μ9,b30,rfl,h,le43,hS⟩
 unfold syn_expr_j4 at h
 refine nrm (mK50 (mK20 (mK3 (mi (mO20 (mO4 mz)))))) (xn ?_)
 refine cifb (et (k70 d3)) (fun h44=>?_) (fun h44=>?_)
 replace h:=iT h44 h
 refine nz (st (nw (cret ?_)))
 refine (fun h=>br (xr h)) ?_
 obtain rfl:=oI h
 refine ret1 rfl d6 ?_
 exact ⟨_,rfl,(le11.t (le15.t (le19.t (le23.t (le28.t le43))))),hS⟩
 replace h:=iF h44 h
 refine cseq (cseq ?_)
 refine ccutE (rg 99 11) (by decide) (fun m w=>∃ μx b45,m=(yK50 (yK20 (yK20 (yK8 (.i (.bool b45)::(yO10 99 (yO1 109 [])))))))∧syn_expr_j5 self p_2 p_3 r9 r17 b45=some r∧Le μ9 μx∧Sq μx w0 w (.blk b1 116 [.int .i64 r9.2]::rsF)) (by rintro _ _ ⟨_,_,rfl,_⟩; rfl) ?_ ?_
 refine creg ?_
 iterate 3 refine st ?_
 refine wspd (k100 d1) (q100 p1) (q100 p1) (fun h46=>?_) (fun h46=>?_)
 replace h:=iT h46 h
 refine sy rfl (sy rfl (sy rfl (wy rfl (k100 d1) (s_load ti109 (et (k100 d4)) ((m8 _ ((le11.t (le15.t (le19.t (le23.t (le28.t le43))))) _ hS.a)).one d3) (dt (q100 p5)) (wy rfl (k100 d1) (su (u_lensl underlying109 (et (k100 d5))) (dt (q100 p6)) (sy rfl (sy rfl ?_))))))))
 iterate 2 refine st ?_
 refine wnil (xl ?_)
 exact ⟨_,_,rfl,(aK50 (aK20 (aK20 (aK8 (aI (aO10 (aO1 aZ))))))),_,(decide ((p_2.Kids.length:Int)≠r17)),rfl,h,Le.r,hS⟩
 replace h:=iF h46 h
 refine sn rfl rfl (sn rfl rfl (sn rfl rfl (sn rfl rfl (sn rfl rfl (sn rfl rfl (sn rfl rfl ?_))))))
 iterate 2 refine st ?_
 refine wnil (xl ?_)
 exact ⟨_,_,rfl,(aK50 (aK20 (aK20 (aK8 (aI (aO10 (aO1 aZ))))))),_,false,rfl,h,Le.r,hS⟩
 rintro _ t w10 ⟨μ10,b45,rfl,h,le47,hS⟩
 unfold syn_expr_j5 at h
 refine nrm (mK50 (mK20 (mK20 (mK8 (mi (mO10 (mO1 mz))))))) (xn ?_)
 refine ccutE (rg 110 10) (by decide) (fun m w=>∃ μx b48,m=(yK50 (yK20 (yK20 (yK8 (.i (.bool b48)::(yK10 (yK1 (yO10 110 []))))))))∧syn_expr_j6 self p_2 p_3 r9 b48=some r∧Le μ10 μx∧Sq μx w0 w (.blk b1 116 [.int .i64 r9.2]::rsF)) (by rintro _ _ ⟨_,_,rfl,_⟩; rfl) ?_ ?_
 refine cifb (et (k90 d8)) (fun h49=>?_) (fun h49=>?_)
 replace h:=iT h49 h
 refine cskip (xl ?_)
 exact ⟨_,_,rfl,(aK50 (aK20 (aK20 (aK8 (aI (aK10 (aK1 (aO10 aZ)))))))),_,_,rfl,h,Le.r,hS⟩
 replace h:=iF h49 h
 refine creg ?_
 iterate 3 refine st ?_
 refine wspd (k100 (k10 d2)) (q100 (q10 p2)) (q100 (q10 p2)) (fun h50=>?_) (fun h50=>?_)
 replace h:=iT h50 h
 refine sy rfl (sy rfl (sy rfl (wy rfl (k100 (k10 d2)) (s_load ti109 (et (k100 (k10 d5))) ((m8 _ ((le11.t (le15.t (le19.t (le23.t (le28.t (le43.t le47)))))) _ hS.a)).one d3) (dt (q100 (q10 p6))) (wy rfl (k100 (k10 d2)) (su (u_lensl underlying109 (et (k100 (k10 d6)))) (dt (q100 (q10 p7))) (sy rfl ?_)))))))
 iterate 2 refine st ?_
 refine wnil (xl ?_)
 exact ⟨_,_,rfl,(aK50 (aK20 (aK20 (aK8 (aI (aK10 (aK1 (aO10 aZ)))))))),_,(decide ((6:Int)<(p_2.Kids.length:Int))),rfl,h,Le.r,hS⟩
 replace h:=iF h50 h
 refine sn rfl rfl (sn rfl rfl (sn rfl rfl (sn rfl rfl (sn rfl rfl (sn rfl rfl ?_)))))
 iterate 2 refine st ?_
 refine wnil (xl ?_)
 exact ⟨_,_,rfl,(aK50 (aK20 (aK20 (aK8 (aI (aK10 (aK1 (aO10 aZ)))))))),_,false,rfl,h,Le.r,hS⟩
 rintro _ t w11 ⟨μ11,b48,rfl,h,le51,hS⟩
 unfold syn_expr_j6 at h
 refine nrm (mK50 (mK20 (mK20 (mK8 (mi (mK10 (mK1 (mO10 mz)))))))) (xn ?_)
 refine cifb (et (k90 d8)) (fun h52=>?_) (fun h52=>?_)
 replace h:=iT h52 h
 refine nz (st (nw (cret ?_)))
 refine (fun h=>br (xr h)) ?_
 obtain rfl:=oI h
 refine ret1 rfl d6 ?_
 exact ⟨_,rfl,(le11.t (le15.t (le19.t (le23.t (le28.t (le43.t (le47.t le51))))))),hS⟩
 replace h:=iF h52 h
 refine cskip ?_
 refine (fun h=>bn (xn h)) ?_
 refine cseq (nz ?_)
 iterate 3 refine st ?_
 refine ld ((m8 _ ((le11.t (le15.t (le19.t (le23.t (le28.t (le43.t (le47.t le51))))))) _ hS.a)).one d3) (wl (su (u_lensl underlying109 (et (k100 (k20 d3)))) (dt (q100 (q20 p4))) (st (nw (cblock ?_)))))
 refine cloopE ([6]++rg 9 2++rg 126 16) (by decide) (fun n m w=>∃ μx i72 i73,m=(yK6 (yO1 6 (yK2 (yO2 9 (yK50 (yK50 (yK10 (yK4 (.i (.int .i64 i72)::(yO10 126 (yO6 136 [])))))))))))∧syn_expr_l1 self p_2 p_3 n i72 i73=some r∧Le μ11 μx∧Sq μx w0 w (.blk b1 116 [.int .i64 i73]::rsF)) (by rintro _ _ _ ⟨_,_,_,rfl,_⟩; rfl) _ _ (aK6 (aO1 (aK2 (aO2 (aK50 (aK50 (aK10 (aK4 (aI (aO10 (aO6 aZ))))))))))) ⟨_,0,r9.2,rfl,h,Le.r,hS⟩ ?_
 rintro n_1 _ t w12 ⟨μ12,i72,i73,rfl,h,le92,hS⟩
 rcases n_1 with _|n_1
 cases h
 unfold syn_expr_l1 at h
 refine cnrm (mK6 (mO1 (mK2 (mO2 (mK50 (mK50 (mK10 (mK4 (mi (mO10 (mO6 mz))))))))))) (nz (st (ny ?_)))
 refine cifd (et (k100 (k20 d6))) (fun h93=>?_) (fun h93=>?_)
 replace h:=iT h93 h
 refine cskip (xn (cseq (cblock (nz ?_))))
 iterate 2 refine st ?_
 refine nx ?_
 iterate 4 refine st ?_
 refine ld ((m8 _ ((le11.t (le15.t (le19.t (le23.t (le28.t (le43.t (le47.t (le51.t le92)))))))) _ hS.a)).one d3) (st ?_)
 obtain ⟨x94,g95,h⟩:=bI h
 obtain ⟨b96,o97,cs98,e99,f100,m101⟩:=SlR.elem (m7.up (le11.t (le15.t (le19.t (le23.t (le28.t (le43.t (le47.t (le51.t le92))))))))) g95
 obtain ⟨a102,c103,rfl,m104⟩:=TExpr.o m101
 refine wl (su (u_iax underlying109 ti111 (et (k100 (k30 d2))) (et (k100 (k30 d3))) e99) (dt (q100 (q30 p4))) (st ?_))
 obtain ⟨i105,g106,h⟩:=bI h
 refine wl (su (u_addc (et (k100 (k30 d5))) ec g106) (dt (q100 (q30 p6))) ?_)
 obtain ⟨r107,g108,h⟩:=bI h
 refine ca (IH.syn_expr (hg.t (le11.t (le15.t (le19.t (le23.t (le28.t (le43.t (le47.t (le51.t le92))))))))) m104 f100 g108 hS) ?_
 rintro _ w13 ⟨μ13,rfl,le109,hS⟩
 refine po (st (nx ?_))
 iterate 2 refine st ?_
 refine nw ?_
 refine cifd (et (k100 (k30 d9))) (fun h110=>?_) (fun h110=>?_)
 replace h:=iT h110 h
 refine nz ?_
 iterate 2 refine st ?_
 refine nw (cret ?_)
 refine (fun h=>br (xr (xr (br (xr h))))) ?_
 obtain rfl:=oI h
 refine ret1 rfl d6 ?_
 exact ⟨_,rfl,(le11.t (le15.t (le19.t (le23.t (le28.t (le43.t (le47.t (le51.t (le92.t le109))))))))),hS⟩
 replace h:=iF h110 h
 refine cskip ?_
 refine (fun h=>bn (xn h)) ?_
 refine creg ?_
 obtain ⟨i111,g112,h⟩:=bI h
 refine wl (su (u_addc (et (k100 (k20 d5))) ec g112) (dt (q100 (q40 p1))) (st (wnil (xl ?_))))
 exact ⟨n_1,_,_,rfl,(aK6 (aO1 (aK2 (aO2 (aK50 (aK50 (aK10 (aK4 (aI (aO10 (aO6 aZ))))))))))),⟨_,i111,r107.2,rfl,h,(le92.t le109),hS⟩,Nat.lt_succ_self _⟩
 replace h:=iF h93 h
 refine cexit ?_
 refine (fun h=>xe (xe (bh h))) ?_
 refine xn (nz (st (nw (cret ?_))))
 obtain rfl:=oI h
 refine ret1 rfl d6 ?_
 exact ⟨_,rfl,(le11.t (le15.t (le19.t (le23.t (le28.t (le43.t (le47.t (le51.t le92)))))))),hS⟩
theorem SynExpr_sound:∀ n,SynExprSound (SynExpr_run n)
  | 0=>⟨(by intros; rename_i h _; cases h)⟩
  | n+1=>⟨syn_expr_w (SynExpr_sound n)⟩
structure SynStatSound (sf:SynStat):Prop where
  syn_stats:∀ {μ0:M} {w0 w:World} {rsF:List Res} (hg:Le Gm μ0) {b1:Nat} {node_2:Int} {p_2:List TStat} {a3:Option Addr} {c4:Nat} {p_3:Int} {r:Int×Int} (m5:Sl μ0 a3 c4 p_2) (h:sf.syn_stats node_2 p_2 p_3=some r) (hS:Sq μ0 w0 w (.blk b1 116 [.int .i64 node_2]::rsF)),CallsV prog 96 [.pointer (some ⟨b1,0,none⟩),.slice a3 p_2.length c4,.int .i64 p_3] w (fun v w'=>∃ (μ':M) ,v=.int .i64 r.1∧Le μ0 μ'∧Sq μ' w0 w' (.blk b1 116 [.int .i64 r.2]::rsF))
  syn_stat:∀ {μ0:M} {w0 w:World} {rsF:List Res} (hg:Le Gm μ0) {b1:Nat} {node_2:Int} {p_2:TStat} {b3 o4:Nat} {a5:Option Addr} {c6:Nat} {a8:Option Addr} {c9:Nat} {a11:Option Addr} {c12:Nat} {p_3:Int} {r:Int×Int} (m7:Sl μ0 a5 c6 p_2.X.Kids) (m10:Sl μ0 a8 c9 p_2.Body) (m13:Sl μ0 a11 c12 p_2.Else) (m14:At μ0 b3 o4 [.int .i64 p_2.Kind,S p_2.Name,.int .i64 p_2.X.Kind,.int .i64 p_2.X.N,S p_2.X.Name,.slice a5 p_2.X.Kids.length c6,.slice a8 p_2.Body.length c9,.slice a11 p_2.Else.length c12]) (h:sf.syn_stat node_2 p_2 p_3=some r) (hS:Sq μ0 w0 w (.blk b1 116 [.int .i64 node_2]::rsF)),CallsV prog 136 [.pointer (some ⟨b1,0,none⟩),.pointer (some ⟨b3,o4,none⟩),.int .i64 p_3] w (fun v w'=>∃ (μ':M) ,v=.int .i64 r.1∧Le μ0 μ'∧Sq μ' w0 w' (.blk b1 116 [.int .i64 r.2]::rsF))
theorem syn_stats_w {self:SynStat} (IH:SynStatSound self) {μ0:M} {w0 w:World} {rsF:List Res} (hg:Le Gm μ0) {b1:Nat} {node_2:Int} {p_2:List TStat} {a3:Option Addr} {c4:Nat} {p_3:Int} {r:Int×Int} (m5:Sl μ0 a3 c4 p_2) (h:syn_stats self node_2 p_2 p_3=some r) (hS:Sq μ0 w0 w (.blk b1 116 [.int .i64 node_2]::rsF)):CallsV prog 96 [.pointer (some ⟨b1,0,none⟩),.slice a3 p_2.length c4,.int .i64 p_3] w (fun v w'=>∃ (μ':M) ,v=.int .i64 r.1∧Le μ0 μ'∧Sq μ' w0 w' (.blk b1 116 [.int .i64 r.2]::rsF)):=by
 unfold syn_stats at h
 refine enter func96 rfl (frm:=_::_::_::u2 (u2 (u20 []))) rfl (nz (st (ny (nz (st (wl (su (u_lensl underlying64 (et d9)) (dt (q10 p0)) (st (nw ?_)))))))))
 refine cifd (et (k10 d1)) (fun h6=>?_) (fun h6=>?_)
 replace h:=iT h6 h
 refine nz (st (nw (cret (xr ?_))))
 obtain rfl:=oI h
 refine ret1 rfl d6 ?_
 exact ⟨_,rfl,Le.r,hS⟩
 replace h:=iF h6 h
 refine cskip (xn (cseq (nz (st (wl (su (u_lensl underlying64 (et (k10 d2))) (dt (q10 p3)) (st (nw (cblock ?_)))))))))
 refine cloopE (rg 6 3++rg 15 12) (by decide) (fun n m w=>∃ μx i29 i30,m=(yK6 (yO3 6 (yK5 (.i (.int .i64 i29)::(yO10 15 (yO2 25 []))))))∧syn_stats_l1 self p_2 p_3 n i29 i30=some r∧Le μ0 μx∧Sq μx w0 w (.blk b1 116 [.int .i64 i30]::rsF)) (by rintro _ _ _ ⟨_,_,_,rfl,_⟩; rfl) _ _ (aK6 (aO3 (aK5 (aI (aO10 (aO2 aZ)))))) ⟨_,0,node_2,rfl,h,Le.r,hS⟩ ?_
 rintro n_1 _ t w1 ⟨μ1,i29,i30,rfl,h,le53,hS⟩
 rcases n_1 with _|n_1
 cases h
 unfold syn_stats_l1 at h
 refine cnrm (mK6 (mO3 (mK5 (mi (mO10 (mO2 mz)))))) (nz (st (ny ?_)))
 refine cifd (et (k10 d5)) (fun h54=>?_) (fun h54=>?_)
 replace h:=iT h54 h
 refine cskip (xn (cseq (cblock (nz ?_))))
 iterate 2 refine st ?_
 refine nx ?_
 iterate 3 refine st ?_
 obtain ⟨x55,g56,h⟩:=bI h
 obtain ⟨b57,o58,cs59,e60,f61,m62⟩:=SlR.elem (m5.up le53) g56
 obtain ⟨a63,c64,a66,c67,a69,c70,rfl,m65,m68,m71⟩:=TStat.o m62
 refine wl (su (u_iax underlying64 ti113 (et (k10 d8)) (et (k10 d9)) e60) (dt (q20 p0)) (st ?_))
 obtain ⟨r72,g73,h⟩:=bI h
 refine ca (IH.syn_stat (hg.t le53) m65 m68 m71 f61 g73 hS) ?_
 rintro _ w2 ⟨μ2,rfl,le74,hS⟩
 refine po (st (nx ?_))
 iterate 2 refine st ?_
 refine nw ?_
 refine cifd (et (k20 d4)) (fun h75=>?_) (fun h75=>?_)
 replace h:=iT h75 h
 refine nz ?_
 iterate 2 refine st ?_
 refine nw (cret ?_)
 refine (fun h=>br (xr (xr (br (xr h))))) ?_
 obtain rfl:=oI h
 refine ret1 rfl d6 ?_
 exact ⟨_,rfl,(le53.t le74),hS⟩
 replace h:=iF h75 h
 refine cskip ?_
 refine (fun h=>bn (xn h)) ?_
 refine creg ?_
 obtain ⟨i76,g77,h⟩:=bI h
 refine wl (su (u_addc (et (k10 d4)) ec g77) (dt (q20 p6)) (st (wnil (xl ?_))))
 exact ⟨n_1,_,_,rfl,(aK6 (aO3 (aK5 (aI (aO10 (aO2 aZ)))))),⟨_,i76,r72.2,rfl,h,(le53.t le74),hS⟩,Nat.lt_succ_self _⟩
 replace h:=iF h54 h
 refine cexit ?_
 refine (fun h=>xe (xe (bh h))) ?_
 refine xn (nz (st (nw (cret ?_))))
 obtain rfl:=oI h
 refine ret1 rfl d6 ?_
 exact ⟨_,rfl,le53,hS⟩
theorem syn_stat_w {self:SynStat} (IH:SynStatSound self) {fu:Nat} {μ0:M} {w0 w:World} {rsF:List Res} (hg:Le Gm μ0) {b1:Nat} {node_2:Int} {p_2:TStat} {b3 o4:Nat} {a5:Option Addr} {c6:Nat} {a8:Option Addr} {c9:Nat} {a11:Option Addr} {c12:Nat} {p_3:Int} {r:Int×Int} (m7:Sl μ0 a5 c6 p_2.X.Kids) (m10:Sl μ0 a8 c9 p_2.Body) (m13:Sl μ0 a11 c12 p_2.Else) (m14:At μ0 b3 o4 [.int .i64 p_2.Kind,S p_2.Name,.int .i64 p_2.X.Kind,.int .i64 p_2.X.N,S p_2.X.Name,.slice a5 p_2.X.Kids.length c6,.slice a8 p_2.Body.length c9,.slice a11 p_2.Else.length c12]) (h:syn_stat fu self node_2 p_2 p_3=some r) (hS:Sq μ0 w0 w (.blk b1 116 [.int .i64 node_2]::rsF)):CallsV prog 136 [.pointer (some ⟨b1,0,none⟩),.pointer (some ⟨b3,o4,none⟩),.int .i64 p_3] w (fun v w'=>∃ (μ':M) ,v=.int .i64 r.1∧Le μ0 μ'∧Sq μ' w0 w' (.blk b1 116 [.int .i64 r.2]::rsF)):=by
 unfold syn_stat at h
 refine enter func136 rfl (frm:=_::_::_::u1 (u5 (u50 (u50 [])))) rfl (nz (st (ny (nz ?_))))
 iterate 2 refine st ?_
 obtain ⟨r15,g16,h⟩:=bI h
 refine ca (syn_node_w hg g16 hS) ?_
 rintro _ w1 ⟨μ1,rfl,le17,hS⟩
 refine po (st (nx ?_))
 iterate 2 refine st ?_
 refine nw ?_
 refine cifd (et (k10 d4)) (fun h18=>?_) (fun h18=>?_)
 replace h:=iT h18 h
 refine nz ?_
 iterate 2 refine st ?_
 refine nw (cret (xr ?_))
 obtain rfl:=oI h
 refine ret1 rfl d6 ?_
 exact ⟨_,rfl,le17,hS⟩
 replace h:=iF h18 h
 refine cskip (xn (cseq (cblock (cseq ?_))))
 refine ccutE (rg 17 12) (by decide) (fun m w=>∃ μx b19,m=(yK10 (yK6 (.i (.bool b19)::(yO10 17 (yO2 27 [])))))∧syn_stat_j1 fu self p_2 p_3 r15 b19=some r∧Le μ1 μx∧Sq μx w0 w (.blk b1 116 [.int .i64 r15.2]::rsF)) (by rintro _ _ ⟨_,_,rfl,_⟩; rfl) ?_ ?_
 refine creg ?_
 iterate 3 refine st ?_
 refine ld ((m14 _ (le17 _ hS.a)).one d0) ?_
 iterate 2 refine st ?_
 refine wspd (k20 d2) (q20 p2) (q20 p2) (fun h20=>?_) (fun h20=>?_)
 replace h:=iT h20 h
 refine sn rfl rfl (sn rfl rfl (sn rfl rfl (sn rfl rfl (sn rfl rfl ?_))))
 iterate 2 refine st ?_
 refine wnil (xl ?_)
 exact ⟨_,_,rfl,(aK10 (aK6 (aI (aO10 (aO2 aZ))))),_,true,rfl,h,Le.r,hS⟩
 replace h:=iF h20 h
 refine sy rfl (sy rfl (sy rfl (wy rfl (k20 d2) (s_load ti3 (et (k20 d5)) ((m14 _ (le17 _ hS.a)).one d0) (dt (q20 p6)) (sy rfl ?_)))))
 iterate 2 refine st ?_
 refine wnil (xl ?_)
 exact ⟨_,_,rfl,(aK10 (aK6 (aI (aO10 (aO2 aZ))))),_,(decide ((9:Int)<p_2.Kind)),rfl,h,Le.r,hS⟩
 rintro _ t w2 ⟨μ2,b19,rfl,h,le21,hS⟩
 unfold syn_stat_j1 at h
 refine nrm (mK10 (mK6 (mi (mO10 (mO2 mz))))) (xn ?_)
 refine cifb (et (k10 d6)) (fun h22=>?_) (fun h22=>?_)
 replace h:=iT h22 h
 refine nz (st (nw (cret ?_)))
 refine (fun h=>br (xr h)) ?_
 obtain rfl:=oI h
 refine ret1 rfl d6 ?_
 exact ⟨_,rfl,(le17.t le21),hS⟩
 replace h:=iF h22 h
 refine cseq ?_
 refine ccutE (rg 30 27) (by decide +kernel) (fun m w=>∃ μx b23,m=(yK20 (yK9 (.i (.bool b23)::(yO20 30 (yO7 50 [])))))∧syn_stat_j2 fu self p_2 p_3 r15 b23=some r∧Le μ2 μx∧Sq μx w0 w (.blk b1 116 [.int .i64 r15.2]::rsF)) (by rintro _ _ ⟨_,_,rfl,_⟩; rfl) ?_ ?_
 refine creg ?_
 iterate 3 refine st ?_
 refine ld ((m14 _ ((le17.t le21) _ hS.a)).one d0) ?_
 iterate 2 refine st ?_
 refine wspd (k30 d5) (q30 p5) (q30 p5) (fun h24=>?_) (fun h24=>?_)
 replace h:=iT h24 h
 refine sn rfl rfl (sn rfl rfl (sn rfl rfl (sn rfl rfl (sn rfl rfl ?_))))
 iterate 2 refine st ?_
 refine sn rfl rfl (sn rfl rfl (sn rfl rfl (sn rfl rfl (sn rfl rfl ?_))))
 iterate 2 refine st ?_
 refine sy rfl (sy rfl (sy rfl (wy rfl (k40 d9) (s_load ti9 (et (k50 d2)) ((m14 _ ((le17.t le21) _ hS.a)).one d1) (dt (q50 p3)) ?_))))
 obtain ⟨r25,g26,h⟩:=bI h
 refine wy rfl (k40 d9) (s_callv isfn94 ef (e1 (et (k50 d3)) e0) (lex_named_w (hg.t (le17.t le21)) g26 hS) ?_)
 rintro _ w3 ⟨μ3,rfl,le27,hS⟩
 refine po (sy rfl ?_)
 iterate 2 refine st ?_
 refine wnil (xl ?_)
 exact ⟨_,_,rfl,(aK20 (aK9 (aI (aO20 (aO7 aZ))))),_,(!r25),rfl,h,le27,hS⟩
 replace h:=iF h24 h
 refine sy rfl (sy rfl (sy rfl (wy rfl (k30 d5) (s_load ti3 (et (k30 d8)) ((m14 _ ((le17.t le21) _ hS.a)).one d0) (dt (q30 p9)) (sy rfl ?_)))))
 iterate 2 refine st ?_
 refine wspd (k40 d2) (q40 p2) (q40 p2) (fun h28=>?_) (fun h28=>?_)
 replace h:=iT h28 h
 refine sn rfl rfl (sn rfl rfl (sn rfl rfl (sn rfl rfl (sn rfl rfl ?_))))
 iterate 2 refine st ?_
 refine sy rfl (sy rfl (sy rfl (wy rfl (k40 d9) (s_load ti9 (et (k50 d2)) ((m14 _ ((le17.t le21) _ hS.a)).one d1) (dt (q50 p3)) ?_))))
 obtain ⟨r29,g30,h⟩:=bI h
 refine wy rfl (k40 d9) (s_callv isfn94 ef (e1 (et (k50 d3)) e0) (lex_named_w (hg.t (le17.t le21)) g30 hS) ?_)
 rintro _ w4 ⟨μ4,rfl,le31,hS⟩
 refine po (sy rfl ?_)
 iterate 2 refine st ?_
 refine wnil (xl ?_)
 exact ⟨_,_,rfl,(aK20 (aK9 (aI (aO20 (aO7 aZ))))),_,(!r29),rfl,h,le31,hS⟩
 replace h:=iF h28 h
 refine sy rfl (sy rfl (sy rfl (wy rfl (k40 d2) (s_load ti3 (et (k40 d5)) ((m14 _ ((le17.t le21) _ hS.a)).one d0) (dt (q40 p6)) (sy rfl ?_)))))
 iterate 2 refine st ?_
 refine wspd (k40 d9) (q40 p9) (q40 p9) (fun h32=>?_) (fun h32=>?_)
 replace h:=iT h32 h
 refine sy rfl (sy rfl (sy rfl (wy rfl (k40 d9) (s_load ti9 (et (k50 d2)) ((m14 _ ((le17.t le21) _ hS.a)).one d1) (dt (q50 p3)) ?_))))
 obtain ⟨r33,g34,h⟩:=bI h
 refine wy rfl (k40 d9) (s_callv isfn94 ef (e1 (et (k50 d3)) e0) (lex_named_w (hg.t (le17.t le21)) g34 hS) ?_)
 rintro _ w5 ⟨μ5,rfl,le35,hS⟩
 refine po (sy rfl ?_)
 iterate 2 refine st ?_
 refine wnil (xl ?_)
 exact ⟨_,_,rfl,(aK20 (aK9 (aI (aO20 (aO7 aZ))))),_,(!r33),rfl,h,le35,hS⟩
 replace h:=iF h32 h
 refine sn rfl rfl (sn rfl rfl (sn rfl rfl (sn rfl rfl (sn rfl rfl (sn rfl rfl ?_)))))
 iterate 2 refine st ?_
 refine wnil (xl ?_)
 exact ⟨_,_,rfl,(aK20 (aK9 (aI (aO20 (aO7 aZ))))),_,false,rfl,h,Le.r,hS⟩
 rintro _ t w6 ⟨μ6,b23,rfl,h,le36,hS⟩
 unfold syn_stat_j2 at h
 refine nrm (mK20 (mK9 (mi (mO20 (mO7 mz))))) (xn ?_)
 refine cifb (et (k20 d9)) (fun h37=>?_) (fun h37=>?_)
 replace h:=iT h37 h
 refine nz (st (nw (cret ?_)))
 refine (fun h=>br (xr h)) ?_
 obtain rfl:=oI h
 refine ret1 rfl d6 ?_
 exact ⟨_,rfl,(le17.t (le21.t le36)),hS⟩
 replace h:=iF h37 h
 refine nz ?_
 iterate 3 refine st ?_
 refine ld ((m14 _ ((le17.t (le21.t le36)) _ hS.a)).one d0) ?_
 iterate 2 refine st ?_
 refine nw ?_
 refine cifd (et (k50 d7)) (fun h38=>?_) (fun h38=>?_)
 replace h:=iT h38 h
 refine nz (st (nw (cret ?_)))
 refine (fun h=>br (xr h)) ?_
 obtain rfl:=oI h
 refine ret1 rfl d6 ?_
 exact ⟨_,rfl,(le17.t (le21.t le36)),hS⟩
 replace h:=iF h38 h
 refine cskip ?_
 refine (fun h=>bn (xn h)) ?_
 refine cseq (nz ?_)
 iterate 5 refine st ?_
 obtain ⟨i39,g40,h⟩:=bI h
 refine wl (su (u_addc (et (k60 d7)) ec g40) (dt (q60 p8)) ?_)
 obtain ⟨r41,g42,h⟩:=bI h
 refine ca ((SynExpr_sound fu).syn_expr (hg.t (le17.t (le21.t le36))) (m7.up (le17.t (le21.t le36))) ((m14.up (le17.t (le21.t le36))).sb 2 4) g42 hS) ?_
 rintro _ w7 ⟨μ7,rfl,le43,hS⟩
 refine po (st (nx ?_))
 iterate 2 refine st ?_
 refine nw ?_
 refine cifd (et (k70 d1)) (fun h44=>?_) (fun h44=>?_)
 replace h:=iT h44 h
 refine nz ?_
 iterate 2 refine st ?_
 refine nw (cret (xr ?_))
 obtain rfl:=oI h
 refine ret1 rfl d6 ?_
 exact ⟨_,rfl,(le17.t (le21.t (le36.t le43))),hS⟩
 replace h:=iF h44 h
 refine cskip (xn (cseq (cseq ?_)))
 refine ccutE (rg 73 11) (by decide) (fun m w=>∃ μx b45,m=(yK50 (yK20 (yK3 (yO10 73 (yO1 83 (.i (.bool b45)::[]))))))∧syn_stat_j3 self p_2 p_3 r41 b45=some r∧Le μ7 μx∧Sq μx w0 w (.blk b1 116 [.int .i64 r41.2]::rsF)) (by rintro _ _ ⟨_,_,rfl,_⟩; rfl) ?_ ?_
 refine creg ?_
 iterate 3 refine st ?_
 refine ld ((m14 _ ((le17.t (le21.t (le36.t le43))) _ hS.a)).one d0) ?_
 iterate 2 refine st ?_
 refine wspd (k70 d8) (q70 p8) (q70 p8) (fun h46=>?_) (fun h46=>?_)
 replace h:=iT h46 h
 refine sn rfl rfl (sn rfl rfl (sn rfl rfl (sn rfl rfl (sn rfl rfl (st (wnil (xl ?_)))))))
 exact ⟨_,_,rfl,(aK50 (aK20 (aK3 (aO10 (aO1 (aI aZ)))))),_,true,rfl,h,Le.r,hS⟩
 replace h:=iF h46 h
 refine sy rfl (sy rfl (sy rfl (wy rfl (k70 d8) (s_load ti3 (et (k80 d1)) ((m14 _ ((le17.t (le21.t (le36.t le43))) _ hS.a)).one d0) (dt (q80 p2)) (sy rfl (st (wnil (xl ?_))))))))
 exact ⟨_,_,rfl,(aK50 (aK20 (aK3 (aO10 (aO1 (aI aZ)))))),_,(decide (p_2.Kind=4)),rfl,h,Le.r,hS⟩
 rintro _ t w8 ⟨μ8,b45,rfl,h,le47,hS⟩
 unfold syn_stat_j3 at h
 refine nrm (mK50 (mK20 (mK3 (mO10 (mO1 (mi mz)))))) (xn ?_)
 refine ccutE ([6]++[9]++rg 85 11) (by decide) (fun m w=>∃ μx i48,m=(yK6 (yO1 6 (yK2 (yO1 9 (yK50 (yK20 (yK5 (yO10 85 (yO1 95 [])))))))))∧syn_stat_j4 self p_2 p_3 i48=some r∧Le μ8 μx∧Sq μx w0 w (.blk b1 116 [.int .i64 i48]::rsF)) (by rintro _ _ ⟨_,_,rfl,_⟩; rfl) ?_ ?_
 refine cifb (et (k80 d4)) (fun h49=>?_) (fun h49=>?_)
 replace h:=iT h49 h
 refine nz ?_
 iterate 4 refine st ?_
 refine ld ((m14 _ ((le17.t (le21.t (le36.t (le43.t le47)))) _ hS.a)).one d6) (st ?_)
 obtain ⟨i50,g51,h⟩:=bI h
 refine wl (su (u_addc (et (k90 d0)) ec g51) (dt (q90 p1)) ?_)
 obtain ⟨r52,g53,h⟩:=bI h
 refine ca (IH.syn_stats (hg.t (le17.t (le21.t (le36.t (le43.t le47))))) (m10.up (le17.t (le21.t (le36.t (le43.t le47))))) g53 hS) ?_
 rintro _ w9 ⟨μ9,rfl,le54,hS⟩
 refine po (st (nx ?_))
 iterate 2 refine st ?_
 refine nw ?_
 refine cifd (et (k90 d4)) (fun h55=>?_) (fun h55=>?_)
 replace h:=iT h55 h
 refine nz ?_
 iterate 2 refine st ?_
 refine nw (cret ?_)
 refine (fun h=>xr (xr h)) ?_
 obtain rfl:=oI h
 refine ret1 rfl d6 ?_
 exact ⟨_,rfl,(le17.t (le21.t (le36.t (le43.t (le47.t le54))))),hS⟩
 replace h:=iF h55 h
 refine cskip (xl ?_)
 exact ⟨_,_,rfl,(aK6 (aO1 (aK2 (aO1 (aK50 (aK20 (aK5 (aO10 (aO1 aZ))))))))),_,r52.2,rfl,h,le54,hS⟩
 replace h:=iF h49 h
 refine cskip (xl ?_)
 exact ⟨_,_,rfl,(aK6 (aO1 (aK2 (aO1 (aK50 (aK20 (aK5 (aO10 (aO1 aZ))))))))),_,r41.2,rfl,h,Le.r,hS⟩
 rintro _ t w10 ⟨μ10,i48,rfl,h,le56,hS⟩
 unfold syn_stat_j4 at h
 refine nrm (mK6 (mO1 (mK2 (mO1 (mK50 (mK20 (mK5 (mO10 (mO1 mz))))))))) (xn (cseq (nz ?_)))
 iterate 3 refine st ?_
 refine ld ((m14 _ ((le17.t (le21.t (le36.t (le43.t (le47.t le56))))) _ hS.a)).one d0) (st (nw ?_))
 refine cifd (et (k100 d0)) (fun h57=>?_) (fun h57=>?_)
 replace h:=iT h57 h
 refine nz ?_
 iterate 4 refine st ?_
 refine ld ((m14 _ ((le17.t (le21.t (le36.t (le43.t (le47.t le56))))) _ hS.a)).one d7) (st ?_)
 obtain ⟨i58,g59,h⟩:=bI h
 refine wl (su (u_addc (et (k100 d6)) ec g59) (dt (q100 p7)) ?_)
 obtain ⟨r60,g61,h⟩:=bI h
 refine ca (IH.syn_stats (hg.t (le17.t (le21.t (le36.t (le43.t (le47.t le56)))))) (m13.up (le17.t (le21.t (le36.t (le43.t (le47.t le56)))))) g61 hS) ?_
 rintro _ w11 ⟨μ11,rfl,le62,hS⟩
 refine po (st (nw (cret (xr ?_))))
 obtain rfl:=oI h
 refine ret1 rfl d6 ?_
 exact ⟨_,rfl,(le17.t (le21.t (le36.t (le43.t (le47.t (le56.t le62)))))),hS⟩
 replace h:=iF h57 h
 refine cskip (xn (nz (st (nw (cret ?_)))))
 obtain rfl:=oI h
 refine ret1 rfl d6 ?_
 exact ⟨_,rfl,(le17.t (le21.t (le36.t (le43.t (le47.t le56))))),hS⟩
theorem SynStat_sound:∀ n,SynStatSound (SynStat_run n)
  | 0=>⟨(by intros; rename_i h _; cases h),(by intros; rename_i h _; cases h)⟩
  | n+1=>⟨syn_stats_w (SynStat_sound n),syn_stat_w (SynStat_sound n)⟩
theorem syn_def_w (hg:Le Gm μ0) {node_2:Int} {p_2:TDef} {r:Int×Int} (m7:Sl μ0 a5 c6 p_2.Params) (m10:Sl μ0 a8 c9 p_2.Body) (m11:At μ0 b3 o4 [.int .i64 p_2.Kind,S p_2.Name,.int .i64 p_2.Typ.Kind,S p_2.Typ.Gen,.int .i64 p_2.Takes.Kind,S p_2.Takes.Gen,.int .i64 p_2.Cap,.slice a5 p_2.Params.length c6,.slice a8 p_2.Body.length c9]) (h:syn_def fu node_2 p_2=some r) (hS:Sq μ0 w0 w (.blk b1 116 [.int .i64 node_2]::rsF)):CallsV prog 45 [.pointer (some ⟨b1,0,none⟩),.pointer (some ⟨b3,o4,none⟩)] w (fun v w'=>∃ (μ':M) ,v=.int .i64 r.1∧Le μ0 μ'∧Sq μ' w0 w' (.blk b1 116 [.int .i64 r.2]::rsF)):=by
 unfold syn_def at h
 refine enter func45 rfl (frm:=_::_::u2 (u2 (u5 (u10 (u50 (u50 [])))))) rfl (nz (st (ny (nz (st ?_)))))
 obtain ⟨r12,g13,h⟩:=bI h
 refine ca (syn_node_w hg g13 hS) ?_
 rintro _ w1 ⟨μ1,rfl,le14,hS⟩
 refine po (st (nx ?_))
 iterate 2 refine st ?_
 refine nw ?_
 refine cifd (et (k10 d4)) (fun h15=>?_) (fun h15=>?_)
 replace h:=iT h15 h
 refine nz ?_
 iterate 2 refine st ?_
 refine nw (cret (xr ?_))
 obtain rfl:=oI h
 refine ret1 rfl d4 ?_
 exact ⟨_,rfl,le14,hS⟩
 replace h:=iF h15 h
 refine cskip (xn (cseq (cseq ?_)))
 refine ccutE (rg 16 11) (by decide) (fun m w=>∃ μx b16,m=(yK10 (yK6 (yO10 16 (yO1 26 (.i (.bool b16)::[])))))∧syn_def_j1 fu p_2 r12 b16=some r∧Le μ1 μx∧Sq μx w0 w (.blk b1 116 [.int .i64 r12.2]::rsF)) (by rintro _ _ ⟨_,_,rfl,_⟩; rfl) ?_ ?_
 refine creg ?_
 iterate 3 refine st ?_
 refine ld ((m11 _ (le14 _ hS.a)).one d0) ?_
 iterate 2 refine st ?_
 refine wspd (k20 d1) (q20 p1) (q20 p1) (fun h17=>?_) (fun h17=>?_)
 replace h:=iT h17 h
 refine sn rfl rfl (sn rfl rfl (sn rfl rfl (sn rfl rfl (sn rfl rfl (st (wnil (xl ?_)))))))
 exact ⟨_,_,rfl,(aK10 (aK6 (aO10 (aO1 (aI aZ))))),_,true,rfl,h,Le.r,hS⟩
 replace h:=iF h17 h
 refine sy rfl (sy rfl (sy rfl (wy rfl (k20 d1) (s_load ti3 (et (k20 d4)) ((m11 _ (le14 _ hS.a)).one d0) (dt (q20 p5)) (sy rfl (st (wnil (xl ?_))))))))
 exact ⟨_,_,rfl,(aK10 (aK6 (aO10 (aO1 (aI aZ))))),_,(decide ((4:Int)<p_2.Kind)),rfl,h,Le.r,hS⟩
 rintro _ t w2 ⟨μ2,b16,rfl,h,le18,hS⟩
 unfold syn_def_j1 at h
 refine nrm (mK10 (mK6 (mO10 (mO1 (mi mz))))) (xn ?_)
 refine cifb (et (k20 d7)) (fun h19=>?_) (fun h19=>?_)
 replace h:=iT h19 h
 refine nz (st (nw (cret (xr ?_))))
 obtain rfl:=oI h
 refine ret1 rfl d4 ?_
 exact ⟨_,rfl,(le14.t le18),hS⟩
 replace h:=iF h19 h
 refine cskip (xn (cseq (nz ?_)))
 iterate 3 refine st ?_
 refine ld ((m11 _ ((le14.t le18) _ hS.a)).one d1) ?_
 obtain ⟨r20,g21,h⟩:=bI h
 refine ca (lex_named_w (hg.t (le14.t le18)) g21 hS) ?_
 rintro _ w3 ⟨μ3,rfl,le22,hS⟩
 refine po (st (nw ?_))
 refine cifnb (et (k30 d3)) (fun h23=>?_) (fun h23=>?_)
 replace h:=iF h23 h
 refine nz (st (nw (cret (xr ?_))))
 obtain rfl:=oI h
 refine ret1 rfl d4 ?_
 exact ⟨_,rfl,(le14.t (le18.t le22)),hS⟩
 replace h:=iT h23 h
 refine cskip (xn (cseq (cseq ?_)))
 refine ccutE (rg 34 11) (by decide) (fun m w=>∃ μx b24,m=(yK20 (yK10 (yK4 (yO10 34 (yO1 44 (.i (.bool b24)::[]))))))∧syn_def_j2 fu p_2 r12 b24=some r∧Le μ3 μx∧Sq μx w0 w (.blk b1 116 [.int .i64 r12.2]::rsF)) (by rintro _ _ ⟨_,_,rfl,_⟩; rfl) ?_ ?_
 refine creg ?_
 iterate 3 refine st ?_
 refine ld ((m11 _ ((le14.t (le18.t le22)) _ hS.a)).one d0) ?_
 iterate 2 refine st ?_
 refine wspd (k30 d9) (q30 p9) (q30 p9) (fun h25=>?_) (fun h25=>?_)
 replace h:=iT h25 h
 refine sn rfl rfl (sn rfl rfl (sn rfl rfl (sn rfl rfl (sn rfl rfl (st (wnil (xl ?_)))))))
 exact ⟨_,_,rfl,(aK20 (aK10 (aK4 (aO10 (aO1 (aI aZ)))))),_,true,rfl,h,Le.r,hS⟩
 replace h:=iF h25 h
 refine sy rfl (sy rfl (sy rfl (wy rfl (k30 d9) (s_load ti3 (et (k40 d2)) ((m11 _ ((le14.t (le18.t le22)) _ hS.a)).one d0) (dt (q40 p3)) (sy rfl (st (wnil (xl ?_))))))))
 exact ⟨_,_,rfl,(aK20 (aK10 (aK4 (aO10 (aO1 (aI aZ)))))),_,(decide (p_2.Kind=3)),rfl,h,Le.r,hS⟩
 rintro _ t w4 ⟨μ4,b24,rfl,h,le26,hS⟩
 unfold syn_def_j2 at h
 refine nrm (mK20 (mK10 (mK4 (mO10 (mO1 (mi mz)))))) (xn ?_)
 refine ccutE ([4]++rg 7 2++rg 46 26) (by decide +kernel) (fun m w=>∃ (μx:M) ,m=(yK4 (yO1 4 (yK2 (yO2 7 (yK20 (yK10 (yK7 (yO20 46 (yO6 66 [])))))))))∧syn_def_j3 fu p_2 r12 =some r∧Le μ4 μx∧Sq μx w0 w (.blk b1 116 [.int .i64 r12.2]::rsF)) (by rintro _ _ ⟨_,rfl,_⟩; rfl) ?_ ?_
 refine cifb (et (k40 d5)) (fun h27=>?_) (fun h27=>?_)
 replace h:=iT h27 h
 refine cseq (nz ?_)
 iterate 3 refine st ?_
 refine ld ((m11 _ ((le14.t (le18.t (le22.t le26))) _ hS.a)).one d7) (wl (su (u_lensl underlying63 (et (k40 d9))) (dt (q50 p0)) (st (nw ?_))))
 refine cifd (et (k50 d1)) (fun h28=>?_) (fun h28=>?_)
 replace h:=iT h28 h
 refine nz (st (nw (cret ?_)))
 refine (fun h=>xr (xr (xr h))) ?_
 obtain rfl:=oI h
 refine ret1 rfl d4 ?_
 exact ⟨_,rfl,(le14.t (le18.t (le22.t le26))),hS⟩
 replace h:=iF h28 h
 refine cskip (xn (nz ?_))
 iterate 3 refine st ?_
 refine ld ((m11 _ ((le14.t (le18.t (le22.t le26))) _ hS.a)).one d7) (wl (su (u_lensl underlying63 (et (k50 d5))) (dt (q50 p6)) (st (nw (cblock ?_)))))
 refine cloopE ([4]++rg 7 2++rg 58 14) (by decide) (fun n m w=>∃ μx i47,m=(yK4 (yO1 4 (yK2 (yO2 7 (yK20 (yK20 (yK8 (.i (.int .i64 i47)::(yO10 58 (yO4 68 []))))))))))∧syn_def_l1 fu p_2 r12 n i47=some r∧Le μ4 μx∧Sq μx w0 w (.blk b1 116 [.int .i64 r12.2]::rsF)) (by rintro _ _ _ ⟨_,_,rfl,_⟩; rfl) _ _ (aK4 (aO1 (aK2 (aO2 (aK20 (aK20 (aK8 (aI (aO10 (aO4 aZ)))))))))) ⟨_,0,rfl,h,Le.r,hS⟩ ?_
 rintro n_1 _ t w5 ⟨μ5,i47,rfl,h,le67,hS⟩
 rcases n_1 with _|n_1
 cases h
 unfold syn_def_l1 at h
 refine cnrm (mK4 (mO1 (mK2 (mO2 (mK20 (mK20 (mK8 (mi (mO10 (mO4 mz)))))))))) (nz (st (ny ?_)))
 refine cifd (et (k50 d8)) (fun h68=>?_) (fun h68=>?_)
 replace h:=iT h68 h
 refine cskip (xn (cseq (cblock (nz ?_))))
 obtain ⟨x69,g70,h⟩:=bI h
 obtain ⟨b71,o72,cs73,e74,f75,m76⟩:=SlR.elem (m7.up (le14.t (le18.t (le22.t (le26.t le67))))) g70
 obtain rfl:=m76
 refine wl (su (u_iax underlying63 ti97 (et (k50 d5)) (et (k50 d7)) e74) (dt (q50 p9)) (lds (f75 _ hS.a) rfl ?_))
 refine wl (s_alloc ti97 hS ?_); clear hS; intro b77 w6 hb78 hS; refine po ?_
 refine wl (s_storeA ti97 (et d7) (et (k60 d0)) rfl rfl hS d0 rfl p0 dn ?_)
 clear hS; intro w7 hS
 refine ny (nz (st (ld ((hS.blk d0).cell d0) ?_)))
 obtain ⟨r79,g80,h⟩:=bI h
 refine ca (lex_named_w (hg.t (le14.t (le18.t (le22.t (le26.t le67))))) g80 hS) ?_
 rintro _ w8 ⟨μ6,rfl,le81,hS⟩
 refine po (st (nw ?_))
 refine cifnb (et (k60 d4)) (fun h82=>?_) (fun h82=>?_)
 replace h:=iF h82 h
 refine nz (st (nw (cret ((fun h=>xr (br (xr (xr (br (xr (xr h))))))) ?_))))
 obtain rfl:=oI h
 refine ret1 rfl d4 ?_
 replace hS:=hS.drop Rm.z
 exact ⟨_,rfl,(le14.t (le18.t (le22.t (le26.t (le67.t le81))))),hS⟩
 replace h:=iT h82 h
 refine cskip (xn (nz (st (lds ((hS.blk d0).cellsAt (Sb.s d1 (Sb.s d2 Sb.z))) rfl ?_))))
 obtain ⟨r83,g84,h⟩:=bI h
 refine ca (syn_typ_w (hg.t (le14.t (le18.t (le22.t (le26.t (le67.t le81)))))) g84 hS) ?_
 rintro _ w9 ⟨μ7,rfl,le85,hS⟩
 refine po (st (nx ?_))
 iterate 2 refine st ?_
 refine nw ?_
 refine cifd (et (k60 d9)) (fun h86=>?_) (fun h86=>?_)
 replace h:=iT h86 h
 refine nz ?_
 iterate 2 refine st ?_
 refine nw (cret ?_)
 refine (fun h=>br (xr (xr (br (xr (xr h)))))) ?_
 obtain rfl:=oI h
 refine ret1 rfl d4 ?_
 replace hS:=hS.drop Rm.z
 exact ⟨_,rfl,(le14.t (le18.t (le22.t (le26.t (le67.t (le81.t le85)))))),hS⟩
 replace h:=iF h86 h
 refine cskip ?_
 refine (fun h=>bn (xn h)) ?_
 refine creg ?_
 obtain ⟨i87,g88,h⟩:=bI h
 refine wl (su (u_addc (et (k50 d7)) ec g88) (dt (q70 p1)) (st (wnil (xl ?_))))
 replace hS:=hS.drop Rm.z
 exact ⟨n_1,_,_,rfl,(aK4 (aO1 (aK2 (aO2 (aK20 (aK20 (aK8 (aI (aO10 (aO4 aZ)))))))))),⟨_,i87,rfl,h,(le67.t (le81.t le85)),hS⟩,Nat.lt_succ_self _⟩
 replace h:=iF h68 h
 refine cexit ?_
 refine (fun h=>xe (xe (bh h))) ?_
 refine xl ?_
 exact ⟨_,_,rfl,(aK4 (aO1 (aK2 (aO2 (aK20 (aK10 (aK7 (aO20 (aO6 aZ))))))))),_,rfl,h,le67,hS⟩
 replace h:=iF h27 h
 refine cskip (xl ?_)
 exact ⟨_,_,rfl,(aK4 (aO1 (aK2 (aO2 (aK20 (aK10 (aK7 (aO20 (aO6 aZ))))))))),_,rfl,h,Le.r,hS⟩
 rintro _ t w10 ⟨μ8,rfl,h,le89,hS⟩
 unfold syn_def_j3 at h
 refine nrm (mK4 (mO1 (mK2 (mO2 (mK20 (mK10 (mK7 (mO20 (mO6 mz))))))))) (xn (cseq (nz ?_)))
 iterate 3 refine st ?_
 refine ld ((m11 _ ((le14.t (le18.t (le22.t (le26.t le89)))) _ hS.a)).one d0) (st (nw ?_))
 refine ccutE ([4]++[9]++rg 77 8) (by decide) (fun m w=>∃ (μx:M) ,m=(yK4 (yO1 4 (yK4 (yO1 9 (yK50 (yK10 (yK7 (yO8 77 []))))))))∧syn_def_j4 fu p_2 r12 =some r∧Le μ8 μx∧Sq μx w0 w (.blk b1 116 [.int .i64 r12.2]::rsF)) (by rintro _ _ ⟨_,rfl,_⟩; rfl) ?_ ?_
 refine cifd (et (k70 d6)) (fun h90=>?_) (fun h90=>?_)
 replace h:=iT h90 h
 refine nz ?_
 iterate 3 refine st ?_
 refine lds ((m11 _ ((le14.t (le18.t (le22.t (le26.t le89)))) _ hS.a)).sb 4 2) rfl ?_
 obtain ⟨r91,g92,h⟩:=bI h
 refine ca (syn_typ_w (hg.t (le14.t (le18.t (le22.t (le26.t le89))))) g92 hS) ?_
 rintro _ w11 ⟨μ9,rfl,le93,hS⟩
 refine po (st (nx ?_))
 iterate 2 refine st ?_
 refine nw ?_
 refine cifd (et (k80 d3)) (fun h94=>?_) (fun h94=>?_)
 replace h:=iT h94 h
 refine nz ?_
 iterate 2 refine st ?_
 refine nw (cret ?_)
 refine (fun h=>xr (xr h)) ?_
 obtain rfl:=oI h
 refine ret1 rfl d4 ?_
 exact ⟨_,rfl,(le14.t (le18.t (le22.t (le26.t (le89.t le93))))),hS⟩
 replace h:=iF h94 h
 refine cskip (xl ?_)
 exact ⟨_,_,rfl,(aK4 (aO1 (aK4 (aO1 (aK50 (aK10 (aK7 (aO8 aZ)))))))),_,rfl,h,le93,hS⟩
 replace h:=iF h90 h
 refine cskip (xl ?_)
 exact ⟨_,_,rfl,(aK4 (aO1 (aK4 (aO1 (aK50 (aK10 (aK7 (aO8 aZ)))))))),_,rfl,h,Le.r,hS⟩
 rintro _ t w12 ⟨μ10,rfl,h,le95,hS⟩
 unfold syn_def_j4 at h
 refine nrm (mK4 (mO1 (mK4 (mO1 (mK50 (mK10 (mK7 (mO8 mz)))))))) (xn (cseq (nz ?_)))
 iterate 3 refine st ?_
 refine ld ((m11 _ ((le14.t (le18.t (le22.t (le26.t (le89.t le95))))) _ hS.a)).one d0) (st (nw ?_))
 refine ccutE ([4]++[10]++rg 90 8) (by decide) (fun m w=>∃ (μx:M) ,m=(yK4 (yO1 4 (yK5 (yO1 10 (yK50 (yK20 (yK9 (yO8 90 []))))))))∧syn_def_j5 fu p_2 r12 =some r∧Le μ10 μx∧Sq μx w0 w (.blk b1 116 [.int .i64 r12.2]::rsF)) (by rintro _ _ ⟨_,rfl,_⟩; rfl) ?_ ?_
 refine cifd (et (k80 d9)) (fun h96=>?_) (fun h96=>?_)
 replace h:=iT h96 h
 refine nz ?_
 iterate 3 refine st ?_
 refine lds ((m11 _ ((le14.t (le18.t (le22.t (le26.t (le89.t le95))))) _ hS.a)).sb 2 2) rfl ?_
 obtain ⟨r97,g98,h⟩:=bI h
 refine ca (syn_typ_w (hg.t (le14.t (le18.t (le22.t (le26.t (le89.t le95)))))) g98 hS) ?_
 rintro _ w13 ⟨μ11,rfl,le99,hS⟩
 refine po (st (nx ?_))
 iterate 2 refine st ?_
 refine nw ?_
 refine cifd (et (k90 d6)) (fun h100=>?_) (fun h100=>?_)
 replace h:=iT h100 h
 refine nz ?_
 iterate 2 refine st ?_
 refine nw (cret ?_)
 refine (fun h=>xr (xr h)) ?_
 obtain rfl:=oI h
 refine ret1 rfl d4 ?_
 exact ⟨_,rfl,(le14.t (le18.t (le22.t (le26.t (le89.t (le95.t le99)))))),hS⟩
 replace h:=iF h100 h
 refine cskip (xl ?_)
 exact ⟨_,_,rfl,(aK4 (aO1 (aK5 (aO1 (aK50 (aK20 (aK9 (aO8 aZ)))))))),_,rfl,h,le99,hS⟩
 replace h:=iF h96 h
 refine cskip (xl ?_)
 exact ⟨_,_,rfl,(aK4 (aO1 (aK5 (aO1 (aK50 (aK20 (aK9 (aO8 aZ)))))))),_,rfl,h,Le.r,hS⟩
 rintro _ t w14 ⟨μ12,rfl,h,le101,hS⟩
 unfold syn_def_j5 at h
 refine nrm (mK4 (mO1 (mK5 (mO1 (mK50 (mK20 (mK9 (mO8 mz)))))))) (xn (cseq (nz ?_)))
 iterate 3 refine st ?_
 refine ld ((m11 _ ((le14.t (le18.t (le22.t (le26.t (le89.t (le95.t le101)))))) _ hS.a)).one d0) (st (nw ?_))
 refine cifd (et (k100 d2)) (fun h102=>?_) (fun h102=>?_)
 replace h:=iT h102 h
 refine nz ?_
 iterate 4 refine st ?_
 refine ld ((m11 _ ((le14.t (le18.t (le22.t (le26.t (le89.t (le95.t le101)))))) _ hS.a)).one d8) ?_
 obtain ⟨r103,g104,h⟩:=bI h
 refine ca ((SynStat_sound fu).syn_stats (hg.t (le14.t (le18.t (le22.t (le26.t (le89.t (le95.t le101))))))) (m10.up (le14.t (le18.t (le22.t (le26.t (le89.t (le95.t le101))))))) g104 hS) ?_
 rintro _ w15 ⟨μ13,rfl,le105,hS⟩
 refine po (st (nw (cret (xr ?_))))
 obtain rfl:=oI h
 refine ret1 rfl d4 ?_
 exact ⟨_,rfl,(le14.t (le18.t (le22.t (le26.t (le89.t (le95.t (le101.t le105))))))),hS⟩
 replace h:=iF h102 h
 refine cskip (xn (cseq (cseq ?_)))
 refine ccutE (rg 109 11) (by decide) (fun m w=>∃ μx b106,m=(yK50 (yK50 (yK9 (yO10 109 (yO1 119 (.i (.bool b106)::[]))))))∧syn_def_j6 r12 b106=some r∧Le μ12 μx∧Sq μx w0 w (.blk b1 116 [.int .i64 r12.2]::rsF)) (by rintro _ _ ⟨_,_,rfl,_⟩; rfl) ?_ ?_
 refine creg ?_
 iterate 3 refine st ?_
 refine ld ((m11 _ ((le14.t (le18.t (le22.t (le26.t (le89.t (le95.t le101)))))) _ hS.a)).one d6) ?_
 iterate 2 refine st ?_
 refine wspd (k100 (k10 d4)) (q100 (q10 p4)) (q100 (q10 p4)) (fun h107=>?_) (fun h107=>?_)
 replace h:=iT h107 h
 refine sn rfl rfl (sn rfl rfl (sn rfl rfl (sn rfl rfl (sn rfl rfl (st (wnil (xl ?_)))))))
 exact ⟨_,_,rfl,(aK50 (aK50 (aK9 (aO10 (aO1 (aI aZ)))))),_,true,rfl,h,Le.r,hS⟩
 replace h:=iF h107 h
 refine sy rfl (sy rfl (sy rfl (wy rfl (k100 (k10 d4)) (s_load ti3 (et (k100 (k10 d7))) ((m11 _ ((le14.t (le18.t (le22.t (le26.t (le89.t (le95.t le101)))))) _ hS.a)).one d6) (dt (q100 (q10 p8))) (sy rfl (st (wnil (xl ?_))))))))
 exact ⟨_,_,rfl,(aK50 (aK50 (aK9 (aO10 (aO1 (aI aZ)))))),_,(decide ((20:Int)<p_2.Cap)),rfl,h,Le.r,hS⟩
 rintro _ t w16 ⟨μ14,b106,rfl,h,le108,hS⟩
 unfold syn_def_j6 at h
 refine nrm (mK50 (mK50 (mK9 (mO10 (mO1 (mi mz)))))) (xn ?_)
 refine cifb (et (k100 (k20 d0))) (fun h109=>?_) (fun h109=>?_)
 replace h:=iT h109 h
 refine nz (st (nw (cret (xr ?_))))
 obtain rfl:=oI h
 refine ret1 rfl d4 ?_
 exact ⟨_,rfl,(le14.t (le18.t (le22.t (le26.t (le89.t (le95.t (le101.t le108))))))),hS⟩
 replace h:=iF h109 h
 refine cskip (xn (nz (st (nw (cret ?_)))))
 obtain rfl:=oI h
 refine ret1 rfl d4 ?_
 exact ⟨_,rfl,(le14.t (le18.t (le22.t (le26.t (le89.t (le95.t (le101.t le108))))))),hS⟩
theorem syn_wrong_w (hg:Le Gm μ0) {p_1:List TDef} {r:TFault} (m3:Sl μ0 a1 c2 p_1) (h:syn_wrong fu p_1=some r) (hS:Sq μ0 w0 w (rsF)):CallsV prog 20 [.slice a1 p_1.length c2] w (fun v w'=>∃ (μ':M) ,v=.agg ⟨[.int .i64 r.Err,.int .i64 r.At]⟩∧Le μ0 μ'∧Sq μ' w0 w' (rsF)):=by
 unfold syn_wrong at h
 refine enter func20 rfl (frm:=_::u1 (u2 (u5 (u20 [])))) rfl (nz ?_)
 refine wl (s_alloc ti26 hS ?_); clear hS; intro b4 w1 hb5 hS; refine po ?_
 refine ny (nz (st (wl (su (u_lensl underlying22 (et d6)) (dt p7) (st (nw ?_))))))
 refine cifd (et d8) (fun h6=>?_) (fun h6=>?_)
 replace h:=iT h6 h
 refine nz (wl (s_build ti26 pl26 (Fl.o rfl ec rfl rfl p0 Fl.z) (dt p9) (wl (s_storeA ti26 (et d2) (et d9) rfl rfl hS d0 rfl p0 dn ?_))))
 clear hS; intro w2 hS
 refine nw (cret (xr ?_))
 obtain rfl:=oI h
 refine retN rfl (RVs.s (.a d2 ti26 (hS.blk d0).cells rfl) RVs.z) ?_
 replace hS:=hS.drop Rm.z
 exact ⟨_,rfl,Le.r,hS⟩
 replace h:=iF h6 h
 refine cskip (xn (nz (wl (s_build ti116 pl116 Fl.z (dt (q10 p0)) ?_))))
 refine wl (s_box (et (k10 d0)) rfl hS ?_); clear hS; intro b7 w3 hb8 hS; refine po ?_
 refine st (ny (nz (st (wl (su (u_lensl underlying22 (et (k10 d2))) (dt (q10 p3)) (st (nw (cblock ?_))))))))
 replace hS:=hS.bg Y1
 refine cloopE (rg 4 2++rg 15 13) (by decide) (fun n m w=>∃ μx i28 i29,m=(yK4 (yO2 4 (yK8 (.i (.int .i64 i28)::(yO10 15 (yO3 25 []))))))∧syn_wrong_l1 fu p_1 n i28 i29=some r∧Le μ0 μx∧Sq μx w0 w (.blk b4 26 [.int .i64 0,.int .i64 0]::.blk b7 116 [.int .i64 i29]::rsF)) (by rintro _ _ _ ⟨_,_,_,rfl,_⟩; rfl) _ _ (aK4 (aO2 (aK8 (aI (aO10 (aO3 aZ)))))) ⟨_,0,0,rfl,h,Le.r,hS⟩ ?_
 rintro n_1 _ t w4 ⟨μ1,i28,i29,rfl,h,le49,hS⟩
 rcases n_1 with _|n_1
 cases h
 unfold syn_wrong_l1 at h
 refine cnrm (mK4 (mO2 (mK8 (mi (mO10 (mO3 mz)))))) (nz (st (ny ?_)))
 refine cifd (et (k10 d5)) (fun h50=>?_) (fun h50=>?_)
 replace h:=iT h50 h
 refine cskip (xn (cseq (cblock (nz ?_))))
 iterate 2 refine st ?_
 refine nx ?_
 iterate 3 refine st ?_
 obtain ⟨x51,g52,h⟩:=bI h
 obtain ⟨b53,o54,cs55,e56,f57,m58⟩:=SlR.elem (m3.up le49) g52
 obtain ⟨a59,c60,a62,c63,rfl,m61,m64⟩:=m58
 refine wl (su (u_iax underlying22 ti66 (et (k10 d8)) (et (k10 d9)) e56) (dt (q20 p0)) ?_)
 obtain ⟨r65,g66,h⟩:=bI h
 replace hS:=hS.bg Y1
 refine ca (syn_def_w (hg.t le49) m61 m64 f57 g66 hS) ?_
 rintro _ w5 ⟨μ2,rfl,le67,hS⟩
 refine po (st (nx ?_))
 iterate 2 refine st ?_
 refine nw ?_
 refine cifd (et (k20 d3)) (fun h68=>?_) (fun h68=>?_)
 replace h:=iT h68 h
 refine nz ?_
 iterate 2 refine st ?_
 refine wl (s_build ti26 pl26 (Fl.o rfl (et (k20 d4)) rfl rfl p0 (Fl.o rfl (et (k20 d5)) rfl rfl p1 Fl.z)) (dt (q20 p6)) (wl (s_storeA ti26 (et d2) (et (k20 d6)) rfl rfl hS d1 rfl p1 dn ?_)))
 clear hS; intro w6 hS
 refine nw (cret ?_)
 refine (fun h=>br (xr (xr (br (xr h))))) ?_
 obtain rfl:=oI h
 refine retN rfl (RVs.s (.a d2 ti26 (hS.blk d1).cells rfl) RVs.z) ?_
 replace hS:=(hS.drop Rm.z).drop Rm.z
 exact ⟨_,rfl,(le49.t le67),hS⟩
 replace h:=iF h68 h
 refine cskip ?_
 refine (fun h=>bn (xn h)) ?_
 refine creg ?_
 obtain ⟨i69,g70,h⟩:=bI h
 refine wl (su (u_addc (et (k10 d4)) ec g70) (dt (q20 p7)) (st (wnil (xl ?_))))
 replace hS:=hS.bg Y1
 exact ⟨n_1,_,_,rfl,(aK4 (aO2 (aK8 (aI (aO10 (aO3 aZ)))))),⟨_,i69,r65.2,rfl,h,(le49.t le67),hS⟩,Nat.lt_succ_self _⟩
 replace h:=iF h50 h
 refine cexit ?_
 refine (fun h=>xe (xe (bh h))) ?_
 refine xn (nz (wl (s_build ti26 pl26 Fl.z (dt (q20 p8)) (wl (s_storeA ti26 (et d2) (et (k20 d8)) rfl rfl hS d0 rfl p0 dn ?_)))))
 clear hS; intro w7 hS
 refine nw (cret ?_)
 obtain rfl:=oI h
 refine retN rfl (RVs.s (.a d2 ti26 (hS.blk d0).cells rfl) RVs.z) ?_
 replace hS:=(hS.drop Rm.z).drop Rm.z
 exact ⟨_,rfl,le49,hS⟩
end Go.Proofs.YtdfnejebobekoaaGreatDoor
set_option maxRecDepth 100000
set_option maxHeartbeats 20000000
namespace Go.Proofs.YtdfnejebobekoaaGreatDoor
open Go.Wk Go.Xt Go.Y Tryz
variable {b1 c4 c9 fu:Nat} {a3 a8:Option Addr} {μ0:M} {w0 w:World} {rsF:List Res}
theorem p_at_w (hg:Le Gm μ0) {left_2:List TToken} {end_6 deep_7 r:Int} (m5:Sl μ0 a3 c4 left_2) (h:p_at left_2 end_6 deep_7=some r) (hS:Sq μ0 w0 w (.blk b1 76 [.slice a3 left_2.length c4,.int .i64 end_6,.int .i64 deep_7]::rsF)):CallsV prog 28 [.pointer (some ⟨b1,0,none⟩)] w (fun v w'=>∃ (μ':M) ,v=.int .i64 r∧Le μ0 μ'∧Sq μ' w0 w' (.blk b1 76 [.slice a3 left_2.length c4,.int .i64 end_6,.int .i64 deep_7]::rsF)):=by
 unfold p_at at h
 refine enter func28 rfl (frm:=_::u2 (u2 (u5 (u10 [])))) rfl (nz (st (ny (nz ?_))))
 iterate 3 refine st ?_
 refine ld ((hS.blk d0).cell d0) (wl (su (u_lensl underlying69 (et d6)) (dt p7) (st (nw ?_))))
 refine cifd (et d8) (fun h8=>?_) (fun h8=>?_)
 replace h:=iT h8 h
 refine nz ?_
 iterate 3 refine st ?_
 refine ld ((hS.blk d0).cell d1) (st (nw (cret (xr ?_))))
 obtain rfl:=oI h
 refine ret1 rfl d2 ?_
 exact ⟨_,rfl,Le.r,hS⟩
 replace h:=iF h8 h
 refine cskip (xn (nz ?_))
 iterate 3 refine st ?_
 refine ld ((hS.blk d0).cell d0) ?_
 obtain ⟨x9,g10,h⟩:=bI h
 obtain ⟨b11,o12,cs13,e14,f15,m16⟩:=SlR.elem m5 g10
 obtain rfl:=m16
 refine wl (su (u_iax underlying69 ti138 (et (k10 d6)) ec e14) (dt (q10 p7)) (st (ld ((f15 _ hS.a).one d3) (st (nw (cret ?_))))))
 obtain rfl:=oI h
 refine ret1 rfl d2 ?_
 exact ⟨_,rfl,Le.r,hS⟩
theorem p_sees_w (hg:Le Gm μ0) {left_2:List TToken} {end_6 deep_7:Int} {p_2:List UInt8} {r:Bool} (m5:Sl μ0 a3 c4 left_2) (h:p_sees left_2 end_6 deep_7 p_2=some r) (hS:Sq μ0 w0 w (.blk b1 76 [.slice a3 left_2.length c4,.int .i64 end_6,.int .i64 deep_7]::rsF)):CallsV prog 109 [.pointer (some ⟨b1,0,none⟩),S p_2] w (fun v w'=>∃ (μ':M) ,v=.bool r∧Le μ0 μ'∧Sq μ' w0 w' (.blk b1 76 [.slice a3 left_2.length c4,.int .i64 end_6,.int .i64 deep_7]::rsF)):=by
 unfold p_sees at h
 refine enter func109 rfl (frm:=_::_::u20 []) rfl (nz (st (nx ?_)))
 iterate 3 refine st ?_
 refine ld ((hS.blk d0).cell d0) (wl (su (u_lensl underlying69 (et d8)) (dt p9) ?_))
 iterate 2 refine st ?_
 refine wspd (k10 d1) (q10 p1) (q10 p1) (fun h8=>?_) (fun h8=>?_)
 replace h:=iT h8 h
 refine sy rfl (sy rfl (sy rfl (wy rfl (k10 d1) (s_load ti69 (et (k10 d4)) ((hS.blk d0).cell d0) (dt (q10 p5)) ?_))))
 obtain ⟨x9,g10,h⟩:=bI h
 obtain ⟨b11,o12,cs13,e14,f15,m16⟩:=SlR.elem m5 g10
 obtain rfl:=m16
 refine wy rfl (k10 d1) (su (u_iax underlying69 ti138 (et (k10 d5)) ec e14) (dt (q10 p6)) (sy rfl (wy rfl (k10 d1) (s_load ti9 (et (k10 d7)) ((f15 _ hS.a).one d1) (dt (q10 p8)) (sy rfl (wy rfl (k10 d1) (su (u_eqs (et (k10 d8)) (et (k10 d9))) (dt (q20 p0)) ?_)))))))
 iterate 2 refine st ?_
 refine nw (cret ?_)
 obtain rfl:=oI h
 refine ret1 rfl d4 ?_
 exact ⟨_,rfl,Le.r,hS⟩
 replace h:=iF h8 h
 refine sn rfl rfl (sn rfl rfl (sn rfl rfl (sn rfl rfl (sn rfl rfl (sn rfl rfl (sn rfl rfl (sn rfl rfl (sn rfl rfl ?_))))))))
 iterate 2 refine st ?_
 refine nw (cret ?_)
 obtain rfl:=oI h
 refine ret1 rfl d4 ?_
 exact ⟨_,rfl,Le.r,hS⟩
theorem p_is_w (hg:Le Gm μ0) {left_2:List TToken} {end_6 deep_7:Int} {p_2:List UInt8} {r:Bool×List TToken×Int×Int} (m5:Sl μ0 a3 c4 left_2) (h:p_is left_2 end_6 deep_7 p_2=some r) (hS:Sq μ0 w0 w (.blk b1 76 [.slice a3 left_2.length c4,.int .i64 end_6,.int .i64 deep_7]::rsF)):CallsV prog 60 [.pointer (some ⟨b1,0,none⟩),S p_2] w (fun v w'=>∃ (μ':M) (a8:Option Addr) (c9:Nat),v=.bool r.1∧Le μ0 μ'∧Sq μ' w0 w' (.blk b1 76 [.slice a8 r.2.1.length c9,.int .i64 r.2.2.1,.int .i64 r.2.2.2]::rsF)∧Sl μ' a8 c9 r.2.1):=by
 unfold p_is at h
 refine enter func60 rfl (frm:=_::_::u5 (u10 [])) rfl (nz (st (ny (nz ?_))))
 iterate 2 refine st ?_
 obtain ⟨r11,g12,h⟩:=bI h
 refine ca (p_sees_w hg m5 g12 hS) ?_
 rintro _ w1 ⟨μ1,rfl,le13,hS⟩
 refine po (st (nw ?_))
 refine cifnb (et d8) (fun h14=>?_) (fun h14=>?_)
 replace h:=iF h14 h
 refine nz (st (nw (cret (xr ?_))))
 obtain rfl:=oI h
 refine ret1 rfl d4 ?_
 exact ⟨_,_,_,rfl,le13,hS,(m5.up le13)⟩
 replace h:=iT h14 h
 refine cskip (xn (nz ?_))
 iterate 4 refine st ?_
 refine ld ((hS.blk d0).cell d0) ?_
 obtain ⟨l15,g16,h⟩:=bI h
 obtain ⟨a17,c18,e19,m20⟩:=Sl.slc (i:=some 1) (j:=none) (m5.up le13) g16
 refine wl (su (u_slc underlying69 ti138 (et (k10 d3)) (.s ec) .n e19) (dt (q10 p4)) ?_)
 iterate 2 refine st ?_
 refine wl (s_store1 ti69 (et (k10 d6)) (et (k10 d4)) rfl hS d0 p0 rfl p0 dn ?_)
 clear hS; intro w2 hS
 refine nx (st (nw (cret ?_)))
 obtain rfl:=oI h
 refine ret1 rfl d4 ?_
 exact ⟨_,_,_,rfl,le13,hS,m20⟩
theorem p_need_w (hg:Le Gm μ0) {left_2:List TToken} {end_6 deep_7:Int} {p_2:List (List UInt8)} {r:List TToken×Int×Int} (m5:Sl μ0 a3 c4 left_2) (m10:Sl μ0 a8 c9 p_2) (h:p_need left_2 end_6 deep_7 p_2=some r) (hS:Sq μ0 w0 w (.blk b1 76 [.slice a3 left_2.length c4,.int .i64 end_6,.int .i64 deep_7]::rsF)):CallsV prog 64 [.pointer (some ⟨b1,0,none⟩),.slice a8 p_2.length c9] w (fun v w'=>∃ (μ':M) (a11:Option Addr) (c12:Nat),v=.tuple ⟨[]⟩∧Le μ0 μ'∧Sq μ' w0 w' (.blk b1 76 [.slice a11 r.1.length c12,.int .i64 r.2.1,.int .i64 r.2.2]::rsF)∧Sl μ' a11 c12 r.1):=by
 unfold p_need at h
 refine enter func64 rfl (frm:=_::_::u2 (u2 (u5 (u10 [])))) rfl (nz (st (wl (su (u_lensl underlying122 (et d6)) (dt p7) (st (nw (cblock ?_)))))))
 refine cloopE ([5]++rg 9 12) (by decide) (fun n m w=>∃ μx i30 l33 a31 c32 i35 i36,m=(yK5 (yO1 5 (yK2 (.i (.int .i64 i30)::(yO10 9 (yO2 19 []))))))∧p_need_l1 p_2 n i30 l33 i35 i36=some r∧Le μ0 μx∧Sq μx w0 w (.blk b1 76 [.slice a31 l33.length c32,.int .i64 i35,.int .i64 i36]::rsF)∧Sl μx a31 c32 l33) (by rintro _ _ _ ⟨_,_,_,_,_,_,_,rfl,_⟩; rfl) _ _ (aK5 (aO1 (aK2 (aI (aO10 (aO2 aZ)))))) ⟨_,0,left_2,a3,c4,end_6,deep_7,rfl,h,Le.r,hS,m5⟩ ?_
 rintro n_1 _ t w1 ⟨μ1,i30,l33,a31,c32,i35,i36,rfl,h,le53,hS,m54⟩
 rcases n_1 with _|n_1
 cases h
 unfold p_need_l1 at h
 refine cnrm (mK5 (mO1 (mK2 (mi (mO10 (mO2 mz)))))) (nz (st (ny ?_)))
 refine cifd (et d9) (fun h55=>?_) (fun h55=>?_)
 replace h:=iT h55 h
 refine cskip (xn (cseq (cblock (nz ?_))))
 obtain ⟨x56,g57,h⟩:=bI h
 obtain ⟨b58,o59,cs60,e61,f62,m63⟩:=SlR.elem (m10.up le53) g57
 obtain rfl:=m63
 refine wl (su (u_iax underlying122 ti9 (et d6) (et d8) e61) (dt (q10 p0)) (ld ((f62 _ hS.a).one d0) (st (nx ?_))))
 iterate 2 refine st ?_
 obtain ⟨r64,g65,h⟩:=bI h
 refine ca (p_is_w (hg.t le53) m54 g65 hS) ?_
 rintro _ w2 ⟨μ2,a67,c68,rfl,le66,hS,m69⟩
 refine po (st (nw ?_))
 refine cifnb (et (k10 d5)) (fun h70=>?_) (fun h70=>?_)
 replace h:=iF h70 h
 cases h
 replace h:=iT h70 h
 refine cskip ?_
 refine (fun h=>bn (xn h)) ?_
 refine creg ?_
 obtain ⟨i71,g72,h⟩:=bI h
 refine wl (su (u_addc (et d8) ec g72) (dt (q20 p0)) (st (wnil (xl ?_))))
 exact ⟨n_1,_,_,rfl,(aK5 (aO1 (aK2 (aI (aO10 (aO2 aZ)))))),⟨_,i71,r64.2.1,a67,c68,r64.2.2.1,r64.2.2.2,rfl,h,(le53.t le66),hS,m69⟩,Nat.lt_succ_self _⟩
 replace h:=iF h55 h
 refine cexit ?_
 refine (fun h=>xe (xe (bh h))) ?_
 obtain rfl:=oI h
 refine end0 rfl ?_
 exact ⟨_,_,_,rfl,le53,hS,m54⟩
theorem p_name_w (hg:Le Gm μ0) {left_2:List TToken} {end_6 deep_7:Int} {r:List UInt8×List TToken×Int×Int} (m5:Sl μ0 a3 c4 left_2) (h:p_name fu left_2 end_6 deep_7=some r) (hS:Sq μ0 w0 w (.blk b1 76 [.slice a3 left_2.length c4,.int .i64 end_6,.int .i64 deep_7]::rsF)):CallsV prog 61 [.pointer (some ⟨b1,0,none⟩)] w (fun v w'=>∃ (μ':M) (a8:Option Addr) (c9:Nat),v=S r.1∧Le μ0 μ'∧Sq μ' w0 w' (.blk b1 76 [.slice a8 r.2.1.length c9,.int .i64 r.2.2.1,.int .i64 r.2.2.2]::rsF)∧Sl μ' a8 c9 r.2.1):=by
 unfold p_name at h
 refine enter func61 rfl (frm:=_::u1 (u5 (u20 (u20 [])))) rfl (nz (st (ny (cseq ?_))))
 refine ccutE (rg 4 15) (by decide) (fun m w=>∃ μx b11,m=(yK4 (yO10 4 (yO5 14 (.i (.bool b11)::[]))))∧p_name_j1 fu left_2 end_6 deep_7 b11=some r∧Le μ0 μx∧Sq μx w0 w (.blk b1 76 [.slice a3 left_2.length c4,.int .i64 end_6,.int .i64 deep_7]::rsF)) (by rintro _ _ ⟨_,_,rfl,_⟩; rfl) ?_ ?_
 refine creg ?_
 iterate 3 refine st ?_
 refine ld ((hS.blk d0).cell d0) (wl (su (u_lensl underlying69 (et d7)) (dt p8) ?_))
 iterate 2 refine st ?_
 refine wspd (k10 d0) (q10 p0) (q10 p0) (fun h12=>?_) (fun h12=>?_)
 replace h:=iT h12 h
 refine sn rfl rfl (sn rfl rfl (sn rfl rfl (sn rfl rfl (sn rfl rfl (sn rfl rfl (sn rfl rfl (sn rfl rfl (st (wnil (xl ?_))))))))))
 exact ⟨_,_,rfl,(aK4 (aO10 (aO5 (aI aZ)))),_,true,rfl,h,Le.r,hS⟩
 replace h:=iF h12 h
 refine sy rfl (sy rfl (sy rfl (wy rfl (k10 d0) (s_load ti69 (et (k10 d3)) ((hS.blk d0).cell d0) (dt (q10 p4)) ?_))))
 obtain ⟨x13,g14,h⟩:=bI h
 obtain ⟨b15,o16,cs17,e18,f19,m20⟩:=SlR.elem m5 g14
 obtain rfl:=m20
 refine wy rfl (k10 d0) (su (u_iax underlying69 ti138 (et (k10 d4)) ec e18) (dt (q10 p5)) (sy rfl (wy rfl (k10 d0) (s_load ti3 (et (k10 d6)) ((f19 _ hS.a).one d0) (dt (q10 p7)) (sy rfl (st (wnil (xl ?_))))))))
 exact ⟨_,_,rfl,(aK4 (aO10 (aO5 (aI aZ)))),_,(decide (x13.Kind≠1)),rfl,h,Le.r,hS⟩
 rintro _ t w1 ⟨μ1,b11,rfl,h,le21,hS⟩
 unfold p_name_j1 at h
 refine nrm (mK4 (mO10 (mO5 (mi mz)))) (xn ?_)
 refine cifb (et (k10 d9)) (fun h22=>?_) (fun h22=>?_)
 replace h:=iT h22 h
 cases h
 replace h:=iF h22 h
 refine cskip (xn (nz ?_))
 iterate 3 refine st ?_
 refine ld ((hS.blk d0).cell d0) ?_
 obtain ⟨x23,g24,h⟩:=bI h
 obtain ⟨b25,o26,cs27,e28,f29,m30⟩:=SlR.elem (m5.up le21) g24
 obtain rfl:=m30
 refine wl (su (u_iax underlying69 ti138 (et (k20 d7)) ec e28) (dt (q20 p8)) (st (ld ((f29 _ hS.a).one d1) (st (ny (nz (st ?_)))))))
 obtain ⟨r31,g32,h⟩:=bI h
 refine ca (lex_named_w (hg.t le21) g32 hS) ?_
 rintro _ w2 ⟨μ2,rfl,le33,hS⟩
 refine po (st (nw ?_))
 refine cifnb (et (k30 d3)) (fun h34=>?_) (fun h34=>?_)
 replace h:=iF h34 h
 cases h
 replace h:=iT h34 h
 refine cskip (xn (nz ?_))
 iterate 4 refine st ?_
 refine ld ((hS.blk d0).cell d0) ?_
 obtain ⟨l35,g36,h⟩:=bI h
 obtain ⟨a37,c38,e39,m40⟩:=Sl.slc (i:=some 1) (j:=none) (m5.up (le21.t le33)) g36
 refine wl (su (u_slc underlying69 ti138 (et (k40 d2)) (.s ec) .n e39) (dt (q40 p3)) ?_)
 iterate 2 refine st ?_
 refine wl (s_store1 ti69 (et (k40 d5)) (et (k40 d3)) rfl hS d0 p0 rfl p0 dn ?_)
 clear hS; intro w3 hS
 refine nx ?_
 iterate 2 refine st ?_
 refine nw (cret ?_)
 obtain rfl:=oI h
 refine ret1 rfl d2 ?_
 exact ⟨_,_,_,rfl,(le21.t le33),hS,m40⟩
theorem p_number_w (hg:Le Gm μ0) {left_2:List TToken} {end_6 deep_7:Int} {r:Int×List TToken×Int×Int} (m5:Sl μ0 a3 c4 left_2) (h:p_number left_2 end_6 deep_7=some r) (hS:Sq μ0 w0 w (.blk b1 76 [.slice a3 left_2.length c4,.int .i64 end_6,.int .i64 deep_7]::rsF)):CallsV prog 63 [.pointer (some ⟨b1,0,none⟩)] w (fun v w'=>∃ (μ':M) (a8:Option Addr) (c9:Nat),v=.int .i64 r.1∧Le μ0 μ'∧Sq μ' w0 w' (.blk b1 76 [.slice a8 r.2.1.length c9,.int .i64 r.2.2.1,.int .i64 r.2.2.2]::rsF)∧Sl μ' a8 c9 r.2.1):=by
 unfold p_number at h
 refine enter func63 rfl (frm:=_::u2 (u2 (u5 (u10 (u20 []))))) rfl (nz (st (ny (cseq ?_))))
 refine ccutE (rg 4 15) (by decide) (fun m w=>∃ μx b11,m=(yK4 (yO10 4 (yO5 14 (.i (.bool b11)::[]))))∧p_number_j1 left_2 end_6 deep_7 b11=some r∧Le μ0 μx∧Sq μx w0 w (.blk b1 76 [.slice a3 left_2.length c4,.int .i64 end_6,.int .i64 deep_7]::rsF)) (by rintro _ _ ⟨_,_,rfl,_⟩; rfl) ?_ ?_
 refine creg ?_
 iterate 3 refine st ?_
 refine ld ((hS.blk d0).cell d0) (wl (su (u_lensl underlying69 (et d7)) (dt p8) ?_))
 iterate 2 refine st ?_
 refine wspd (k10 d0) (q10 p0) (q10 p0) (fun h12=>?_) (fun h12=>?_)
 replace h:=iT h12 h
 refine sn rfl rfl (sn rfl rfl (sn rfl rfl (sn rfl rfl (sn rfl rfl (sn rfl rfl (sn rfl rfl (sn rfl rfl (st (wnil (xl ?_))))))))))
 exact ⟨_,_,rfl,(aK4 (aO10 (aO5 (aI aZ)))),_,true,rfl,h,Le.r,hS⟩
 replace h:=iF h12 h
 refine sy rfl (sy rfl (sy rfl (wy rfl (k10 d0) (s_load ti69 (et (k10 d3)) ((hS.blk d0).cell d0) (dt (q10 p4)) ?_))))
 obtain ⟨x13,g14,h⟩:=bI h
 obtain ⟨b15,o16,cs17,e18,f19,m20⟩:=SlR.elem m5 g14
 obtain rfl:=m20
 refine wy rfl (k10 d0) (su (u_iax underlying69 ti138 (et (k10 d4)) ec e18) (dt (q10 p5)) (sy rfl (wy rfl (k10 d0) (s_load ti3 (et (k10 d6)) ((f19 _ hS.a).one d0) (dt (q10 p7)) (sy rfl (st (wnil (xl ?_))))))))
 exact ⟨_,_,rfl,(aK4 (aO10 (aO5 (aI aZ)))),_,(decide (x13.Kind≠2)),rfl,h,Le.r,hS⟩
 rintro _ t w1 ⟨μ1,b11,rfl,h,le21,hS⟩
 unfold p_number_j1 at h
 refine nrm (mK4 (mO10 (mO5 (mi mz)))) (xn ?_)
 refine cifb (et (k10 d9)) (fun h22=>?_) (fun h22=>?_)
 replace h:=iT h22 h
 cases h
 replace h:=iF h22 h
 refine cskip (xn (nz ?_))
 iterate 3 refine st ?_
 refine ld ((hS.blk d0).cell d0) ?_
 obtain ⟨x23,g24,h⟩:=bI h
 obtain ⟨b25,o26,cs27,e28,f29,m30⟩:=SlR.elem (m5.up le21) g24
 obtain rfl:=m30
 refine wl (su (u_iax underlying69 ti138 (et (k20 d7)) ec e28) (dt (q20 p8)) (st (ld ((f29 _ hS.a).one d2) (st (nx ?_)))))
 iterate 4 refine st ?_
 refine ld ((hS.blk d0).cell d0) ?_
 obtain ⟨l31,g32,h⟩:=bI h
 obtain ⟨a33,c34,e35,m36⟩:=Sl.slc (i:=some 1) (j:=none) (m5.up le21) g32
 refine wl (su (u_slc underlying69 ti138 (et (k30 d5)) (.s ec) .n e35) (dt (q30 p6)) ?_)
 iterate 2 refine st ?_
 refine wl (s_store1 ti69 (et (k30 d8)) (et (k30 d6)) rfl hS d0 p0 rfl p0 dn ?_)
 clear hS; intro w2 hS
 refine nx ?_
 iterate 2 refine st ?_
 refine nw (cret ?_)
 obtain rfl:=oI h
 refine ret1 rfl d2 ?_
 exact ⟨_,_,_,rfl,le21,hS,m36⟩
theorem p_typ_w (hg:Le Gm μ0) {left_2:List TToken} {end_6 deep_7:Int} {r:TType×List TToken×Int×Int} (m5:Sl μ0 a3 c4 left_2) (h:p_typ fu left_2 end_6 deep_7=some r) (hS:Sq μ0 w0 w (.blk b1 76 [.slice a3 left_2.length c4,.int .i64 end_6,.int .i64 deep_7]::rsF)):CallsV prog 62 [.pointer (some ⟨b1,0,none⟩)] w (fun v w'=>∃ (μ':M) (a8:Option Addr) (c9:Nat),v=.agg ⟨[.int .i64 r.1.Kind,S r.1.Gen]⟩∧Le μ0 μ'∧Sq μ' w0 w' (.blk b1 76 [.slice a8 r.2.1.length c9,.int .i64 r.2.2.1,.int .i64 r.2.2.2]::rsF)∧Sl μ' a8 c9 r.2.1):=by
 unfold p_typ at h
 refine enter func62 rfl (frm:=_::u1 (u2 (u10 []))) rfl (nz ?_)
 refine wl (s_alloc ti62 hS ?_); clear hS; intro b11 w1 hb12 hS; refine po ?_
 refine ny (cblock (nz (st ?_)))
 obtain ⟨r13,g14,h⟩:=bI h
 replace hS:=hS.bg Y1
 refine ca (p_is_w hg m5 g14 hS) ?_
 rintro _ w2 ⟨μ1,a16,c17,rfl,le15,hS,m18⟩
 refine po (st (nw ?_))
 refine cifb (et d3) (fun h19=>?_) (fun h19=>?_)
 replace h:=iT h19 h
 refine nz (wl (s_build ti62 pl62 (Fl.o rfl ec rfl rfl p0 Fl.z) (dt p6) (wl (s_storeA ti62 (et d2) (et d6) rfl rfl hS d1 rfl p1 dn ?_))))
 clear hS; intro w3 hS
 refine nw (cret ?_)
 refine (fun h=>br (xr h)) ?_
 obtain rfl:=oI h
 refine retN rfl (RVs.s (.a d2 ti62 (hS.blk d1).cells rfl) RVs.z) ?_
 replace hS:=hS.drop (Rm.s Rm.z)
 exact ⟨_,_,_,rfl,le15,hS,m18⟩
 replace h:=iF h19 h
 refine nz (st ?_)
 obtain ⟨r20,g21,h⟩:=bI h
 refine ca (p_is_w (hg.t le15) m18 g21 hS) ?_
 rintro _ w4 ⟨μ2,a23,c24,rfl,le22,hS,m25⟩
 refine po (st (nw ?_))
 refine cifb (et d7) (fun h26=>?_) (fun h26=>?_)
 replace h:=iT h26 h
 refine nz (wl (s_build ti62 pl62 (Fl.o rfl ec rfl rfl p0 Fl.z) (dt (q10 p0)) (wl (s_storeA ti62 (et d2) (et (k10 d0)) rfl rfl hS d1 rfl p1 dn ?_))))
 clear hS; intro w5 hS
 refine nw (cret ?_)
 refine (fun h=>br (xr h)) ?_
 obtain rfl:=oI h
 refine retN rfl (RVs.s (.a d2 ti62 (hS.blk d1).cells rfl) RVs.z) ?_
 replace hS:=hS.drop (Rm.s Rm.z)
 exact ⟨_,_,_,rfl,(le15.t le22),hS,m25⟩
 replace h:=iF h26 h
 refine cskip ?_
 refine (fun h=>bn (xn h)) ?_
 refine nz (st ?_)
 obtain ⟨r27,g28,h⟩:=bI h
 refine ca (p_name_w (hg.t (le15.t le22)) m25 g28 hS) ?_
 rintro _ w6 ⟨μ3,a30,c31,rfl,le29,hS,m32⟩
 refine po (wl (s_build ti62 pl62 (Fl.o rfl ec rfl rfl p0 (Fl.o rfl (et (k10 d2)) rfl rfl p1 Fl.z)) (dt (q10 p3)) (wl (s_storeA ti62 (et d2) (et (k10 d3)) rfl rfl hS d1 rfl p1 dn ?_))))
 clear hS; intro w7 hS
 refine nw (cret ?_)
 obtain rfl:=oI h
 refine retN rfl (RVs.s (.a d2 ti62 (hS.blk d1).cells rfl) RVs.z) ?_
 replace hS:=hS.drop (Rm.s Rm.z)
 exact ⟨_,_,_,rfl,(le15.t (le22.t le29)),hS,m32⟩
theorem p_params_w (hg:Le Gm μ0) {left_2:List TToken} {end_6 deep_7:Int} {r:List TParam×List TToken×Int×Int} (m5:Sl μ0 a3 c4 left_2) (h:p_params fu left_2 end_6 deep_7=some r) (hS:Sq μ0 w0 w (.blk b1 76 [.slice a3 left_2.length c4,.int .i64 end_6,.int .i64 deep_7]::rsF)):CallsV prog 65 [.pointer (some ⟨b1,0,none⟩)] w (fun v w'=>∃ (μ':M) (a8:Option Addr) (c9:Nat) (a11:Option Addr) (c12:Nat),v=.slice a8 r.1.length c9∧Le μ0 μ'∧Sq μ' w0 w' (.blk b1 76 [.slice a11 r.2.1.length c12,.int .i64 r.2.2.1,.int .i64 r.2.2.2]::rsF)∧Sl μ' a8 c9 r.1∧Sl μ' a11 c12 r.2.1):=by
 unfold p_params at h
 refine enter func65 rfl (frm:=_::u1 (u10 (u20 []))) rfl (nz (st (nx (st (ny (nz (st ?_)))))))
 refine wl (s_bsl underlying122 ti9 (Parts.s ec rfl Parts.z) rfl rfl hS ?_); clear hS; intro b14 w1 hb15 hS; refine po ?_
 obtain ⟨μ1,le17,m16,hS⟩:=Sep.frzBlk (l:=([[40]]:List (List UInt8))) hS (Rw.one (α:=List UInt8) rfl) (Nat.le_of_ble_eq_true rfl)
 obtain ⟨r18,g19,h⟩:=bI h
 refine ca (p_need_w (hg.t le17) (m5.up le17) m16 g19 hS) ?_
 rintro _ w2 ⟨μ2,a21,c22,rfl,le20,hS,m23⟩
 refine po (nw (cblock ?_))
 replace hS:=hS.nilRow 97 (Mo.sz TParam)
 replace hS:=hS.bg Y1
 refine cloopE (rg 7 24) (by decide +kernel) (fun n m w=>∃ μx l68 a66 c67 i70 i71 l74 v72 cs73,m=(yK3 (.i (v72)::(yK3 (yO20 7 (yO4 27 [])))))∧p_params_l1 fu n l68 i70 i71 l74=some r∧Le μ2 μx∧Sq μx w0 w (.blk b1 76 [.slice a66 l68.length c67,.int .i64 i70,.int .i64 i71]::.row v72 97 3 l74.length cs73::rsF)∧Sl μx a66 c67 l68∧Rw μx cs73 l74) (by rintro _ _ _ ⟨_,_,_,_,_,_,_,_,_,rfl,_⟩; rfl) _ _ (aK3 (aI (aK3 (aO20 (aO4 aZ))))) ⟨_,r18.1,a21,c22,r18.2.1,r18.2.2,[],(.slice none 0 0),[],rfl,h,Le.r,hS,m23,Rw.nil⟩ ?_
 rintro n_1 _ t w3 ⟨μ3,l68,a66,c67,i70,i71,l74,v72,cs73,rfl,h,le117,hS,m118,m119⟩
 rcases n_1 with _|n_1
 cases h
 unfold p_params_l1 at h
 refine cnrm (mK3 (mi (mK3 (mO20 (mO4 mz))))) (cseq (nz (st ?_)))
 obtain ⟨r120,g121,h⟩:=bI h
 refine ca (p_is_w (hg.t (le17.t (le20.t le117))) m118 g121 hS) ?_
 rintro _ w4 ⟨μ4,a123,c124,rfl,le122,hS,m125⟩
 refine po (st (nw ?_))
 refine cifnb (et d9) (fun h126=>?_) (fun h126=>?_)
 replace h:=iF h126 h
 refine cskip (xn (cblock (cseq (nz (st (wl (su (u_lenv underlying63 (et (k10 d0)) (hS.get d1).isSl) (dt (q10 p1)) (st (nw ?_)))))))))
 refine ccutE (rg 13 3) (by decide) (fun m w=>∃ μx l129 a127 c128 i131 i132,m=(yK10 (yK3 (yO3 13 [])))∧p_params_j1 fu l74 (p_params_l1 fu n_1) l129 i131 i132=some r∧Le μ4 μx∧Sq μx w0 w (.blk b1 76 [.slice a127 l129.length c128,.int .i64 i131,.int .i64 i132]::.row v72 97 3 l74.length cs73::rsF)∧Sl μx a127 c128 l129) (by rintro _ _ ⟨_,_,_,_,_,_,rfl,_⟩; rfl) ?_ ?_
 refine cifd (et (k10 d2)) (fun h133=>?_) (fun h133=>?_)
 replace h:=iT h133 h
 refine creg (st ?_)
 refine wl (s_bsl underlying122 ti9 (Parts.s ec rfl Parts.z) rfl rfl hS ?_); clear hS; intro b134 w5 hb135 hS; refine po ?_
 obtain ⟨μ5,le137,m136,hS⟩:=Sep.frzBlk (l:=([[44]]:List (List UInt8))) hS (Rw.one (α:=List UInt8) rfl) (Nat.le_of_ble_eq_true rfl)
 obtain ⟨r138,g139,h⟩:=bI h
 refine ca (p_need_w (hg.t (le17.t (le20.t (le117.t (le122.t le137))))) (m125.up le137) m136 g139 hS) ?_
 rintro _ w6 ⟨μ6,a141,c142,rfl,le140,hS,m143⟩
 refine po (wnil (xl ?_))
 exact ⟨_,_,rfl,(aK10 (aK3 (aO3 aZ))),_,r138.1,_,_,r138.2.1,r138.2.2,rfl,h,(le137.t le140),hS,m143⟩
 replace h:=iF h133 h
 refine cskip (xl ?_)
 exact ⟨_,_,rfl,(aK10 (aK3 (aO3 aZ))),_,r120.2.1,_,_,r120.2.2.1,r120.2.2.2,rfl,h,Le.r,hS,m125⟩
 rintro _ t w7 ⟨μ7,l129,a127,c128,i131,i132,rfl,h,le144,hS,m145⟩
 unfold p_params_j1 at h
 refine nrm (mK10 (mK3 (mO3 mz))) (xn (cseq (nz (st (wl (su (u_lenv underlying63 (et (k10 d6)) (hS.get d1).isSl) (dt (q10 p7)) (st (nw ?_))))))))
 refine cifd (et (k10 d8)) (fun h146=>?_) (fun h146=>?_)
 replace h:=iT h146 h
 cases h
 replace h:=iF h146 h
 refine cskip (xn (creg ?_))
 iterate 2 refine st ?_
 obtain ⟨r147,g148,h⟩:=bI h
 refine ca (p_name_w (hg.t (le17.t (le20.t (le117.t (le122.t le144))))) m145 g148 hS) ?_
 rintro _ w8 ⟨μ8,a150,c151,rfl,le149,hS,m152⟩
 refine po (st ?_)
 obtain ⟨r153,g154,h⟩:=bI h
 refine ca (p_typ_w (hg.t (le17.t (le20.t (le117.t (le122.t (le144.t le149)))))) m152 g154 hS) ?_
 rintro _ w9 ⟨μ9,a156,c157,rfl,le155,hS,m158⟩
 refine po (wl (s_build ti97 pl97 (Fl.o rfl (et (k20 d5)) rfl rfl p0 (Fl.n rfl (et (k20 d7)) rfl rfl (Spl.s p1 (of_decide_eq_true rfl) (Spl.s p2 (of_decide_eq_true rfl) Spl.z)) Fl.z)) (dt (q20 p8)) ?_))
 refine wl (s_bsl1 underlying63 ti97 rfl (et (k20 d8)) rfl hS ?_); clear hS; intro b159 w10 hb160 hS; refine po ?_
 obtain ⟨l163,g164,h⟩:=bI h
 have m165:Rw μ9 [S r147.1,.int .i64 r153.1.Kind,S r153.1.Gen] [(TParam.mk r147.1 (TType.mk r153.1.Kind r153.1.Gen))]:=(Rw.one (α:=TParam) rfl)
 have m162:=Rw.app (m119.up (le122.t (le144.t (le149.t le155)))) m165 g164
 refine wl (s_app1 underlying63 ti97 rfl (et (k20 d3)) (et (k20 d9)) hS d2 (hS.blk d0).cells m165 rfl g164 (by decide) ?_); clear hS; intro v161 w11 rs_ hp_ hS; cases (show _=rs_ from hp_)
 replace hS:=Sep.reput hS p2; refine po ?_
 replace hS:=hS.drop Rm.z
 refine st (wnil ?_)
 refine (fun h=>bn (xl h)) ?_
 exact ⟨n_1,_,_,rfl,(aK3 (aI (aK3 (aO20 (aO4 aZ))))),⟨_,r153.2.1,a156,c157,r153.2.2.1,r153.2.2.2,l163,v161,(cs73++[S r147.1,.int .i64 r153.1.Kind,S r153.1.Gen]),rfl,h,(le117.t (le122.t (le144.t (le149.t le155)))),hS,m158,m162⟩,Nat.lt_succ_self _⟩
 replace h:=iT h126 h
 refine cexit ?_
 refine (fun h=>xe (xe (bh h))) ?_
 refine xn (nz ?_)
 iterate 2 refine st ?_
 refine nw (cret ?_)
 replace hS:=hS.bg Y1
 obtain ⟨μ10,a166,c167,e170,le169,m168,hq_⟩:=Sep.frzRow hS (m119.up le122) rfl; clear hS
 subst e170; have hS:=hq_; clear hq_
 obtain rfl:=oI h
 refine ret1 rfl d2 ?_
 exact ⟨_,_,_,_,_,rfl,(le17.t (le20.t (le117.t (le122.t le169)))),hS,m168,(m125.up le169)⟩
theorem p_levels_w (hg:Le Gm μ0)  {r:List TSynLevel}  (h:p_levels =some r) (hS:Sq μ0 w0 w (rsF)):CallsV prog 194 [] w (fun v w'=>∃ (μ':M) (a1:Option Addr) (c2:Nat),v=.slice a1 r.length c2∧Le μ0 μ'∧Sq μ' w0 w' (rsF)∧Sl μ' a1 c2 r):=by
 unfold p_levels at h
 refine enter func194 rfl (frm:=u2 (u5 (u10 []))) rfl (nz (st (nx ?_)))
 refine wl (s_mkmap hS ?_); clear hS; intro b4 w1 hb5 hS; refine po ?_
 refine wl (s_minsM (κ:=List UInt8) (β:=Int) (kk:=[111,114]) (xx:=18) underlying86 underlying9 (et d1) ec ec rfl hS d0 (Mq.nil (κ:=List UInt8) (β:=Int) (μ:=μ0) (c:=0)) dn ?_); clear hS; intro es6 c7 w2 rs_ m8 hp_ hS; cases (show _=rs_ from hp_)
 replace hS:=Sep.reput hS p0
 refine st (wl (s_build ti269 pl269 (Fl.o rfl (et d2) rfl rfl p0 (Fl.o rfl ec rfl rfl p1 Fl.z)) (dt p3) ?_))
 refine wl (s_mkmap hS ?_); clear hS; intro b9 w3 hb10 hS; refine po ?_
 refine wl (s_minsM (κ:=List UInt8) (β:=Int) (kk:=[97,110,100]) (xx:=17) underlying86 underlying9 (et d4) ec ec rfl hS d0 (Mq.nil (κ:=List UInt8) (β:=Int) (μ:=μ0) (c:=0)) dn ?_); clear hS; intro es11 c12 w4 rs_ m13 hp_ hS; cases (show _=rs_ from hp_)
 replace hS:=Sep.reput hS p0
 refine st (wl (s_build ti269 pl269 (Fl.o rfl (et d5) rfl rfl p0 (Fl.o rfl ec rfl rfl p1 Fl.z)) (dt p6) ?_))
 refine wl (s_mkmap hS ?_); clear hS; intro b14 w5 hb15 hS; refine po ?_
 refine wl (s_minsM (κ:=List UInt8) (β:=Int) (kk:=[61,61]) (xx:=11) underlying86 underlying9 (et d7) ec ec rfl hS d0 (Mq.nil (κ:=List UInt8) (β:=Int) (μ:=μ0) (c:=0)) dn ?_); clear hS; intro es16 c17 w6 rs_ m18 hp_ hS; cases (show _=rs_ from hp_)
 replace hS:=Sep.reput hS p0
 refine wl (s_minsM (κ:=List UInt8) (β:=Int) (kk:=[33,61]) (xx:=12) underlying86 underlying9 (et d7) ec ec rfl hS d0 m18 dn ?_); clear hS; intro es19 c20 w7 rs_ m21 hp_ hS; cases (show _=rs_ from hp_)
 replace hS:=Sep.reput hS p0
 refine wl (s_minsM (κ:=List UInt8) (β:=Int) (kk:=[60]) (xx:=13) underlying86 underlying9 (et d7) ec ec rfl hS d0 m21 dn ?_); clear hS; intro es22 c23 w8 rs_ m24 hp_ hS; cases (show _=rs_ from hp_)
 replace hS:=Sep.reput hS p0
 refine wl (s_minsM (κ:=List UInt8) (β:=Int) (kk:=[60,61]) (xx:=14) underlying86 underlying9 (et d7) ec ec rfl hS d0 m24 dn ?_); clear hS; intro es25 c26 w9 rs_ m27 hp_ hS; cases (show _=rs_ from hp_)
 replace hS:=Sep.reput hS p0
 refine wl (s_minsM (κ:=List UInt8) (β:=Int) (kk:=[62]) (xx:=15) underlying86 underlying9 (et d7) ec ec rfl hS d0 m27 dn ?_); clear hS; intro es28 c29 w10 rs_ m30 hp_ hS; cases (show _=rs_ from hp_)
 replace hS:=Sep.reput hS p0
 refine wl (s_minsM (κ:=List UInt8) (β:=Int) (kk:=[62,61]) (xx:=16) underlying86 underlying9 (et d7) ec ec rfl hS d0 m30 dn ?_); clear hS; intro es31 c32 w11 rs_ m33 hp_ hS; cases (show _=rs_ from hp_)
 replace hS:=Sep.reput hS p0
 refine st (wl (s_build ti269 pl269 (Fl.o rfl (et d8) rfl rfl p0 (Fl.o rfl ec rfl rfl p1 Fl.z)) (dt p9) ?_))
 refine wl (s_mkmap hS ?_); clear hS; intro b34 w12 hb35 hS; refine po ?_
 refine wl (s_minsM (κ:=List UInt8) (β:=Int) (kk:=[43]) (xx:=6) underlying86 underlying9 (et (k10 d0)) ec ec rfl hS d0 (Mq.nil (κ:=List UInt8) (β:=Int) (μ:=μ0) (c:=0)) dn ?_); clear hS; intro es36 c37 w13 rs_ m38 hp_ hS; cases (show _=rs_ from hp_)
 replace hS:=Sep.reput hS p0
 refine wl (s_minsM (κ:=List UInt8) (β:=Int) (kk:=[45]) (xx:=7) underlying86 underlying9 (et (k10 d0)) ec ec rfl hS d0 m38 dn ?_); clear hS; intro es39 c40 w14 rs_ m41 hp_ hS; cases (show _=rs_ from hp_)
 replace hS:=Sep.reput hS p0
 refine st (wl (s_build ti269 pl269 (Fl.o rfl (et (k10 d1)) rfl rfl p0 (Fl.o rfl ec rfl rfl p1 Fl.z)) (dt (q10 p2)) ?_))
 refine wl (s_mkmap hS ?_); clear hS; intro b42 w15 hb43 hS; refine po ?_
 refine wl (s_minsM (κ:=List UInt8) (β:=Int) (kk:=[42]) (xx:=8) underlying86 underlying9 (et (k10 d3)) ec ec rfl hS d0 (Mq.nil (κ:=List UInt8) (β:=Int) (μ:=μ0) (c:=0)) dn ?_); clear hS; intro es44 c45 w16 rs_ m46 hp_ hS; cases (show _=rs_ from hp_)
 replace hS:=Sep.reput hS p0
 refine wl (s_minsM (κ:=List UInt8) (β:=Int) (kk:=[47]) (xx:=9) underlying86 underlying9 (et (k10 d3)) ec ec rfl hS d0 m46 dn ?_); clear hS; intro es47 c48 w17 rs_ m49 hp_ hS; cases (show _=rs_ from hp_)
 replace hS:=Sep.reput hS p0
 refine wl (s_minsM (κ:=List UInt8) (β:=Int) (kk:=[37]) (xx:=10) underlying86 underlying9 (et (k10 d3)) ec ec rfl hS d0 m49 dn ?_); clear hS; intro es50 c51 w18 rs_ m52 hp_ hS; cases (show _=rs_ from hp_)
 replace hS:=Sep.reput hS p0
 refine st (wl (s_build ti269 pl269 (Fl.o rfl (et (k10 d4)) rfl rfl p0 (Fl.o rfl ec rfl rfl p1 Fl.z)) (dt (q10 p5)) ?_))
 replace hS:=hS.bg Y4
 obtain ⟨μ1,le54,m53,hS⟩:=Sep.frzMap hS m8
 replace hS:=hS.bg Y3
 obtain ⟨μ2,le56,m55,hS⟩:=Sep.frzMap hS (m13.up le54)
 replace hS:=hS.bg Y2
 obtain ⟨μ3,le58,m57,hS⟩:=Sep.frzMap hS (m33.up (le54.t le56))
 replace hS:=hS.bg Y1
 obtain ⟨μ4,le60,m59,hS⟩:=Sep.frzMap hS (m41.up (le54.t (le56.t le58)))
 obtain ⟨μ5,le62,m61,hS⟩:=Sep.frzMap hS (m52.up (le54.t (le56.t (le58.t le60))))
 refine wl (s_bslA underlying266 ti269 (by decide) (.s (et d3) rfl rfl (.s (et d6) rfl rfl (.s (et d9) rfl rfl (.s (et (k10 d2)) rfl rfl (.s (et (k10 d5)) rfl rfl .z))))) rfl hS ?_); clear hS; intro b63 w19 hb64 hS; refine po ?_
 refine st (nw (cret ?_))
 obtain ⟨μ6,le66,m65,hS⟩:=Sep.frzBlk (l:=([(TSynLevel.mk (mput ([]:List (List UInt8×Int)) [111,114] 18) false),(TSynLevel.mk (mput ([]:List (List UInt8×Int)) [97,110,100] 17) false),(TSynLevel.mk (mput (mput (mput (mput (mput (mput ([]:List (List UInt8×Int)) [61,61] 11) [33,61] 12) [60] 13) [60,61] 14) [62] 15) [62,61] 16) true),(TSynLevel.mk (mput (mput ([]:List (List UInt8×Int)) [43] 6) [45] 7) false),(TSynLevel.mk (mput (mput (mput ([]:List (List UInt8×Int)) [42] 8) [47] 9) [37] 10) false)]:List TSynLevel)) hS (Rw.cons (α:=TSynLevel) (cs:=[.map (some b4),.bool false]) (TSynLevel.i ⟨b4,rfl,(m53.up (le56.t (le58.t (le60.t le62))))⟩) (Rw.cons (α:=TSynLevel) (cs:=[.map (some b9),.bool false]) (TSynLevel.i ⟨b9,rfl,(m55.up (le58.t (le60.t le62)))⟩) (Rw.cons (α:=TSynLevel) (cs:=[.map (some b14),.bool true]) (TSynLevel.i ⟨b14,rfl,(m57.up (le60.t le62))⟩) (Rw.cons (α:=TSynLevel) (cs:=[.map (some b34),.bool false]) (TSynLevel.i ⟨b34,rfl,(m59.up le62)⟩) (Rw.cons (α:=TSynLevel) (cs:=[.map (some b42),.bool false]) (TSynLevel.i ⟨b42,rfl,m61⟩) Rw.nil))))) (Nat.le_of_ble_eq_true rfl)
 obtain rfl:=oI h
 refine ret1 rfl d0 ?_
 exact ⟨_,(some ⟨b63,0,none⟩),5,rfl,(le54.t (le56.t (le58.t (le60.t (le62.t le66))))),hS,m65⟩
theorem p_into_w (hg:Le Gm μ0) {left_2:List TToken} {end_6 deep_7:Int} {r:List TToken×Int×Int} (m5:Sl μ0 a3 c4 left_2) (h:p_into left_2 end_6 deep_7=some r) (hS:Sq μ0 w0 w (.blk b1 76 [.slice a3 left_2.length c4,.int .i64 end_6,.int .i64 deep_7]::rsF)):CallsV prog 110 [.pointer (some ⟨b1,0,none⟩)] w (fun v w'=>∃ (μ':M) (b8:Nat) (a9:Option Addr) (c10:Nat),v=.func (.func 151) ⟨[]⟩ ⟨[.pointer (some ⟨b8,0,none⟩)]⟩∧Le μ0 μ'∧Sq μ' w0 w' (.blk b8 74 [.pointer (some ⟨b1,0,none⟩)]::.blk b1 76 [.slice a9 r.1.length c10,.int .i64 r.2.1,.int .i64 r.2.2]::rsF)∧Sl μ' a9 c10 r.1):=by
 unfold p_into at h
 refine enter func110 rfl (frm:=_::u2 (u2 (u5 (u10 [])))) rfl (nz ?_)
 refine wl (s_box (et d0) rfl hS ?_); clear hS; intro b12 w1 hb13 hS; refine po ?_
 refine st (ny (nz (ld ((hS.blk d0).cell d0) ?_)))
 iterate 2 refine st ?_
 refine ld ((hS.blk d1).cell d2) ?_
 obtain ⟨i14,g15,h⟩:=bI h
 refine wl (su (u_addc (et d6) ec g15) (dt p7) ?_)
 iterate 2 refine st ?_
 refine wl (s_store1 ti3 (et d9) (et d7) rfl hS d1 p2 rfl p1 dn ?_)
 clear hS; intro w2 hS
 refine nx (ld ((hS.blk d0).cell d0) ?_)
 iterate 2 refine st ?_
 refine ld ((hS.blk d1).cell d2) (st (nw ?_))
 refine cifd (et (k10 d4)) (fun h16=>?_) (fun h16=>?_)
 replace h:=iT h16 h
 cases h
 replace h:=iF h16 h
 refine cskip (xn (nz (wl (su (u_mkfn e0 (e1 (et d1) e0)) (dt (q10 p9)) (st (nw (cret ?_)))))))
 obtain rfl:=oI h
 refine ret1 rfl d2 ?_
 exact ⟨_,_,_,_,rfl,Le.r,hS,m5⟩
theorem p_out_w {μ0:M} {w0 w:World} {rsF:List Res} (hg:Le Gm μ0) {b1 b2:Nat} {left_3:List TToken} {a4:Option Addr} {c5:Nat} {end_7 deep_8:Int} {r:List TToken×Int×Int} (m6:Sl μ0 a4 c5 left_3) (h:p_out left_3 end_7 deep_8=some r) (hS:Sq μ0 w0 w (.blk b1 74 [.pointer (some ⟨b2,0,none⟩)]::.blk b2 76 [.slice a4 left_3.length c5,.int .i64 end_7,.int .i64 deep_8]::rsF)):CallsDV prog 151 [.pointer (some ⟨b1,0,none⟩)] w (fun v w'=>∃ (μ':M) (a9:Option Addr) (c10:Nat),v=.tuple ⟨[]⟩∧Le μ0 μ'∧Sq μ' w0 w' (.blk b1 74 [.pointer (some ⟨b2,0,none⟩)]::.blk b2 76 [.slice a9 r.1.length c10,.int .i64 r.2.1,.int .i64 r.2.2]::rsF)∧Sl μ' a9 c10 r.1):=by
 unfold p_out at h
 refine enterDD func151 rfl (frm:=[_,_,_,_,_,_,_,_]) rfl (creg (ld ((hS.blk d0).cell d0) ?_))
 iterate 2 refine st ?_
 refine ld ((hS.blk d1).cell d2) ?_
 obtain ⟨i12,g13,h⟩:=bI h
 refine wl (su (u_subc (et d4) ec g13) (dt p5) ?_)
 iterate 2 refine st ?_
 refine wl (s_store1 ti3 (et d7) (et d5) rfl hS d1 p2 rfl p1 dn ?_)
 clear hS; intro w1 hS
 refine wnil ?_
 obtain rfl:=oI h
 refine end0 rfl ?_
 exact ⟨_,_,_,rfl,Le.r,hS,m6⟩
end Go.Proofs.YtdfnejebobekoaaGreatDoor
set_option maxRecDepth 100000
set_option maxHeartbeats 20000000
namespace Go.Proofs.YtdfnejebobekoaaGreatDoor
open Go.Wk Go.Xt Go.Y Tryz
variable {b1 c4 fu:Nat} {a3:Option Addr} {μ0:M} {w0 w:World} {rsF:List Res}
structure ParESound (sf:ParE):Prop where
  p_expr:∀ {μ0:M} {w0 w:World} {rsF:List Res} (hg:Le Gm μ0) {b1:Nat} {left_2:List TToken} {a3:Option Addr} {c4:Nat} {end_6 deep_7:Int} {r:TExpr×List TToken×Int×Int} (m5:Sl μ0 a3 c4 left_2) (h:sf.p_expr left_2 end_6 deep_7=some r) (hS:Sq μ0 w0 w (.blk b1 76 [.slice a3 left_2.length c4,.int .i64 end_6,.int .i64 deep_7]::rsF)),CallsV prog 152 [.pointer (some ⟨b1,0,none⟩)] w (fun v w'=>∃ (μ':M) (a8:Option Addr) (c9:Nat) (a11:Option Addr) (c12:Nat),v=.agg ⟨[.int .i64 r.1.Kind,.int .i64 r.1.N,S r.1.Name,.slice a8 r.1.Kids.length c9]⟩∧Le μ0 μ'∧Sq μ' w0 w' (.blk b1 76 [.slice a11 r.2.1.length c12,.int .i64 r.2.2.1,.int .i64 r.2.2.2]::rsF)∧Sl μ' a8 c9 r.1.Kids∧Sl μ' a11 c12 r.2.1)
  p_level:∀ {μ0:M} {w0 w:World} {rsF:List Res} (hg:Le Gm μ0) {b1:Nat} {left_2:List TToken} {a3:Option Addr} {c4:Nat} {end_6 deep_7 p_2:Int} {r:TExpr×List TToken×Int×Int} (m5:Sl μ0 a3 c4 left_2) (h:sf.p_level left_2 end_6 deep_7 p_2=some r) (hS:Sq μ0 w0 w (.blk b1 76 [.slice a3 left_2.length c4,.int .i64 end_6,.int .i64 deep_7]::rsF)),CallsV prog 180 [.pointer (some ⟨b1,0,none⟩),.int .i64 p_2] w (fun v w'=>∃ (μ':M) (a8:Option Addr) (c9:Nat) (a11:Option Addr) (c12:Nat),v=.agg ⟨[.int .i64 r.1.Kind,.int .i64 r.1.N,S r.1.Name,.slice a8 r.1.Kids.length c9]⟩∧Le μ0 μ'∧Sq μ' w0 w' (.blk b1 76 [.slice a11 r.2.1.length c12,.int .i64 r.2.2.1,.int .i64 r.2.2.2]::rsF)∧Sl μ' a8 c9 r.1.Kids∧Sl μ' a11 c12 r.2.1)
  p_unary:∀ {μ0:M} {w0 w:World} {rsF:List Res} (hg:Le Gm μ0) {b1:Nat} {left_2:List TToken} {a3:Option Addr} {c4:Nat} {end_6 deep_7:Int} {r:TExpr×List TToken×Int×Int} (m5:Sl μ0 a3 c4 left_2) (h:sf.p_unary left_2 end_6 deep_7=some r) (hS:Sq μ0 w0 w (.blk b1 76 [.slice a3 left_2.length c4,.int .i64 end_6,.int .i64 deep_7]::rsF)),CallsV prog 195 [.pointer (some ⟨b1,0,none⟩)] w (fun v w'=>∃ (μ':M) (a8:Option Addr) (c9:Nat) (a11:Option Addr) (c12:Nat),v=.agg ⟨[.int .i64 r.1.Kind,.int .i64 r.1.N,S r.1.Name,.slice a8 r.1.Kids.length c9]⟩∧Le μ0 μ'∧Sq μ' w0 w' (.blk b1 76 [.slice a11 r.2.1.length c12,.int .i64 r.2.2.1,.int .i64 r.2.2.2]::rsF)∧Sl μ' a8 c9 r.1.Kids∧Sl μ' a11 c12 r.2.1)
  p_primary:∀ {μ0:M} {w0 w:World} {rsF:List Res} (hg:Le Gm μ0) {b1:Nat} {left_2:List TToken} {a3:Option Addr} {c4:Nat} {end_6 deep_7:Int} {r:TExpr×List TToken×Int×Int} (m5:Sl μ0 a3 c4 left_2) (h:sf.p_primary left_2 end_6 deep_7=some r) (hS:Sq μ0 w0 w (.blk b1 76 [.slice a3 left_2.length c4,.int .i64 end_6,.int .i64 deep_7]::rsF)),CallsV prog 208 [.pointer (some ⟨b1,0,none⟩)] w (fun v w'=>∃ (μ':M) (a8:Option Addr) (c9:Nat) (a11:Option Addr) (c12:Nat),v=.agg ⟨[.int .i64 r.1.Kind,.int .i64 r.1.N,S r.1.Name,.slice a8 r.1.Kids.length c9]⟩∧Le μ0 μ'∧Sq μ' w0 w' (.blk b1 76 [.slice a11 r.2.1.length c12,.int .i64 r.2.2.1,.int .i64 r.2.2.2]::rsF)∧Sl μ' a8 c9 r.1.Kids∧Sl μ' a11 c12 r.2.1)
  p_args:∀ {μ0:M} {w0 w:World} {rsF:List Res} (hg:Le Gm μ0) {b1:Nat} {left_2:List TToken} {a3:Option Addr} {c4:Nat} {end_6 deep_7:Int} {r:List TExpr×List TToken×Int×Int} (m5:Sl μ0 a3 c4 left_2) (h:sf.p_args left_2 end_6 deep_7=some r) (hS:Sq μ0 w0 w (.blk b1 76 [.slice a3 left_2.length c4,.int .i64 end_6,.int .i64 deep_7]::rsF)),CallsV prog 213 [.pointer (some ⟨b1,0,none⟩)] w (fun v w'=>∃ (μ':M) (a8:Option Addr) (c9:Nat) (a11:Option Addr) (c12:Nat),v=.slice a8 r.1.length c9∧Le μ0 μ'∧Sq μ' w0 w' (.blk b1 76 [.slice a11 r.2.1.length c12,.int .i64 r.2.2.1,.int .i64 r.2.2.2]::rsF)∧Sl μ' a8 c9 r.1∧Sl μ' a11 c12 r.2.1)
  p_fixed:∀ {μ0:M} {w0 w:World} {rsF:List Res} (hg:Le Gm μ0) {b1:Nat} {left_2:List TToken} {a3:Option Addr} {c4:Nat} {end_6 deep_7 p_2 p_3:Int} {r:TExpr×List TToken×Int×Int} (m5:Sl μ0 a3 c4 left_2) (h:sf.p_fixed left_2 end_6 deep_7 p_2 p_3=some r) (hS:Sq μ0 w0 w (.blk b1 76 [.slice a3 left_2.length c4,.int .i64 end_6,.int .i64 deep_7]::rsF)),CallsV prog 212 [.pointer (some ⟨b1,0,none⟩),.int .i64 p_2,.int .i64 p_3] w (fun v w'=>∃ (μ':M) (a8:Option Addr) (c9:Nat) (a11:Option Addr) (c12:Nat),v=.agg ⟨[.int .i64 r.1.Kind,.int .i64 r.1.N,S r.1.Name,.slice a8 r.1.Kids.length c9]⟩∧Le μ0 μ'∧Sq μ' w0 w' (.blk b1 76 [.slice a11 r.2.1.length c12,.int .i64 r.2.2.1,.int .i64 r.2.2.2]::rsF)∧Sl μ' a8 c9 r.1.Kids∧Sl μ' a11 c12 r.2.1)
theorem p_expr_w {self:ParE} (IH:ParESound self) {μ0:M} {w0 w:World} {rsF:List Res} (hg:Le Gm μ0) {b1:Nat} {left_2:List TToken} {a3:Option Addr} {c4:Nat} {end_6 deep_7:Int} {r:TExpr×List TToken×Int×Int} (m5:Sl μ0 a3 c4 left_2) (h:p_expr self left_2 end_6 deep_7=some r) (hS:Sq μ0 w0 w (.blk b1 76 [.slice a3 left_2.length c4,.int .i64 end_6,.int .i64 deep_7]::rsF)):CallsV prog 152 [.pointer (some ⟨b1,0,none⟩)] w (fun v w'=>∃ (μ':M) (a8:Option Addr) (c9:Nat) (a11:Option Addr) (c12:Nat),v=.agg ⟨[.int .i64 r.1.Kind,.int .i64 r.1.N,S r.1.Name,.slice a8 r.1.Kids.length c9]⟩∧Le μ0 μ'∧Sq μ' w0 w' (.blk b1 76 [.slice a11 r.2.1.length c12,.int .i64 r.2.2.1,.int .i64 r.2.2.2]::rsF)∧Sl μ' a8 c9 r.1.Kids∧Sl μ' a11 c12 r.2.1):=by
 unfold p_expr at h
 refine enterF func152 rfl (frm:=_::u1 (u5 [])) rfl (nz ?_)
 refine wl (s_alloc ti111 hS ?_); clear hS; intro b14 w1 hb15 hS; refine po ?_
 refine nx (st ?_)
 obtain ⟨r16,g17,h⟩:=bI h
 replace hS:=hS.bg Y1
 refine ca (p_into_w hg m5 g17 hS) ?_
 rintro _ w2 ⟨μ1,b19,a20,c21,rfl,le18,hS,m22⟩
 refine po (wl (s_defer (et d4) e0 dn (nx (st ?_))))
 obtain ⟨r23,g24,h⟩:=bI h
 replace hS:=hS.bg Y1
 refine ca (IH.p_level (hg.t le18) m22 g24 hS) ?_
 rintro _ w3 ⟨μ2,a26,c27,a29,c30,rfl,le25,hS,m28,m31⟩
 refine po (wl (s_storeA ti111 (et d2) (et d6) rfl rfl hS d2 rfl p2 dn ?_))
 clear hS; intro w4 hS
 refine nw (cret ?_)
 obtain ⟨r32,g33,h⟩:=bI h
 replace hS:=hS.bg Y1
 refine retD isfn151 (p_out_w (hg.t (le18.t le25)) m31 g33 hS) ?_
 rintro _ w5 ⟨μ3,a35,c36,rfl,le34,hS,m37⟩
 obtain rfl:=oI h
 refine retDN rfl (RVs.s (.a d2 ti111 (hS.blk d2).cells rfl) RVs.z) ?_
 replace hS:=(hS.drop Rm.z).drop (Rm.s Rm.z)
 exact ⟨_,_,_,_,_,rfl,(le18.t (le25.t le34)),hS,(m28.up le34),m37⟩
theorem p_level_w {self:ParE} (IH:ParESound self) {fu:Nat} {μ0:M} {w0 w:World} {rsF:List Res} (hg:Le Gm μ0) {b1:Nat} {left_2:List TToken} {a3:Option Addr} {c4:Nat} {end_6 deep_7 p_2:Int} {r:TExpr×List TToken×Int×Int} (m5:Sl μ0 a3 c4 left_2) (h:p_level fu self left_2 end_6 deep_7 p_2=some r) (hS:Sq μ0 w0 w (.blk b1 76 [.slice a3 left_2.length c4,.int .i64 end_6,.int .i64 deep_7]::rsF)):CallsV prog 180 [.pointer (some ⟨b1,0,none⟩),.int .i64 p_2] w (fun v w'=>∃ (μ':M) (a8:Option Addr) (c9:Nat) (a11:Option Addr) (c12:Nat),v=.agg ⟨[.int .i64 r.1.Kind,.int .i64 r.1.N,S r.1.Name,.slice a8 r.1.Kids.length c9]⟩∧Le μ0 μ'∧Sq μ' w0 w' (.blk b1 76 [.slice a11 r.2.1.length c12,.int .i64 r.2.2.1,.int .i64 r.2.2.2]::rsF)∧Sl μ' a8 c9 r.1.Kids∧Sl μ' a11 c12 r.2.1):=by
 unfold p_level at h
 refine enter func180 rfl (frm:=_::_::u10 (u50 [])) rfl (nz ?_)
 refine wl (s_alloc ti111 hS ?_); clear hS; intro b14 w1 hb15 hS; refine po ?_
 refine nx ?_
 obtain ⟨r16,g17,h⟩:=bI h
 refine ca (p_levels_w hg g17 hS) ?_
 rintro _ w2 ⟨μ1,a19,c20,rfl,le18,hS,m21⟩
 refine po (st (ny (nz ?_)))
 iterate 2 refine st ?_
 refine wl (su (u_lensl underlying266 (et (k10 d0))) (dt (q10 p1)) (st (nw ?_)))
 refine cifd (et (k10 d2)) (fun h22=>?_) (fun h22=>?_)
 replace h:=iT h22 h
 refine nz (st ?_)
 obtain ⟨r23,g24,h⟩:=bI h
 replace hS:=hS.bg Y1
 refine ca (IH.p_unary (hg.t le18) (m5.up le18) g24 hS) ?_
 rintro _ w3 ⟨μ2,a26,c27,a29,c30,rfl,le25,hS,m28,m31⟩
 refine po (wl (s_storeA ti111 (et d4) (et (k10 d4)) rfl rfl hS d1 rfl p1 dn ?_))
 clear hS; intro w4 hS
 refine nw (cret (xr ?_))
 obtain rfl:=oI h
 refine retN rfl (RVs.s (.a d4 ti111 (hS.blk d1).cells rfl) RVs.z) ?_
 replace hS:=hS.drop (Rm.s Rm.z)
 exact ⟨_,_,_,_,_,rfl,(le18.t le25),hS,m28,m31⟩
 replace h:=iF h22 h
 refine cskip (xn (nz ?_))
 iterate 2 refine st ?_
 obtain ⟨i33,g34,h⟩:=bI h
 refine wl (su (u_addc (et (k10 d6)) ec g34) (dt (q10 p7)) ?_)
 obtain ⟨r35,g36,h⟩:=bI h
 replace hS:=hS.bg Y1
 refine ca (IH.p_level (hg.t le18) (m5.up le18) g36 hS) ?_
 rintro _ w5 ⟨μ3,a38,c39,a41,c42,rfl,le37,hS,m40,m43⟩
 refine po ?_
 refine wl (s_alloc ti111 hS ?_); clear hS; intro b44 w6 hb45 hS; refine po ?_
 refine wl (s_storeA ti111 (et d6) (et (k10 d8)) rfl rfl hS d0 rfl p0 dn ?_)
 clear hS; intro w7 hS
 refine ny ?_
 refine ccutE ([7]++rg 19 42) (by decide +kernel) (fun m w=>∃ μx l48 a46 c47 i50 i51 i52 i53 s54 l57 a55 c56,m=(yK7 (yO1 7 (yK10 (yK1 (yO20 19 (yO20 39 (yO2 59 [])))))))∧p_level_j1 l48 i50 i51 i52 i53 s54 l57=some r∧Le μ3 μx∧Sq μx w0 w (.blk b1 76 [.slice a46 l48.length c47,.int .i64 i50,.int .i64 i51]::.blk b14 111 [.int .i64 0,.int .i64 0,S [],.slice none 0 0]::.blk b44 111 [.int .i64 i52,.int .i64 i53,S s54,.slice a55 l57.length c56]::rsF)∧Sl μx a46 c47 l48∧Sl μx a55 c56 l57) (by rintro _ _ ⟨_,_,_,_,_,_,_,_,_,_,_,_,rfl,_⟩; rfl) ?_ ?_
 refine cblock ?_
 replace hS:=(hS.bg Y2).bg Y2
 refine cloopE ([7]++rg 19 42) (by decide +kernel) (fun n m w=>∃ μx l114 a112 c113 i116 i117 i118 i119 s120 l123 a121 c122,m=(yK7 (yO1 7 (yK10 (yK1 (yO20 19 (yO20 39 (yO2 59 [])))))))∧p_level_l1 self p_2 r16 n l114 i116 i117 i118 i119 s120 l123=some r∧Le μ3 μx∧Sq μx w0 w (.blk b1 76 [.slice a112 l114.length c113,.int .i64 i116,.int .i64 i117]::.blk b14 111 [.int .i64 0,.int .i64 0,S [],.slice none 0 0]::.blk b44 111 [.int .i64 i118,.int .i64 i119,S s120,.slice a121 l123.length c122]::rsF)∧Sl μx a112 c113 l114∧Sl μx a121 c122 l123) (by rintro _ _ _ ⟨_,_,_,_,_,_,_,_,_,_,_,_,rfl,_⟩; rfl) _ _ (aK7 (aO1 (aK10 (aK1 (aO20 (aO20 (aO2 aZ))))))) ⟨_,r35.2.1,a41,c42,r35.2.2.1,r35.2.2.2,r35.1.Kind,r35.1.N,r35.1.Name,r35.1.Kids,a38,c39,rfl,h,Le.r,hS,m43,m40⟩ ?_
 rintro n_1 _ t w8 ⟨μ4,l114,a112,c113,i116,i117,i118,i119,s120,l123,a121,c122,rfl,h,le178,hS,m179,m180⟩
 rcases n_1 with _|n_1
 cases h
 unfold p_level_l1 at h
 refine cnrm (mK7 (mO1 (mK10 (mK1 (mO20 (mO20 (mO2 mz))))))) (cseq (nz ?_))
 iterate 3 refine st ?_
 refine ld ((hS.blk d0).cell d0) (wl (su (u_lensl underlying69 (et (k20 d2))) (dt (q20 p3)) (st (nw ?_))))
 refine cifd (et (k20 d4)) (fun h181=>?_) (fun h181=>?_)
 replace h:=iT h181 h
 refine cskip (xn (cblock (cseq ?_)))
 refine cdw hS ?_; clear hS; intro w9 hS
 refine sf_start (fpi 0 [0,2,3,4,12,13] rfl (fpi 1 [1,2,3,4,12,13] rfl ?_))
 obtain ⟨x182,g183,h⟩:=bI h
 obtain ⟨b184,o185,cs186,e187,f188,m189⟩:=SlR.elem (m21.up (le37.t le178)) g183
 obtain ⟨b190,rfl,m191⟩:=m189
 refine fp 2 [2,3,4,12,13] rfl (u_iax underlying266 ti269 (et (k20 d5)) (et (k20 d6)) e187) (q20 p7) (fpi 3 [3,4,12,13] rfl (fr_ 4 [4,12,13] rfl (u_load ti86 (et (k20 d8)) ((f188 _ hS.a).one d0)) (q20 p9) (fpi 5 [5,6,7,8,9,10,11,12,13] rfl (fpi 6 [6,7,8,9,10,11,12,13] rfl (fpi 7 [7,8,9,10,11,12,13] rfl (fr_ 8 [8,9,10,11,12,13] rfl (u_load ti69 (et (k30 d2)) ((hS.blk d0).cell d0)) (q30 p3) ?_))))))
 obtain ⟨x192,g193,h⟩:=bI h
 obtain ⟨b194,o195,cs196,e197,f198,m199⟩:=SlR.elem m179 g193
 obtain rfl:=m199
 refine fp 9 [9,10,11,12,13] rfl (u_iax underlying69 ti138 (et (k30 d3)) ec e197) (q30 p4) (fpi 10 [10,11,12,13] rfl (fr_ 11 [11,12,13] rfl (u_load ti9 (et (k30 d5)) ((f198 _ hS.a).one d1)) (q30 p6) ?_))
 obtain ⟨es200,c201,hb202,hq203⟩:=m191
 refine sf1 rfl rfl rfl rfl (wn0 rfl) (s_mget1 (κ:=List UInt8) (k:=x192.Text) (β:=Int) (zx:=0) underlying86 underlying9 (et (k20 d9)) (et (k30 d6)) zv3 rfl (hb202 _ hS.a) hq203 ?_); rintro _ rfl; refine po ?_
 refine ⟨Mons.z,?_⟩
 refine fpi 13 [13] rfl (sf_nil (xn (cseq (nz ?_))))
 iterate 2 refine st ?_
 refine nw ?_
 refine cifd (et (k30 d9)) (fun h206=>?_) (fun h206=>?_)
 replace h:=iT h206 h
 refine cexit ?_
 refine (fun h=>xe (bm rfl (xe (bh h)))) ?_
 refine xl ?_
 exact ⟨_,_,rfl,(aK7 (aO1 (aK10 (aK1 (aO20 (aO20 (aO2 aZ))))))),_,_,_,_,_,_,_,_,_,_,_,_,rfl,h,le178,hS,m179,m180⟩
 replace h:=iF h206 h
 refine cskip (xn (nz ?_))
 iterate 4 refine st ?_
 refine ld ((hS.blk d0).cell d0) ?_
 obtain ⟨l207,g208,h⟩:=bI h
 obtain ⟨a209,c210,e211,m212⟩:=Sl.slc (i:=some 1) (j:=none) m179 g208
 refine wl (su (u_slc underlying69 ti138 (et (k40 d4)) (.s ec) .n e211) (dt (q40 p5)) ?_)
 iterate 2 refine st ?_
 refine wl (s_store1 ti69 (et (k40 d7)) (et (k40 d5)) rfl hS d0 p0 rfl p0 dn ?_)
 clear hS; intro w10 hS
 refine ny ?_
 refine ccutE (rg 48 8) (by decide) (fun m w=>∃ μx l215 a213 c214 i217 i218 l221 a219 c220,m=(yK20 (yK20 (yK8 (yO8 48 []))))∧p_level_j2 p_2 r16 x182 x192 (p_level_l1 self p_2 r16 n_1) l215 i217 i218 l221=some r∧Le μ4 μx∧Sq μx w0 w (.blk b1 76 [.slice a213 l215.length c214,.int .i64 i217,.int .i64 i218]::.blk b14 111 [.int .i64 0,.int .i64 0,S [],.slice none 0 0]::.blk b44 111 [.int .i64 ((mget x182.signs x192.Text).getD 0),.int .i64 0,S [],.slice a219 l221.length c220]::rsF)∧Sl μx a213 c214 l215∧Sl μx a219 c220 l221) (by rintro _ _ ⟨_,_,_,_,_,_,_,_,_,rfl,_⟩; rfl) ?_ ?_
 refine cdw hS ?_; clear hS; intro w11 hS
 refine sf_start (fpi 0 [0,7,8] rfl (fr_ 1 [1,6,7,8] rfl (u_loads ti111 (et d6) (hS.blk d2).cells rfl) (q40 p9) (fpi 2 [2,5,6,7,8] rfl (fpi 3 [3,4,5,6,7,8] rfl ?_))))
 obtain ⟨i231,g232,h⟩:=bI h
 refine fp 4 [4,5,6,7,8] rfl (u_addc (et (k50 d1)) ec g232) (q50 p2) ?_
 obtain ⟨r233,g234,h⟩:=bI h
 refine sf1 rfl rfl rfl rfl (wn0 rfl) (s_callv isfn180 ef (e1 (et (k50 d0)) (e1 (et (k50 d2)) e0)) (IH.p_level (hg.t (le18.t (le37.t le178))) m212 g234 hS) ?_)
 rintro _ w12 ⟨μ5,a236,c237,a239,c240,rfl,le235,hS,m238,m241⟩
 refine po ?_
 refine ⟨(Mons.s (u_loads ti111 (et d6) (hS.blk d2).cells rfl) Mons.z),?_⟩
 refine sf1 rfl rfl rfl rfl (wn0 rfl) (s_bslA underlying109 ti111 (by decide) (.s (et (k40 d9)) rfl rfl (.s (et (k50 d3)) rfl rfl .z)) rfl hS ?_); clear hS; intro b242 w13 hb243 hS; refine po ?_
 refine ⟨Mons.z,?_⟩
 refine fp 7 [7,8] rfl (u_build ti111 pl111 (Fl.o rfl (et (k40 d8)) rfl rfl p0 (Fl.o rfl (et (k50 d4)) rfl rfl p3 Fl.z))) (q50 p5) (sf1 rfl rfl rfl rfl (wn0 rfl) (s_storeA ti111 (et d6) (et (k50 d5)) rfl rfl hS d3 rfl p3 dn ?_))
 clear hS; intro w14 hS
 refine ⟨Mons.z,?_⟩
 refine sf_nil (xl ?_)
 obtain ⟨μ6,le245,m244,hS⟩:=Sep.frzBlk (l:=([(TExpr.mk i118 i119 s120 l123),r233.1]:List TExpr)) hS (Rw.cons (α:=TExpr) (cs:=[.int .i64 i118,.int .i64 i119,S s120,.slice a121 l123.length c122]) (TExpr.i ⟨a121,c122,rfl,(m180.up le235)⟩) (Rw.cons (α:=TExpr) (cs:=[.int .i64 r233.1.Kind,.int .i64 r233.1.N,S r233.1.Name,.slice a236 r233.1.Kids.length c237]) (TExpr.i ⟨a236,c237,rfl,m238⟩) Rw.nil)) (Nat.le_of_ble_eq_true rfl)
 exact ⟨_,_,rfl,(aK20 (aK20 (aK8 (aO8 aZ)))),_,r233.2.1,_,_,r233.2.2.1,r233.2.2.2,[(TExpr.mk i118 i119 s120 l123),r233.1],(some ⟨b242,0,none⟩),2,rfl,h,(le235.t le245),hS,(m241.up le245),m244⟩
 rintro _ t w15 ⟨μ7,l215,a213,c214,i217,i218,l221,a219,c220,rfl,h,le246,hS,m247,m248⟩
 unfold p_level_j2 at h
 refine nrm (mK20 (mK20 (mK8 (mO8 mz)))) (xn (nz ?_))
 iterate 2 refine st ?_
 obtain ⟨x249,g250,h⟩:=bI h
 obtain ⟨b251,o252,cs253,e254,f255,m256⟩:=SlR.elem (m21.up (le37.t (le178.t le246))) g250
 obtain ⟨b257,rfl,m258⟩:=m256
 refine wl (su (u_iax underlying266 ti269 (et (k50 d6)) (et (k50 d7)) e254) (dt (q50 p8)) (st (ld ((f255 _ hS.a).one d1) (nw ?_))))
 refine cifb (et (k60 d0)) (fun h259=>?_) (fun h259=>?_)
 replace h:=iT h259 h
 refine cexit ?_
 refine (fun h=>bm rfl (xe (bh h))) ?_
 refine xl ?_
 exact ⟨_,_,rfl,(aK7 (aO1 (aK10 (aK1 (aO20 (aO20 (aO2 aZ))))))),_,_,_,_,_,_,((mget x182.signs x192.Text).getD 0),0,[],_,_,_,rfl,h,(le178.t le246),hS,m247,m248⟩
 replace h:=iF h259 h
 refine cskip ?_
 refine (fun h=>bn (xl h)) ?_
 exact ⟨n_1,_,_,rfl,(aK7 (aO1 (aK10 (aK1 (aO20 (aO20 (aO2 aZ))))))),⟨_,l215,a213,c214,i217,i218,((mget x182.signs x192.Text).getD 0),0,[],l221,a219,c220,rfl,h,(le178.t le246),hS,m247,m248⟩,Nat.lt_succ_self _⟩
 replace h:=iF h181 h
 refine cexit ?_
 refine (fun h=>xe (xe (bh h))) ?_
 refine xl ?_
 exact ⟨_,_,rfl,(aK7 (aO1 (aK10 (aK1 (aO20 (aO20 (aO2 aZ))))))),_,_,_,_,_,_,_,_,_,_,_,_,rfl,h,le178,hS,m179,m180⟩
 rintro _ t w16 ⟨μ8,l48,a46,c47,i50,i51,i52,i53,s54,l57,a55,c56,rfl,h,le260,hS,m261,m262⟩
 unfold p_level_j1 at h
 refine nrm (mK7 (mO1 (mK10 (mK1 (mO20 (mO20 (mO2 mz))))))) (xn (nz (lds (hS.blk d2).cells rfl (wl (s_storeA ti111 (et d4) (et (k60 d1)) rfl rfl hS d1 rfl p1 dn ?_)))))
 clear hS; intro w17 hS
 refine nw (cret ?_)
 obtain rfl:=oI h
 refine retN rfl (RVs.s (.a d4 ti111 (hS.blk d1).cells rfl) RVs.z) ?_
 replace hS:=(hS.drop (Rm.s Rm.z)).drop (Rm.s Rm.z)
 exact ⟨_,_,_,_,_,rfl,(le18.t (le37.t le260)),hS,m262,m261⟩
theorem p_unary_w {self:ParE} (IH:ParESound self) {μ0:M} {w0 w:World} {rsF:List Res} (hg:Le Gm μ0) {b1:Nat} {left_2:List TToken} {a3:Option Addr} {c4:Nat} {end_6 deep_7:Int} {r:TExpr×List TToken×Int×Int} (m5:Sl μ0 a3 c4 left_2) (h:p_unary self left_2 end_6 deep_7=some r) (hS:Sq μ0 w0 w (.blk b1 76 [.slice a3 left_2.length c4,.int .i64 end_6,.int .i64 deep_7]::rsF)):CallsV prog 195 [.pointer (some ⟨b1,0,none⟩)] w (fun v w'=>∃ (μ':M) (a8:Option Addr) (c9:Nat) (a11:Option Addr) (c12:Nat),v=.agg ⟨[.int .i64 r.1.Kind,.int .i64 r.1.N,S r.1.Name,.slice a8 r.1.Kids.length c9]⟩∧Le μ0 μ'∧Sq μ' w0 w' (.blk b1 76 [.slice a11 r.2.1.length c12,.int .i64 r.2.2.1,.int .i64 r.2.2.2]::rsF)∧Sl μ' a8 c9 r.1.Kids∧Sl μ' a11 c12 r.2.1):=by
 unfold p_unary at h
 refine enterF func195 rfl (frm:=_::u2 (u2 (u20 []))) rfl (nz ?_)
 refine wl (s_alloc ti111 hS ?_); clear hS; intro b14 w1 hb15 hS; refine po ?_
 refine ny (nz ?_)
 refine wl (s_mkmap hS ?_); clear hS; intro b16 w2 hb17 hS; refine po ?_
 refine wl (s_minsM (κ:=List UInt8) (β:=Int) (kk:=[45]) (xx:=4) underlying86 underlying9 (et d5) ec ec rfl hS d0 (Mq.nil (κ:=List UInt8) (β:=Int) (μ:=μ0) (c:=0)) dn ?_); clear hS; intro es18 c19 w3 rs_ m20 hp_ hS; cases (show _=rs_ from hp_)
 replace hS:=Sep.reput hS p0
 refine wl (s_minsM (κ:=List UInt8) (β:=Int) (kk:=[110,111,116]) (xx:=5) underlying86 underlying9 (et d5) ec ec rfl hS d0 m20 dn ?_); clear hS; intro es21 c22 w4 rs_ m23 hp_ hS; cases (show _=rs_ from hp_)
 replace hS:=Sep.reput hS p0
 refine st ?_
 obtain ⟨n26,n27,e28,h29,h30⟩:=Mq.two (k0:=[45]) (x0:=4) (k1:=[110,111,116]) (x1:=5) m23; subst e28
 refine wl (s_rangem underlying86 (et d6) hS d0 ?_); clear hS; intro b24 w5 hb25 hS; refine po ?_
 refine nw (cblock (cunroll 3 (crnd (nz ?_))))
 refine wl (s_next0 (et d7) hS d0 d1 h29 h30 ?_ ?_)
 clear hS; intro w6 rs_ hp_ hS; cases (show _=rs_ from hp_)
 replace hS:=Sep.reput hS p0; refine po ?_
 refine st (ny (cift (et d9) (cskip (xn (cblock (nz (wl (s_entry (e:=⟨S [45],.int .i64 4,n26⟩) (et d7) hS d0 d1 h29 rfl (.inl rfl) (dt (q10 p0)) ?_))))))))
 iterate 4 refine st ?_
 refine nx ?_
 iterate 2 refine st ?_
 obtain ⟨r31,g32,h⟩:=bI h
 replace hS:=hS.bg Y3
 refine ca (p_is_w hg m5 g32 hS) ?_
 rintro _ w7 ⟨μ1,a34,c35,rfl,le33,hS,m36⟩
 refine po (nw ?_)
 refine cifb (et (k10 d5)) (fun h37=>?_) (fun h37=>?_)
 replace h:=iT h37 h
 refine nz (st ?_)
 obtain ⟨r38,g39,h⟩:=bI h
 refine ca (p_into_w (hg.t le33) m36 g39 hS) ?_
 rintro _ w8 ⟨μ2,b41,a42,c43,rfl,le40,hS,m44⟩
 refine po (wl (s_defer (et (k10 d7)) e0 dn (nx ?_)))
 iterate 2 refine st ?_
 obtain ⟨r45,g46,h⟩:=bI h
 replace hS:=hS.bg Y1
 refine ca (IH.p_unary (hg.t (le33.t le40)) m44 g46 hS) ?_
 rintro _ w9 ⟨μ3,a48,c49,a51,c52,rfl,le47,hS,m50,m53⟩
 refine po ?_
 refine wl (s_bsl1 underlying109 ti111 rfl (et (k20 d0)) rfl hS ?_); clear hS; intro b54 w10 hb55 hS; refine po ?_
 refine wl (s_build ti111 pl111 (Fl.o rfl (et (k10 d8)) rfl rfl p0 (Fl.o rfl (et (k20 d1)) rfl rfl p3 Fl.z)) (dt (q20 p2)) (wl (s_storeA ti111 (et d2) (et (k20 d2)) rfl rfl hS d5 rfl p5 dn ?_)))
 clear hS; intro w11 hS
 refine nw (cret ?_)
 refine (fun h=>br (xr (br (xr h)))) ?_
 obtain ⟨r56,g57,h⟩:=bI h
 replace hS:=(hS.bg Y1).bg Y2
 refine retD isfn151 (p_out_w (hg.t (le33.t (le40.t le47))) m53 g57 hS) ?_
 rintro _ w12 ⟨μ4,a59,c60,rfl,le58,hS,m61⟩
 replace hS:=hS.bg Y2
 obtain ⟨μ5,le63,m62,hS⟩:=Sep.frzBlk (l:=([r45.1]:List TExpr)) hS (Rw.one (α:=TExpr) (TExpr.i ⟨a48,c49,rfl,(m50.up le58)⟩)) (Nat.le_of_ble_eq_true rfl)
 obtain rfl:=oI h
 refine retDN rfl (RVs.s (.a d2 ti111 (hS.blk d4).cells rfl) RVs.z) ?_
 replace hS:=(((hS.drop Rm.z).drop (Rm.s Rm.z)).drop (Rm.s Rm.z)).drop (Rm.s Rm.z)
 exact ⟨_,(some ⟨b54,0,none⟩),1,_,_,rfl,(le33.t (le40.t (le47.t (le58.t le63)))),hS,m62,(m61.up le63)⟩
 replace h:=iF h37 h
 refine cskip ?_
 refine (fun h=>bn (xl h)) (xrnd (crnd ?_))
 refine nz (wl (s_next1 (et d7) hS d1 d2 h29 h30 ?_))
 clear hS; intro w13 rs_ hp_ hS; cases (show _=rs_ from hp_)
 replace hS:=Sep.reput hS p1; refine po ?_
 refine st (ny (cift (et d9) (cskip (xn (cblock (nz (wl (s_entry (e:=⟨S [110,111,116],.int .i64 5,n27⟩) (et d7) hS d1 d2 h29 rfl (.inr rfl) (dt (q10 p0)) ?_))))))))
 iterate 4 refine st ?_
 refine nx ?_
 iterate 2 refine st ?_
 obtain ⟨r64,g65,h⟩:=bI h
 refine ca (p_is_w (hg.t le33) m36 g65 hS) ?_
 rintro _ w14 ⟨μ6,a67,c68,rfl,le66,hS,m69⟩
 refine po (nw ?_)
 refine cifb (et (k10 d5)) (fun h70=>?_) (fun h70=>?_)
 replace h:=iT h70 h
 refine nz (st ?_)
 obtain ⟨r71,g72,h⟩:=bI h
 refine ca (p_into_w (hg.t (le33.t le66)) m69 g72 hS) ?_
 rintro _ w15 ⟨μ7,b74,a75,c76,rfl,le73,hS,m77⟩
 refine po (wl (s_defer (et (k10 d7)) e0 dn (nx ?_)))
 iterate 2 refine st ?_
 obtain ⟨r78,g79,h⟩:=bI h
 replace hS:=hS.bg Y1
 refine ca (IH.p_unary (hg.t (le33.t (le66.t le73))) m77 g79 hS) ?_
 rintro _ w16 ⟨μ8,a81,c82,a84,c85,rfl,le80,hS,m83,m86⟩
 refine po ?_
 refine wl (s_bsl1 underlying109 ti111 rfl (et (k20 d0)) rfl hS ?_); clear hS; intro b87 w17 hb88 hS; refine po ?_
 refine wl (s_build ti111 pl111 (Fl.o rfl (et (k10 d8)) rfl rfl p0 (Fl.o rfl (et (k20 d1)) rfl rfl p3 Fl.z)) (dt (q20 p2)) (wl (s_storeA ti111 (et d2) (et (k20 d2)) rfl rfl hS d5 rfl p5 dn ?_)))
 clear hS; intro w18 hS
 refine nw (cret ?_)
 refine (fun h=>br (xr (br (xr h)))) ?_
 obtain ⟨r89,g90,h⟩:=bI h
 replace hS:=(hS.bg Y1).bg Y2
 refine retD isfn151 (p_out_w (hg.t (le33.t (le66.t (le73.t le80)))) m86 g90 hS) ?_
 rintro _ w19 ⟨μ9,a92,c93,rfl,le91,hS,m94⟩
 replace hS:=hS.bg Y2
 obtain ⟨μ10,le96,m95,hS⟩:=Sep.frzBlk (l:=([r78.1]:List TExpr)) hS (Rw.one (α:=TExpr) (TExpr.i ⟨a81,c82,rfl,(m83.up le91)⟩)) (Nat.le_of_ble_eq_true rfl)
 obtain rfl:=oI h
 refine retDN rfl (RVs.s (.a d2 ti111 (hS.blk d4).cells rfl) RVs.z) ?_
 replace hS:=(((hS.drop Rm.z).drop (Rm.s Rm.z)).drop (Rm.s Rm.z)).drop (Rm.s Rm.z)
 exact ⟨_,(some ⟨b87,0,none⟩),1,_,_,rfl,(le33.t (le66.t (le73.t (le80.t (le91.t le96))))),hS,m95,(m94.up le96)⟩
 replace h:=iF h70 h
 refine cskip ?_
 refine (fun h=>bn (xl h)) (xrnd (crnd ?_))
 refine nz (wl (s_next2 (et d7) hS d1 d2 h29 h30 (.inl ⟨rfl,rfl⟩) (dt p8) (st (ny (ciff (et d9) (cexit ?_))))))
 refine (fun h=>xe (xe (bh h))) ?_
 refine xn (nz (st ?_))
 obtain ⟨r97,g98,h⟩:=bI h
 refine ca (IH.p_primary (hg.t (le33.t le66)) m69 g98 hS) ?_
 rintro _ w20 ⟨μ11,a100,c101,a103,c104,rfl,le99,hS,m102,m105⟩
 refine po (wl (s_storeA ti111 (et d2) (et (k20 d4)) rfl rfl hS d3 rfl p3 dn ?_))
 clear hS; intro w21 hS
 refine nw (cret ?_)
 obtain rfl:=oI h
 refine retDN rfl (RVs.s (.a d2 ti111 (hS.blk d3).cells rfl) RVs.z) ?_
 replace hS:=((hS.drop (Rm.s Rm.z)).drop (Rm.s Rm.z)).drop (Rm.s Rm.z)
 exact ⟨_,_,_,_,_,rfl,(le33.t (le66.t le99)),hS,m102,m105⟩
 clear hS; intro w22 rs_ hp_ hS; cases (show _=rs_ from hp_)
 replace hS:=Sep.reput hS p0; refine po ?_
 replace h:=is_swap (by decide) h
 refine st (ny (cift (et d9) (cskip (xn (cblock (nz (wl (s_entry (e:=⟨S [110,111,116],.int .i64 5,n27⟩) (et d7) hS d0 d1 h29 rfl (.inr rfl) (dt (q10 p0)) ?_))))))))
 iterate 4 refine st ?_
 refine nx ?_
 iterate 2 refine st ?_
 obtain ⟨r106,g107,h⟩:=bI h
 replace hS:=hS.bg Y3
 refine ca (p_is_w hg m5 g107 hS) ?_
 rintro _ w23 ⟨μ12,a109,c110,rfl,le108,hS,m111⟩
 refine po (nw ?_)
 refine cifb (et (k10 d5)) (fun h112=>?_) (fun h112=>?_)
 replace h:=iT h112 h
 refine nz (st ?_)
 obtain ⟨r113,g114,h⟩:=bI h
 refine ca (p_into_w (hg.t le108) m111 g114 hS) ?_
 rintro _ w24 ⟨μ13,b116,a117,c118,rfl,le115,hS,m119⟩
 refine po (wl (s_defer (et (k10 d7)) e0 dn (nx ?_)))
 iterate 2 refine st ?_
 obtain ⟨r120,g121,h⟩:=bI h
 replace hS:=hS.bg Y1
 refine ca (IH.p_unary (hg.t (le108.t le115)) m119 g121 hS) ?_
 rintro _ w25 ⟨μ14,a123,c124,a126,c127,rfl,le122,hS,m125,m128⟩
 refine po ?_
 refine wl (s_bsl1 underlying109 ti111 rfl (et (k20 d0)) rfl hS ?_); clear hS; intro b129 w26 hb130 hS; refine po ?_
 refine wl (s_build ti111 pl111 (Fl.o rfl (et (k10 d8)) rfl rfl p0 (Fl.o rfl (et (k20 d1)) rfl rfl p3 Fl.z)) (dt (q20 p2)) (wl (s_storeA ti111 (et d2) (et (k20 d2)) rfl rfl hS d5 rfl p5 dn ?_)))
 clear hS; intro w27 hS
 refine nw (cret ?_)
 refine (fun h=>br (xr (br (xr h)))) ?_
 obtain ⟨r131,g132,h⟩:=bI h
 replace hS:=(hS.bg Y1).bg Y2
 refine retD isfn151 (p_out_w (hg.t (le108.t (le115.t le122))) m128 g132 hS) ?_
 rintro _ w28 ⟨μ15,a134,c135,rfl,le133,hS,m136⟩
 replace hS:=hS.bg Y2
 obtain ⟨μ16,le138,m137,hS⟩:=Sep.frzBlk (l:=([r120.1]:List TExpr)) hS (Rw.one (α:=TExpr) (TExpr.i ⟨a123,c124,rfl,(m125.up le133)⟩)) (Nat.le_of_ble_eq_true rfl)
 obtain rfl:=oI h
 refine retDN rfl (RVs.s (.a d2 ti111 (hS.blk d4).cells rfl) RVs.z) ?_
 replace hS:=(((hS.drop Rm.z).drop (Rm.s Rm.z)).drop (Rm.s Rm.z)).drop (Rm.s Rm.z)
 exact ⟨_,(some ⟨b129,0,none⟩),1,_,_,rfl,(le108.t (le115.t (le122.t (le133.t le138)))),hS,m137,(m136.up le138)⟩
 replace h:=iF h112 h
 refine cskip ?_
 refine (fun h=>bn (xl h)) (xrnd (crnd ?_))
 refine nz (wl (s_next1' (et d7) hS d1 d2 h29 h30 ?_))
 clear hS; intro w29 rs_ hp_ hS; cases (show _=rs_ from hp_)
 replace hS:=Sep.reput hS p1; refine po ?_
 refine st (ny (cift (et d9) (cskip (xn (cblock (nz (wl (s_entry (e:=⟨S [45],.int .i64 4,n26⟩) (et d7) hS d1 d2 h29 rfl (.inl rfl) (dt (q10 p0)) ?_))))))))
 iterate 4 refine st ?_
 refine nx ?_
 iterate 2 refine st ?_
 obtain ⟨r139,g140,h⟩:=bI h
 refine ca (p_is_w (hg.t le108) m111 g140 hS) ?_
 rintro _ w30 ⟨μ17,a142,c143,rfl,le141,hS,m144⟩
 refine po (nw ?_)
 refine cifb (et (k10 d5)) (fun h145=>?_) (fun h145=>?_)
 replace h:=iT h145 h
 refine nz (st ?_)
 obtain ⟨r146,g147,h⟩:=bI h
 refine ca (p_into_w (hg.t (le108.t le141)) m144 g147 hS) ?_
 rintro _ w31 ⟨μ18,b149,a150,c151,rfl,le148,hS,m152⟩
 refine po (wl (s_defer (et (k10 d7)) e0 dn (nx ?_)))
 iterate 2 refine st ?_
 obtain ⟨r153,g154,h⟩:=bI h
 replace hS:=hS.bg Y1
 refine ca (IH.p_unary (hg.t (le108.t (le141.t le148))) m152 g154 hS) ?_
 rintro _ w32 ⟨μ19,a156,c157,a159,c160,rfl,le155,hS,m158,m161⟩
 refine po ?_
 refine wl (s_bsl1 underlying109 ti111 rfl (et (k20 d0)) rfl hS ?_); clear hS; intro b162 w33 hb163 hS; refine po ?_
 refine wl (s_build ti111 pl111 (Fl.o rfl (et (k10 d8)) rfl rfl p0 (Fl.o rfl (et (k20 d1)) rfl rfl p3 Fl.z)) (dt (q20 p2)) (wl (s_storeA ti111 (et d2) (et (k20 d2)) rfl rfl hS d5 rfl p5 dn ?_)))
 clear hS; intro w34 hS
 refine nw (cret ?_)
 refine (fun h=>br (xr (br (xr h)))) ?_
 obtain ⟨r164,g165,h⟩:=bI h
 replace hS:=(hS.bg Y1).bg Y2
 refine retD isfn151 (p_out_w (hg.t (le108.t (le141.t (le148.t le155)))) m161 g165 hS) ?_
 rintro _ w35 ⟨μ20,a167,c168,rfl,le166,hS,m169⟩
 replace hS:=hS.bg Y2
 obtain ⟨μ21,le171,m170,hS⟩:=Sep.frzBlk (l:=([r153.1]:List TExpr)) hS (Rw.one (α:=TExpr) (TExpr.i ⟨a156,c157,rfl,(m158.up le166)⟩)) (Nat.le_of_ble_eq_true rfl)
 obtain rfl:=oI h
 refine retDN rfl (RVs.s (.a d2 ti111 (hS.blk d4).cells rfl) RVs.z) ?_
 replace hS:=(((hS.drop Rm.z).drop (Rm.s Rm.z)).drop (Rm.s Rm.z)).drop (Rm.s Rm.z)
 exact ⟨_,(some ⟨b162,0,none⟩),1,_,_,rfl,(le108.t (le141.t (le148.t (le155.t (le166.t le171))))),hS,m170,(m169.up le171)⟩
 replace h:=iF h145 h
 refine cskip ?_
 refine (fun h=>bn (xl h)) (xrnd (crnd ?_))
 refine nz (wl (s_next2 (et d7) hS d1 d2 h29 h30 (.inr ⟨rfl,rfl⟩) (dt p8) (st (ny (ciff (et d9) (cexit ?_))))))
 refine (fun h=>xe (xe (bh h))) ?_
 refine xn (nz (st ?_))
 obtain ⟨r172,g173,h⟩:=bI h
 refine ca (IH.p_primary (hg.t (le108.t le141)) m144 g173 hS) ?_
 rintro _ w36 ⟨μ22,a175,c176,a178,c179,rfl,le174,hS,m177,m180⟩
 refine po (wl (s_storeA ti111 (et d2) (et (k20 d4)) rfl rfl hS d3 rfl p3 dn ?_))
 clear hS; intro w37 hS
 refine nw (cret ?_)
 obtain rfl:=oI h
 refine retDN rfl (RVs.s (.a d2 ti111 (hS.blk d3).cells rfl) RVs.z) ?_
 replace hS:=((hS.drop (Rm.s Rm.z)).drop (Rm.s Rm.z)).drop (Rm.s Rm.z)
 exact ⟨_,_,_,_,_,rfl,(le108.t (le141.t le174)),hS,m177,m180⟩
theorem p_primary_w {self:ParE} (IH:ParESound self) {fu:Nat} {μ0:M} {w0 w:World} {rsF:List Res} (hg:Le Gm μ0) {b1:Nat} {left_2:List TToken} {a3:Option Addr} {c4:Nat} {end_6 deep_7:Int} {r:TExpr×List TToken×Int×Int} (m5:Sl μ0 a3 c4 left_2) (h:p_primary fu self left_2 end_6 deep_7=some r) (hS:Sq μ0 w0 w (.blk b1 76 [.slice a3 left_2.length c4,.int .i64 end_6,.int .i64 deep_7]::rsF)):CallsV prog 208 [.pointer (some ⟨b1,0,none⟩)] w (fun v w'=>∃ (μ':M) (a8:Option Addr) (c9:Nat) (a11:Option Addr) (c12:Nat),v=.agg ⟨[.int .i64 r.1.Kind,.int .i64 r.1.N,S r.1.Name,.slice a8 r.1.Kids.length c9]⟩∧Le μ0 μ'∧Sq μ' w0 w' (.blk b1 76 [.slice a11 r.2.1.length c12,.int .i64 r.2.2.1,.int .i64 r.2.2.2]::rsF)∧Sl μ' a8 c9 r.1.Kids∧Sl μ' a11 c12 r.2.1):=by
 unfold p_primary at h
 refine enter func208 rfl (frm:=_::u1 (u2 (u5 (u10 (u20 (u50 [])))))) rfl (nz ?_)
 refine wl (s_alloc ti111 hS ?_); clear hS; intro b14 w1 hb15 hS; refine po ?_
 refine ny (cblock (cseq ?_))
 refine ccutE (rg 7 16) (by decide) (fun m w=>∃ μx b16,m=(yK6 (.i (.bool b16)::(yO10 7 (yO6 17 []))))∧p_primary_j1 fu self left_2 end_6 deep_7 b16=some r∧Le μ0 μx∧Sq μx w0 w (.blk b1 76 [.slice a3 left_2.length c4,.int .i64 end_6,.int .i64 deep_7]::.blk b14 111 [.int .i64 0,.int .i64 0,S [],.slice none 0 0]::rsF)) (by rintro _ _ ⟨_,_,rfl,_⟩; rfl) ?_ ?_
 refine creg ?_
 iterate 3 refine st ?_
 refine ld ((hS.blk d1).cell d0) (wl (su (u_lensl underlying69 (et (k10 d0))) (dt (q10 p1)) ?_))
 iterate 2 refine st ?_
 refine wspd (k10 d3) (q10 p3) (q10 p3) (fun h17=>?_) (fun h17=>?_)
 replace h:=iT h17 h
 refine sy rfl (sy rfl (sy rfl (wy rfl (k10 d3) (s_load ti69 (et (k10 d6)) ((hS.blk d1).cell d0) (dt (q10 p7)) ?_))))
 obtain ⟨x18,g19,h⟩:=bI h
 obtain ⟨b20,o21,cs22,e23,f24,m25⟩:=SlR.elem m5 g19
 obtain rfl:=m25
 refine wy rfl (k10 d3) (su (u_iax underlying69 ti138 (et (k10 d7)) ec e23) (dt (q10 p8)) (sy rfl (wy rfl (k10 d3) (s_load ti3 (et (k10 d9)) ((f24 _ hS.a).one d0) (dt (q20 p0)) (sy rfl ?_)))))
 iterate 2 refine st ?_
 refine wnil (xl ?_)
 replace hS:=hS.bg Y1
 exact ⟨_,_,rfl,(aK6 (aI (aO10 (aO6 aZ)))),_,(decide (x18.Kind=2)),rfl,h,Le.r,hS⟩
 replace h:=iF h17 h
 refine sn rfl rfl (sn rfl rfl (sn rfl rfl (sn rfl rfl (sn rfl rfl (sn rfl rfl (sn rfl rfl (sn rfl rfl ?_)))))))
 iterate 2 refine st ?_
 refine wnil (xl ?_)
 replace hS:=hS.bg Y1
 exact ⟨_,_,rfl,(aK6 (aI (aO10 (aO6 aZ)))),_,false,rfl,h,Le.r,hS⟩
 rintro _ t w2 ⟨μ1,b16,rfl,h,le26,hS⟩
 unfold p_primary_j1 at h
 refine nrm (mK6 (mi (mO10 (mO6 mz)))) (xn ?_)
 refine cifb (et d6) (fun h27=>?_) (fun h27=>?_)
 replace h:=iT h27 h
 refine nz (st ?_)
 obtain ⟨r28,g29,h⟩:=bI h
 refine ca (p_number_w (hg.t le26) (m5.up le26) g29 hS) ?_
 rintro _ w3 ⟨μ2,a31,c32,rfl,le30,hS,m33⟩
 refine po (wl (s_build ti111 pl111 (Fl.o rfl ec rfl rfl p0 (Fl.o rfl (et (k20 d4)) rfl rfl p1 Fl.z)) (dt (q20 p5)) (wl (s_storeA ti111 (et d2) (et (k20 d5)) rfl rfl hS d1 rfl p1 dn ?_))))
 clear hS; intro w4 hS
 refine nw (cret ?_)
 refine (fun h=>br (xr h)) ?_
 obtain rfl:=oI h
 refine retN rfl (RVs.s (.a d2 ti111 (hS.blk d1).cells rfl) RVs.z) ?_
 replace hS:=hS.drop (Rm.s Rm.z)
 exact ⟨_,none,0,_,_,rfl,(le26.t le30),hS,Sl.nil,m33⟩
 replace h:=iF h27 h
 refine nz (st ?_)
 obtain ⟨r34,g35,h⟩:=bI h
 refine ca (p_is_w (hg.t le26) (m5.up le26) g35 hS) ?_
 rintro _ w5 ⟨μ3,a37,c38,rfl,le36,hS,m39⟩
 refine po (st (nw ?_))
 refine cifb (et (k20 d6)) (fun h40=>?_) (fun h40=>?_)
 replace h:=iT h40 h
 refine nz (wl (s_build ti111 pl111 (Fl.o rfl ec rfl rfl p0 (Fl.o rfl ec rfl rfl p1 Fl.z)) (dt (q20 p9)) (wl (s_storeA ti111 (et d2) (et (k20 d9)) rfl rfl hS d1 rfl p1 dn ?_))))
 clear hS; intro w6 hS
 refine nw (cret ?_)
 refine (fun h=>br (xr h)) ?_
 obtain rfl:=oI h
 refine retN rfl (RVs.s (.a d2 ti111 (hS.blk d1).cells rfl) RVs.z) ?_
 replace hS:=hS.drop (Rm.s Rm.z)
 exact ⟨_,none,0,_,_,rfl,(le26.t le36),hS,Sl.nil,m39⟩
 replace h:=iF h40 h
 refine nz (st ?_)
 obtain ⟨r41,g42,h⟩:=bI h
 refine ca (p_is_w (hg.t (le26.t le36)) m39 g42 hS) ?_
 rintro _ w7 ⟨μ4,a44,c45,rfl,le43,hS,m46⟩
 refine po (st (nw ?_))
 refine cifb (et (k30 d0)) (fun h47=>?_) (fun h47=>?_)
 replace h:=iT h47 h
 refine nz (wl (s_build ti111 pl111 (Fl.o rfl ec rfl rfl p0 Fl.z) (dt (q30 p3)) (wl (s_storeA ti111 (et d2) (et (k30 d3)) rfl rfl hS d1 rfl p1 dn ?_))))
 clear hS; intro w8 hS
 refine nw (cret ?_)
 refine (fun h=>br (xr h)) ?_
 obtain rfl:=oI h
 refine retN rfl (RVs.s (.a d2 ti111 (hS.blk d1).cells rfl) RVs.z) ?_
 replace hS:=hS.drop (Rm.s Rm.z)
 exact ⟨_,none,0,_,_,rfl,(le26.t (le36.t le43)),hS,Sl.nil,m46⟩
 replace h:=iF h47 h
 refine nz (st ?_)
 obtain ⟨r48,g49,h⟩:=bI h
 refine ca (p_is_w (hg.t (le26.t (le36.t le43))) m46 g49 hS) ?_
 rintro _ w9 ⟨μ5,a51,c52,rfl,le50,hS,m53⟩
 refine po (st (nw ?_))
 refine cifb (et (k30 d4)) (fun h54=>?_) (fun h54=>?_)
 replace h:=iT h54 h
 refine nz (st ?_)
 obtain ⟨r55,g56,h⟩:=bI h
 refine ca (IH.p_expr (hg.t (le26.t (le36.t (le43.t le50)))) m53 g56 hS) ?_
 rintro _ w10 ⟨μ6,a58,c59,a61,c62,rfl,le57,hS,m60,m63⟩
 refine po ?_
 refine wl (s_alloc ti111 hS ?_); clear hS; intro b64 w11 hb65 hS; refine po ?_
 refine wl (s_storeA ti111 (et d3) (et (k30 d8)) rfl rfl hS d0 rfl p0 dn ?_)
 clear hS; intro w12 hS
 refine nx (st ?_)
 refine wl (s_bsl underlying122 ti9 (Parts.s ec rfl Parts.z) rfl rfl hS ?_); clear hS; intro b66 w13 hb67 hS; refine po ?_
 obtain ⟨μ7,le69,m68,hS⟩:=Sep.frzBlk (l:=([[41]]:List (List UInt8))) hS (Rw.one (α:=List UInt8) rfl) (Nat.le_of_ble_eq_true rfl)
 obtain ⟨r70,g71,h⟩:=bI h
 replace hS:=hS.bg Y1
 refine ca (p_need_w (hg.t (le26.t (le36.t (le43.t (le50.t (le57.t le69)))))) (m63.up le69) m68 g71 hS) ?_
 rintro _ w14 ⟨μ8,a73,c74,rfl,le72,hS,m75⟩
 refine po (nx (lds (hS.blk d1).cells rfl (wl (s_storeA ti111 (et d2) (et (k40 d2)) rfl rfl hS d2 rfl p2 dn ?_))))
 clear hS; intro w15 hS
 refine nw (cret ?_)
 refine (fun h=>br (xr h)) ?_
 obtain rfl:=oI h
 refine retN rfl (RVs.s (.a d2 ti111 (hS.blk d2).cells rfl) RVs.z) ?_
 replace hS:=(hS.drop (Rm.s Rm.z)).drop (Rm.s Rm.z)
 exact ⟨_,_,_,_,_,rfl,(le26.t (le36.t (le43.t (le50.t (le57.t (le69.t le72)))))),hS,(m60.up (le69.t le72)),m75⟩
 replace h:=iF h54 h
 refine nz (st ?_)
 obtain ⟨r76,g77,h⟩:=bI h
 refine ca (p_is_w (hg.t (le26.t (le36.t (le43.t le50)))) m53 g77 hS) ?_
 rintro _ w16 ⟨μ9,a79,c80,rfl,le78,hS,m81⟩
 refine po (st (nw ?_))
 refine cifb (et (k40 d3)) (fun h82=>?_) (fun h82=>?_)
 replace h:=iT h82 h
 refine nz (st ?_)
 refine wl (s_bsl underlying122 ti9 (Parts.s ec rfl Parts.z) rfl rfl hS ?_); clear hS; intro b83 w17 hb84 hS; refine po ?_
 obtain ⟨μ10,le86,m85,hS⟩:=Sep.frzBlk (l:=([[40]]:List (List UInt8))) hS (Rw.one (α:=List UInt8) rfl) (Nat.le_of_ble_eq_true rfl)
 obtain ⟨r87,g88,h⟩:=bI h
 refine ca (p_need_w (hg.t (le26.t (le36.t (le43.t (le50.t (le78.t le86)))))) (m81.up le86) m85 g88 hS) ?_
 rintro _ w18 ⟨μ11,a90,c91,rfl,le89,hS,m92⟩
 refine po (nx (st ?_))
 obtain ⟨r93,g94,h⟩:=bI h
 refine ca (p_name_w (hg.t (le26.t (le36.t (le43.t (le50.t (le78.t (le86.t le89))))))) m92 g94 hS) ?_
 rintro _ w19 ⟨μ12,a96,c97,rfl,le95,hS,m98⟩
 refine po (wl (s_build ti111 pl111 (Fl.o rfl ec rfl rfl p0 (Fl.o rfl (et (k50 d0)) rfl rfl p2 Fl.z)) (dt (q50 p1)) ?_))
 refine wl (s_alloc ti111 hS ?_); clear hS; intro b99 w20 hb100 hS; refine po ?_
 refine wl (s_storeA ti111 (et d4) (et (k50 d1)) rfl rfl hS d0 rfl p0 dn ?_)
 clear hS; intro w21 hS
 refine nx (st ?_)
 refine wl (s_bsl underlying122 ti9 (Parts.s ec rfl Parts.z) rfl rfl hS ?_); clear hS; intro b101 w22 hb102 hS; refine po ?_
 obtain ⟨μ13,le104,m103,hS⟩:=Sep.frzBlk (l:=([[41]]:List (List UInt8))) hS (Rw.one (α:=List UInt8) rfl) (Nat.le_of_ble_eq_true rfl)
 obtain ⟨r105,g106,h⟩:=bI h
 replace hS:=hS.bg Y1
 refine ca (p_need_w (hg.t (le26.t (le36.t (le43.t (le50.t (le78.t (le86.t (le89.t (le95.t le104))))))))) (m98.up le104) m103 g106 hS) ?_
 rintro _ w23 ⟨μ14,a108,c109,rfl,le107,hS,m110⟩
 refine po (nx (lds (hS.blk d1).cells rfl (wl (s_storeA ti111 (et d2) (et (k50 d5)) rfl rfl hS d2 rfl p2 dn ?_))))
 clear hS; intro w24 hS
 refine nw (cret ?_)
 refine (fun h=>br (xr h)) ?_
 obtain rfl:=oI h
 refine retN rfl (RVs.s (.a d2 ti111 (hS.blk d2).cells rfl) RVs.z) ?_
 replace hS:=(hS.drop (Rm.s Rm.z)).drop (Rm.s Rm.z)
 exact ⟨_,none,0,_,_,rfl,(le26.t (le36.t (le43.t (le50.t (le78.t (le86.t (le89.t (le95.t (le104.t le107))))))))),hS,Sl.nil,m110⟩
 replace h:=iF h82 h
 refine nz (st ?_)
 obtain ⟨r111,g112,h⟩:=bI h
 refine ca (p_is_w (hg.t (le26.t (le36.t (le43.t (le50.t le78))))) m81 g112 hS) ?_
 rintro _ w25 ⟨μ15,a114,c115,rfl,le113,hS,m116⟩
 refine po (st (nw ?_))
 refine cifb (et (k50 d6)) (fun h117=>?_) (fun h117=>?_)
 replace h:=iT h117 h
 refine nz (st ?_)
 obtain ⟨r118,g119,h⟩:=bI h
 refine ca (IH.p_fixed (hg.t (le26.t (le36.t (le43.t (le50.t (le78.t le113)))))) m116 g119 hS) ?_
 rintro _ w26 ⟨μ16,a121,c122,a124,c125,rfl,le120,hS,m123,m126⟩
 refine po (wl (s_storeA ti111 (et d2) (et (k60 d0)) rfl rfl hS d1 rfl p1 dn ?_))
 clear hS; intro w27 hS
 refine nw (cret ?_)
 refine (fun h=>br (xr h)) ?_
 obtain rfl:=oI h
 refine retN rfl (RVs.s (.a d2 ti111 (hS.blk d1).cells rfl) RVs.z) ?_
 replace hS:=hS.drop (Rm.s Rm.z)
 exact ⟨_,_,_,_,_,rfl,(le26.t (le36.t (le43.t (le50.t (le78.t (le113.t le120)))))),hS,m123,m126⟩
 replace h:=iF h117 h
 refine nz (st ?_)
 obtain ⟨r127,g128,h⟩:=bI h
 refine ca (p_is_w (hg.t (le26.t (le36.t (le43.t (le50.t (le78.t le113)))))) m116 g128 hS) ?_
 rintro _ w28 ⟨μ17,a130,c131,rfl,le129,hS,m132⟩
 refine po (st (nw ?_))
 refine cifb (et (k60 d1)) (fun h133=>?_) (fun h133=>?_)
 replace h:=iT h133 h
 refine nz (st ?_)
 obtain ⟨r134,g135,h⟩:=bI h
 refine ca (IH.p_fixed (hg.t (le26.t (le36.t (le43.t (le50.t (le78.t (le113.t le129))))))) m132 g135 hS) ?_
 rintro _ w29 ⟨μ18,a137,c138,a140,c141,rfl,le136,hS,m139,m142⟩
 refine po (wl (s_storeA ti111 (et d2) (et (k60 d5)) rfl rfl hS d1 rfl p1 dn ?_))
 clear hS; intro w30 hS
 refine nw (cret ?_)
 refine (fun h=>br (xr h)) ?_
 obtain rfl:=oI h
 refine retN rfl (RVs.s (.a d2 ti111 (hS.blk d1).cells rfl) RVs.z) ?_
 replace hS:=hS.drop (Rm.s Rm.z)
 exact ⟨_,_,_,_,_,rfl,(le26.t (le36.t (le43.t (le50.t (le78.t (le113.t (le129.t le136))))))),hS,m139,m142⟩
 replace h:=iF h133 h
 refine nz (st ?_)
 obtain ⟨r143,g144,h⟩:=bI h
 refine ca (p_is_w (hg.t (le26.t (le36.t (le43.t (le50.t (le78.t (le113.t le129))))))) m132 g144 hS) ?_
 rintro _ w31 ⟨μ19,a146,c147,rfl,le145,hS,m148⟩
 refine po (st (nw ?_))
 refine cifb (et (k60 d6)) (fun h149=>?_) (fun h149=>?_)
 replace h:=iT h149 h
 refine nz (st ?_)
 obtain ⟨r150,g151,h⟩:=bI h
 refine ca (IH.p_fixed (hg.t (le26.t (le36.t (le43.t (le50.t (le78.t (le113.t (le129.t le145)))))))) m148 g151 hS) ?_
 rintro _ w32 ⟨μ20,a153,c154,a156,c157,rfl,le152,hS,m155,m158⟩
 refine po (wl (s_storeA ti111 (et d2) (et (k70 d0)) rfl rfl hS d1 rfl p1 dn ?_))
 clear hS; intro w33 hS
 refine nw (cret ?_)
 refine (fun h=>br (xr h)) ?_
 obtain rfl:=oI h
 refine retN rfl (RVs.s (.a d2 ti111 (hS.blk d1).cells rfl) RVs.z) ?_
 replace hS:=hS.drop (Rm.s Rm.z)
 exact ⟨_,_,_,_,_,rfl,(le26.t (le36.t (le43.t (le50.t (le78.t (le113.t (le129.t (le145.t le152)))))))),hS,m155,m158⟩
 replace h:=iF h149 h
 refine nz (st ?_)
 obtain ⟨r159,g160,h⟩:=bI h
 refine ca (p_is_w (hg.t (le26.t (le36.t (le43.t (le50.t (le78.t (le113.t (le129.t le145)))))))) m148 g160 hS) ?_
 rintro _ w34 ⟨μ21,a162,c163,rfl,le161,hS,m164⟩
 refine po (st (nw ?_))
 refine cifb (et (k70 d1)) (fun h165=>?_) (fun h165=>?_)
 replace h:=iT h165 h
 refine nz (st ?_)
 obtain ⟨r166,g167,h⟩:=bI h
 refine ca (p_name_w (hg.t (le26.t (le36.t (le43.t (le50.t (le78.t (le113.t (le129.t (le145.t le161))))))))) m164 g167 hS) ?_
 rintro _ w35 ⟨μ22,a169,c170,rfl,le168,hS,m171⟩
 refine po (st ?_)
 obtain ⟨r172,g173,h⟩:=bI h
 refine ca (IH.p_args (hg.t (le26.t (le36.t (le43.t (le50.t (le78.t (le113.t (le129.t (le145.t (le161.t le168)))))))))) m171 g173 hS) ?_
 rintro _ w36 ⟨μ23,a175,c176,a178,c179,rfl,le174,hS,m177,m180⟩
 refine po (wl (s_build ti111 pl111 (Fl.o rfl ec rfl rfl p0 (Fl.o rfl (et (k70 d5)) rfl rfl p2 (Fl.o rfl (et (k70 d7)) rfl rfl p3 Fl.z))) (dt (q70 p8)) (wl (s_storeA ti111 (et d2) (et (k70 d8)) rfl rfl hS d1 rfl p1 dn ?_))))
 clear hS; intro w37 hS
 refine nw (cret ?_)
 refine (fun h=>br (xr h)) ?_
 obtain rfl:=oI h
 refine retN rfl (RVs.s (.a d2 ti111 (hS.blk d1).cells rfl) RVs.z) ?_
 replace hS:=hS.drop (Rm.s Rm.z)
 exact ⟨_,_,_,_,_,rfl,(le26.t (le36.t (le43.t (le50.t (le78.t (le113.t (le129.t (le145.t (le161.t (le168.t le174)))))))))),hS,m177,m180⟩
 replace h:=iF h165 h
 refine cskip ?_
 refine (fun h=>bn (xn h)) ?_
 refine nz (st ?_)
 obtain ⟨r181,g182,h⟩:=bI h
 refine ca (p_name_w (hg.t (le26.t (le36.t (le43.t (le50.t (le78.t (le113.t (le129.t (le145.t le161))))))))) m164 g182 hS) ?_
 rintro _ w38 ⟨μ24,a184,c185,rfl,le183,hS,m186⟩
 refine po (st (ny (nz (st ?_))))
 obtain ⟨r187,g188,h⟩:=bI h
 refine ca (p_sees_w (hg.t (le26.t (le36.t (le43.t (le50.t (le78.t (le113.t (le129.t (le145.t (le161.t le183)))))))))) m186 g188 hS) ?_
 rintro _ w39 ⟨μ25,rfl,le189,hS⟩
 refine po (nw ?_)
 refine cifb (et (k80 d2)) (fun h190=>?_) (fun h190=>?_)
 replace h:=iT h190 h
 refine nz ?_
 iterate 2 refine st ?_
 obtain ⟨r191,g192,h⟩:=bI h
 refine ca (IH.p_args (hg.t (le26.t (le36.t (le43.t (le50.t (le78.t (le113.t (le129.t (le145.t (le161.t (le183.t le189))))))))))) (m186.up le189) g192 hS) ?_
 rintro _ w40 ⟨μ26,a194,c195,a197,c198,rfl,le193,hS,m196,m199⟩
 refine po (wl (s_build ti111 pl111 (Fl.o rfl ec rfl rfl p0 (Fl.o rfl (et (k80 d3)) rfl rfl p2 (Fl.o rfl (et (k80 d5)) rfl rfl p3 Fl.z))) (dt (q80 p6)) (wl (s_storeA ti111 (et d2) (et (k80 d6)) rfl rfl hS d1 rfl p1 dn ?_))))
 clear hS; intro w41 hS
 refine nw (cret (xr ?_))
 obtain rfl:=oI h
 refine retN rfl (RVs.s (.a d2 ti111 (hS.blk d1).cells rfl) RVs.z) ?_
 replace hS:=hS.drop (Rm.s Rm.z)
 exact ⟨_,_,_,_,_,rfl,(le26.t (le36.t (le43.t (le50.t (le78.t (le113.t (le129.t (le145.t (le161.t (le183.t (le189.t le193))))))))))),hS,m196,m199⟩
 replace h:=iF h190 h
 refine cskip (xn (nz (st (wl (s_build ti111 pl111 (Fl.o rfl ec rfl rfl p0 (Fl.o rfl (et (k80 d7)) rfl rfl p2 Fl.z)) (dt (q80 p8)) (wl (s_storeA ti111 (et d2) (et (k80 d8)) rfl rfl hS d1 rfl p1 dn ?_)))))))
 clear hS; intro w42 hS
 refine nw (cret ?_)
 obtain rfl:=oI h
 refine retN rfl (RVs.s (.a d2 ti111 (hS.blk d1).cells rfl) RVs.z) ?_
 replace hS:=hS.drop (Rm.s Rm.z)
 exact ⟨_,none,0,_,_,rfl,(le26.t (le36.t (le43.t (le50.t (le78.t (le113.t (le129.t (le145.t (le161.t (le183.t le189)))))))))),hS,Sl.nil,(m186.up le189)⟩
theorem p_args_w {self:ParE} (IH:ParESound self) {fu:Nat} {μ0:M} {w0 w:World} {rsF:List Res} (hg:Le Gm μ0) {b1:Nat} {left_2:List TToken} {a3:Option Addr} {c4:Nat} {end_6 deep_7:Int} {r:List TExpr×List TToken×Int×Int} (m5:Sl μ0 a3 c4 left_2) (h:p_args fu self left_2 end_6 deep_7=some r) (hS:Sq μ0 w0 w (.blk b1 76 [.slice a3 left_2.length c4,.int .i64 end_6,.int .i64 deep_7]::rsF)):CallsV prog 213 [.pointer (some ⟨b1,0,none⟩)] w (fun v w'=>∃ (μ':M) (a8:Option Addr) (c9:Nat) (a11:Option Addr) (c12:Nat),v=.slice a8 r.1.length c9∧Le μ0 μ'∧Sq μ' w0 w' (.blk b1 76 [.slice a11 r.2.1.length c12,.int .i64 r.2.2.1,.int .i64 r.2.2.2]::rsF)∧Sl μ' a8 c9 r.1∧Sl μ' a11 c12 r.2.1):=by
 unfold p_args at h
 refine enter func213 rfl (frm:=_::u1 (u2 (u5 (u20 [])))) rfl (nz (st (nx (st (ny (nz (st ?_)))))))
 refine wl (s_bsl underlying122 ti9 (Parts.s ec rfl Parts.z) rfl rfl hS ?_); clear hS; intro b14 w1 hb15 hS; refine po ?_
 obtain ⟨μ1,le17,m16,hS⟩:=Sep.frzBlk (l:=([[40]]:List (List UInt8))) hS (Rw.one (α:=List UInt8) rfl) (Nat.le_of_ble_eq_true rfl)
 obtain ⟨r18,g19,h⟩:=bI h
 refine ca (p_need_w (hg.t le17) (m5.up le17) m16 g19 hS) ?_
 rintro _ w2 ⟨μ2,a21,c22,rfl,le20,hS,m23⟩
 refine po (nw (cblock ?_))
 replace hS:=hS.nilRow 111 (Mo.sz TExpr)
 replace hS:=hS.bg Y1
 refine cloopE (rg 7 21) (by decide +kernel) (fun n m w=>∃ μx l65 a63 c64 i67 i68 l71 v69 cs70,m=(yK3 (.i (v69)::(yK3 (yO20 7 (yO1 27 [])))))∧p_args_l1 self n l65 i67 i68 l71=some r∧Le μ2 μx∧Sq μx w0 w (.blk b1 76 [.slice a63 l65.length c64,.int .i64 i67,.int .i64 i68]::.row v69 111 4 l71.length cs70::rsF)∧Sl μx a63 c64 l65∧Rw μx cs70 l71) (by rintro _ _ _ ⟨_,_,_,_,_,_,_,_,_,rfl,_⟩; rfl) _ _ (aK3 (aI (aK3 (aO20 (aO1 aZ))))) ⟨_,r18.1,a21,c22,r18.2.1,r18.2.2,[],(.slice none 0 0),[],rfl,h,Le.r,hS,m23,Rw.nil⟩ ?_
 rintro n_1 _ t w3 ⟨μ3,l65,a63,c64,i67,i68,l71,v69,cs70,rfl,h,le111,hS,m112,m113⟩
 rcases n_1 with _|n_1
 cases h
 unfold p_args_l1 at h
 refine cnrm (mK3 (mi (mK3 (mO20 (mO1 mz))))) (cseq (nz (st ?_)))
 obtain ⟨r114,g115,h⟩:=bI h
 refine ca (p_is_w (hg.t (le17.t (le20.t le111))) m112 g115 hS) ?_
 rintro _ w4 ⟨μ4,a117,c118,rfl,le116,hS,m119⟩
 refine po (st (nw ?_))
 refine cifnb (et d9) (fun h120=>?_) (fun h120=>?_)
 replace h:=iF h120 h
 refine cskip (xn (cblock (cseq (nz (st (wl (su (u_lenv underlying109 (et (k10 d0)) (hS.get d1).isSl) (dt (q10 p1)) (st (nw ?_)))))))))
 refine ccutE (rg 13 3) (by decide) (fun m w=>∃ μx l123 a121 c122 i125 i126,m=(yK10 (yK3 (yO3 13 [])))∧p_args_j1 self l71 (p_args_l1 self n_1) l123 i125 i126=some r∧Le μ4 μx∧Sq μx w0 w (.blk b1 76 [.slice a121 l123.length c122,.int .i64 i125,.int .i64 i126]::.row v69 111 4 l71.length cs70::rsF)∧Sl μx a121 c122 l123) (by rintro _ _ ⟨_,_,_,_,_,_,rfl,_⟩; rfl) ?_ ?_
 refine cifd (et (k10 d2)) (fun h127=>?_) (fun h127=>?_)
 replace h:=iT h127 h
 refine creg (st ?_)
 refine wl (s_bsl underlying122 ti9 (Parts.s ec rfl Parts.z) rfl rfl hS ?_); clear hS; intro b128 w5 hb129 hS; refine po ?_
 obtain ⟨μ5,le131,m130,hS⟩:=Sep.frzBlk (l:=([[44]]:List (List UInt8))) hS (Rw.one (α:=List UInt8) rfl) (Nat.le_of_ble_eq_true rfl)
 obtain ⟨r132,g133,h⟩:=bI h
 refine ca (p_need_w (hg.t (le17.t (le20.t (le111.t (le116.t le131))))) (m119.up le131) m130 g133 hS) ?_
 rintro _ w6 ⟨μ6,a135,c136,rfl,le134,hS,m137⟩
 refine po (wnil (xl ?_))
 exact ⟨_,_,rfl,(aK10 (aK3 (aO3 aZ))),_,r132.1,_,_,r132.2.1,r132.2.2,rfl,h,(le131.t le134),hS,m137⟩
 replace h:=iF h127 h
 refine cskip (xl ?_)
 exact ⟨_,_,rfl,(aK10 (aK3 (aO3 aZ))),_,r114.2.1,_,_,r114.2.2.1,r114.2.2.2,rfl,h,Le.r,hS,m119⟩
 rintro _ t w7 ⟨μ7,l123,a121,c122,i125,i126,rfl,h,le138,hS,m139⟩
 unfold p_args_j1 at h
 refine nrm (mK10 (mK3 (mO3 mz))) (xn (cseq (nz (st (wl (su (u_lenv underlying109 (et (k10 d6)) (hS.get d1).isSl) (dt (q10 p7)) (st (nw ?_))))))))
 refine cifd (et (k10 d8)) (fun h140=>?_) (fun h140=>?_)
 replace h:=iT h140 h
 cases h
 replace h:=iF h140 h
 refine cskip (xn (creg ?_))
 iterate 2 refine st ?_
 obtain ⟨r141,g142,h⟩:=bI h
 refine ca (IH.p_expr (hg.t (le17.t (le20.t (le111.t (le116.t le138))))) m139 g142 hS) ?_
 rintro _ w8 ⟨μ8,a144,c145,a147,c148,rfl,le143,hS,m146,m149⟩
 refine po ?_
 refine wl (s_bsl1 underlying109 ti111 rfl (et (k20 d5)) rfl hS ?_); clear hS; intro b150 w9 hb151 hS; refine po ?_
 obtain ⟨l154,g155,h⟩:=bI h
 have m156:Rw μ8 [.int .i64 r141.1.Kind,.int .i64 r141.1.N,S r141.1.Name,.slice a144 r141.1.Kids.length c145] [r141.1]:=(Rw.one (α:=TExpr) (TExpr.i ⟨a144,c145,rfl,m146⟩))
 have m153:=Rw.app (m113.up (le116.t (le138.t le143))) m156 g155
 refine wl (s_app1 underlying109 ti111 rfl (et (k20 d3)) (et (k20 d6)) hS d2 (hS.blk d0).cells m156 rfl g155 (by decide) ?_); clear hS; intro v152 w10 rs_ hp_ hS; cases (show _=rs_ from hp_)
 replace hS:=Sep.reput hS p2; refine po ?_
 replace hS:=hS.drop Rm.z
 refine st (wnil ?_)
 refine (fun h=>bn (xl h)) ?_
 exact ⟨n_1,_,_,rfl,(aK3 (aI (aK3 (aO20 (aO1 aZ))))),⟨_,r141.2.1,a147,c148,r141.2.2.1,r141.2.2.2,l154,v152,(cs70++[.int .i64 r141.1.Kind,.int .i64 r141.1.N,S r141.1.Name,.slice a144 r141.1.Kids.length c145]),rfl,h,(le111.t (le116.t (le138.t le143))),hS,m149,m153⟩,Nat.lt_succ_self _⟩
 replace h:=iT h120 h
 refine cexit ?_
 refine (fun h=>xe (xe (bh h))) ?_
 refine xn (nz ?_)
 iterate 2 refine st ?_
 refine nw (cret ?_)
 replace hS:=hS.bg Y1
 obtain ⟨μ9,a157,c158,e161,le160,m159,hq_⟩:=Sep.frzRow hS (m113.up le116) rfl; clear hS
 subst e161; have hS:=hq_; clear hq_
 obtain rfl:=oI h
 refine ret1 rfl d2 ?_
 exact ⟨_,_,_,_,_,rfl,(le17.t (le20.t (le111.t (le116.t le160)))),hS,m159,(m119.up le160)⟩
theorem p_fixed_w {self:ParE} (IH:ParESound self) {μ0:M} {w0 w:World} {rsF:List Res} (hg:Le Gm μ0) {b1:Nat} {left_2:List TToken} {a3:Option Addr} {c4:Nat} {end_6 deep_7 p_2 p_3:Int} {r:TExpr×List TToken×Int×Int} (m5:Sl μ0 a3 c4 left_2) (h:p_fixed self left_2 end_6 deep_7 p_2 p_3=some r) (hS:Sq μ0 w0 w (.blk b1 76 [.slice a3 left_2.length c4,.int .i64 end_6,.int .i64 deep_7]::rsF)):CallsV prog 212 [.pointer (some ⟨b1,0,none⟩),.int .i64 p_2,.int .i64 p_3] w (fun v w'=>∃ (μ':M) (a8:Option Addr) (c9:Nat) (a11:Option Addr) (c12:Nat),v=.agg ⟨[.int .i64 r.1.Kind,.int .i64 r.1.N,S r.1.Name,.slice a8 r.1.Kids.length c9]⟩∧Le μ0 μ'∧Sq μ' w0 w' (.blk b1 76 [.slice a11 r.2.1.length c12,.int .i64 r.2.2.1,.int .i64 r.2.2.2]::rsF)∧Sl μ' a8 c9 r.1.Kids∧Sl μ' a11 c12 r.2.1):=by
 unfold p_fixed at h
 refine enter func212 rfl (frm:=_::_::_::u2 (u10 (u20 []))) rfl (nz ?_)
 refine wl (s_alloc ti111 hS ?_); clear hS; intro b14 w1 hb15 hS; refine po ?_
 refine nx (st (wl (s_build ti111 pl111 (Fl.o rfl (et d9) rfl rfl p0 Fl.z) (dt (q10 p0)) ?_)))
 refine wl (s_alloc ti111 hS ?_); clear hS; intro b16 w2 hb17 hS; refine po ?_
 refine wl (s_storeA ti111 (et d7) (et (k10 d0)) rfl rfl hS d0 rfl p0 dn ?_)
 clear hS; intro w3 hS
 refine nx (st ?_)
 refine wl (s_bsl underlying122 ti9 (Parts.s ec rfl Parts.z) rfl rfl hS ?_); clear hS; intro b18 w4 hb19 hS; refine po ?_
 obtain ⟨μ1,le21,m20,hS⟩:=Sep.frzBlk (l:=([[40]]:List (List UInt8))) hS (Rw.one (α:=List UInt8) rfl) (Nat.le_of_ble_eq_true rfl)
 obtain ⟨r22,g23,h⟩:=bI h
 replace hS:=hS.bg Y2
 refine ca (p_need_w (hg.t le21) (m5.up le21) m20 g23 hS) ?_
 rintro _ w5 ⟨μ2,a25,c26,rfl,le24,hS,m27⟩
 refine po (ny (nz ?_))
 iterate 2 refine st ?_
 refine nw (cblock ?_)
 replace hS:=hS.nilRow 111 (Mo.sz TExpr)
 replace hS:=((hS.bg Y2).bg Y3).bg Y3
 refine cloopE ([8]++rg 16 15) (by decide) (fun n m w=>∃ μx i63 l66 a64 c65 i68 i69 l72 v70 cs71,m=(yK8 (yO1 8 (yK6 (.i (.int .i64 i63)::(yO10 16 (yO5 26 []))))))∧p_fixed_l1 self p_2 p_3 n i63 l66 i68 i69 l72=some r∧Le μ2 μx∧Sq μx w0 w (.blk b1 76 [.slice a64 l66.length c65,.int .i64 i68,.int .i64 i69]::.blk b14 111 [.int .i64 0,.int .i64 0,S [],.slice none 0 0]::.blk b16 111 [.int .i64 p_2,.int .i64 0,S [],v70]::.row v70 111 4 l72.length cs71::rsF)∧Sl μx a64 c65 l66∧Rw μx cs71 l72) (by rintro _ _ _ ⟨_,_,_,_,_,_,_,_,_,_,rfl,_⟩; rfl) _ _ (aK8 (aO1 (aK6 (aI (aO10 (aO5 aZ)))))) ⟨_,0,r22.1,a25,c26,r22.2.1,r22.2.2,[],(.slice none 0 0),[],rfl,h,Le.r,hS,m27,Rw.nil⟩ ?_
 rintro n_1 _ t w6 ⟨μ3,i63,l66,a64,c65,i68,i69,l72,v70,cs71,rfl,h,le108,hS,m109,m110⟩
 rcases n_1 with _|n_1
 cases h
 unfold p_fixed_l1 at h
 refine cnrm (mK8 (mO1 (mK6 (mi (mO10 (mO5 mz)))))) (nz (st (ny ?_)))
 refine cifd (et (k10 d6)) (fun h111=>?_) (fun h111=>?_)
 replace h:=iT h111 h
 refine cskip (xn (cseq (cblock (nz ?_))))
 iterate 2 refine st ?_
 refine ny (nz ?_)
 iterate 2 refine st ?_
 refine nw ?_
 refine ccutE (rg 20 3) (by decide) (fun m w=>∃ μx l114 a112 c113 i116 i117,m=(yK20 (yO3 20 []))∧p_fixed_j1 self i63 l72 (p_fixed_l1 self p_2 p_3 n_1) l114 i116 i117=some r∧Le μ3 μx∧Sq μx w0 w (.blk b1 76 [.slice a112 l114.length c113,.int .i64 i116,.int .i64 i117]::.blk b14 111 [.int .i64 0,.int .i64 0,S [],.slice none 0 0]::.blk b16 111 [.int .i64 p_2,.int .i64 0,S [],v70]::.row v70 111 4 l72.length cs71::rsF)∧Sl μx a112 c113 l114) (by rintro _ _ ⟨_,_,_,_,_,_,rfl,_⟩; rfl) ?_ ?_
 refine cifd (et (k10 d9)) (fun h118=>?_) (fun h118=>?_)
 replace h:=iT h118 h
 refine creg (st ?_)
 refine wl (s_bsl underlying122 ti9 (Parts.s ec rfl Parts.z) rfl rfl hS ?_); clear hS; intro b119 w7 hb120 hS; refine po ?_
 obtain ⟨μ4,le122,m121,hS⟩:=Sep.frzBlk (l:=([[44]]:List (List UInt8))) hS (Rw.one (α:=List UInt8) rfl) (Nat.le_of_ble_eq_true rfl)
 obtain ⟨r123,g124,h⟩:=bI h
 refine ca (p_need_w (hg.t (le21.t (le24.t (le108.t le122)))) (m109.up le122) m121 g124 hS) ?_
 rintro _ w8 ⟨μ5,a126,c127,rfl,le125,hS,m128⟩
 refine po (wnil (xl ?_))
 exact ⟨_,_,rfl,(aK20 (aO3 aZ)),_,r123.1,_,_,r123.2.1,r123.2.2,rfl,h,(le122.t le125),hS,m128⟩
 replace h:=iF h118 h
 refine cskip (xl ?_)
 exact ⟨_,_,rfl,(aK20 (aO3 aZ)),_,_,_,_,_,_,rfl,h,Le.r,hS,m109⟩
 rintro _ t w9 ⟨μ6,l114,a112,c113,i116,i117,rfl,h,le129,hS,m130⟩
 unfold p_fixed_j1 at h
 refine nrm (mK20 (mO3 mz)) (xn ?_)
 refine ccutE (rg 23 7) (by decide) (fun m w=>∃ μx l133 a131 c132 i135 i136 l139 v137 cs138,m=(yK20 (yK3 (yO7 23 [])))∧p_fixed_j2 i63 (p_fixed_l1 self p_2 p_3 n_1) l133 i135 i136 l139=some r∧Le μ6 μx∧Sq μx w0 w (.blk b1 76 [.slice a131 l133.length c132,.int .i64 i135,.int .i64 i136]::.blk b14 111 [.int .i64 0,.int .i64 0,S [],.slice none 0 0]::.blk b16 111 [.int .i64 p_2,.int .i64 0,S [],v137]::.row v137 111 4 l139.length cs138::rsF)∧Sl μx a131 c132 l133∧Rw μx cs138 l139) (by rintro _ _ ⟨_,_,_,_,_,_,_,_,_,rfl,_⟩; rfl) ?_ ?_
 refine cdw hS ?_; clear hS; intro w10 hS
 refine sf_start (fpi 0 [0,1,5,6,7] rfl (fr_ 1 [1,5,6,7] rfl (u_load ti109 (et (k20 d3)) ((hS.blk d2).cell d3)) (q20 p4) (fpi 2 [2,3,4,5,6,7] rfl ?_)))
 obtain ⟨r141,g142,h⟩:=bI h
 refine sf1 rfl rfl rfl rfl (wn0 rfl) (s_callv isfn152 ef (e1 (et (k20 d5)) e0) (IH.p_expr (hg.t (le21.t (le24.t (le108.t le129)))) m130 g142 hS) ?_)
 rintro _ w11 ⟨μ7,a144,c145,a147,c148,rfl,le143,hS,m146,m149⟩
 refine po ?_
 refine ⟨(Mons.s (u_load ti109 (et (k20 d3)) ((hS.blk d2).cell d3)) Mons.z),?_⟩
 refine sf1 rfl rfl rfl rfl (wn0 rfl) (s_bsl1 underlying109 ti111 rfl (et (k20 d6)) rfl hS ?_); clear hS; intro b150 w12 hb151 hS; refine po ?_
 refine ⟨(Mons.s (u_load ti109 (et (k20 d3)) ((hS.blk d3).cell d3)) Mons.z),?_⟩
 obtain ⟨l154,g155,h⟩:=bI h
 have m156:Rw μ7 [.int .i64 r141.1.Kind,.int .i64 r141.1.N,S r141.1.Name,.slice a144 r141.1.Kids.length c145] [r141.1]:=(Rw.one (α:=TExpr) (TExpr.i ⟨a144,c145,rfl,m146⟩))
 have m153:=Rw.app (m110.up (le129.t le143)) m156 g155
 refine sf1 rfl rfl rfl rfl (wn0 rfl) (s_app1 underlying109 ti111 rfl (et (k20 d4)) (et (k20 d7)) hS d4 (hS.blk d0).cells m156 rfl g155 (by decide) ?_); clear hS; intro v152 w13 rs_ hp_ hS; cases (show _=rs_ from hp_)
 replace hS:=Sep.reput hS p4; refine po ?_
 replace hS:=hS.drop Rm.z
 refine ⟨Mons.z,?_⟩
 refine fpi 6 [6,7] rfl (sf1 rfl rfl rfl rfl (wn0 rfl) (s_store1 ti109 (et (k20 d9)) (et (k20 d8)) (hS.get d3).cellV hS d2 p3 rfl p2 dn ?_))
 clear hS; intro w14 hS
 refine ⟨Mons.z,?_⟩
 refine sf_nil (xl ?_)
 exact ⟨_,_,rfl,(aK20 (aK3 (aO7 aZ))),_,r141.2.1,_,_,r141.2.2.1,r141.2.2.2,_,_,(cs71++[.int .i64 r141.1.Kind,.int .i64 r141.1.N,S r141.1.Name,.slice a144 r141.1.Kids.length c145]),rfl,h,le143,hS,m149,m153⟩
 rintro _ t w15 ⟨μ8,l133,a131,c132,i135,i136,l139,v137,cs138,rfl,h,le157,hS,m158,m159⟩
 unfold p_fixed_j2 at h
 refine nrm (mK20 (mK3 (mO7 mz))) ?_
 refine (fun h=>bn (xn h)) ?_
 refine creg ?_
 obtain ⟨i160,g161,h⟩:=bI h
 refine wl (su (u_addc (et (k10 d5)) ec g161) (dt (q30 p0)) (st (wnil (xl ?_))))
 exact ⟨n_1,_,_,rfl,(aK8 (aO1 (aK6 (aI (aO10 (aO5 aZ)))))),⟨_,i160,l133,a131,c132,i135,i136,l139,v137,cs138,rfl,h,(le108.t (le129.t le157)),hS,m158,m159⟩,Nat.lt_succ_self _⟩
 replace h:=iF h111 h
 refine cexit ?_
 refine (fun h=>xe (xe (bh h))) ?_
 refine xn (nz (st ?_))
 refine wl (s_bsl underlying122 ti9 (Parts.s ec rfl Parts.z) rfl rfl hS ?_); clear hS; intro b162 w16 hb163 hS; refine po ?_
 obtain ⟨μ9,le165,m164,hS⟩:=Sep.frzBlk (l:=([[41]]:List (List UInt8))) hS (Rw.one (α:=List UInt8) rfl) (Nat.le_of_ble_eq_true rfl)
 obtain ⟨r166,g167,h⟩:=bI h
 refine ca (p_need_w (hg.t (le21.t (le24.t (le108.t le165)))) (m109.up le165) m164 g167 hS) ?_
 rintro _ w17 ⟨μ10,a169,c170,rfl,le168,hS,m171⟩
 refine po (nx (lds (hS.blk d2).cells rfl (wl (s_storeA ti111 (et d6) (et (k30 d4)) rfl (cv_s rfl (cv_s rfl (cv_s rfl (cv_s ((hS.get d3).cellV) cv_z)))) hS d1 rfl p1 dn ?_))))
 clear hS; intro w18 hS
 refine nw (cret ?_)
 replace hS:=hS.bg Y3
 obtain ⟨μ11,a172,c173,e176,le175,m174,hq_⟩:=Sep.frzRow hS (m110.up (le165.t le168)) rfl; clear hS
 subst e176; have hS:=hq_; clear hq_
 obtain rfl:=oI h
 refine retN rfl (RVs.s (.a d6 ti111 (hS.blk d1).cells rfl) RVs.z) ?_
 replace hS:=(hS.drop (Rm.s Rm.z)).drop (Rm.s Rm.z)
 exact ⟨_,_,_,_,_,rfl,(le21.t (le24.t (le108.t (le165.t (le168.t le175))))),hS,m174,(m171.up le175)⟩
theorem ParE_sound:∀ n,ParESound (ParE_run n)
  | 0=>⟨(by intros; rename_i h _; cases h),(by intros; rename_i h _; cases h),(by intros; rename_i h _; cases h),(by intros; rename_i h _; cases h),(by intros; rename_i h _; cases h),(by intros; rename_i h _; cases h)⟩
  | n+1=>⟨p_expr_w (ParE_sound n),p_level_w (ParE_sound n),p_unary_w (ParE_sound n),p_primary_w (ParE_sound n),p_args_w (ParE_sound n),p_fixed_w (ParE_sound n)⟩
structure ParSSound (sf:ParS):Prop where
  p_body:∀ {μ0:M} {w0 w:World} {rsF:List Res} (hg:Le Gm μ0) {b1:Nat} {left_2:List TToken} {a3:Option Addr} {c4:Nat} {end_6 deep_7:Int} {r:List TStat×List TToken×Int×Int} (m5:Sl μ0 a3 c4 left_2) (h:sf.p_body left_2 end_6 deep_7=some r) (hS:Sq μ0 w0 w (.blk b1 76 [.slice a3 left_2.length c4,.int .i64 end_6,.int .i64 deep_7]::rsF)),CallsV prog 66 [.pointer (some ⟨b1,0,none⟩)] w (fun v w'=>∃ (μ':M) (a8:Option Addr) (c9:Nat) (a11:Option Addr) (c12:Nat),v=.slice a8 r.1.length c9∧Le μ0 μ'∧Sq μ' w0 w' (.blk b1 76 [.slice a11 r.2.1.length c12,.int .i64 r.2.2.1,.int .i64 r.2.2.2]::rsF)∧Sl μ' a8 c9 r.1∧Sl μ' a11 c12 r.2.1)
  p_stat:∀ {μ0:M} {w0 w:World} {rsF:List Res} (hg:Le Gm μ0) {b1:Nat} {left_2:List TToken} {a3:Option Addr} {c4:Nat} {end_6 deep_7:Int} {r:TStat×List TToken×Int×Int} (m5:Sl μ0 a3 c4 left_2) (h:sf.p_stat left_2 end_6 deep_7=some r) (hS:Sq μ0 w0 w (.blk b1 76 [.slice a3 left_2.length c4,.int .i64 end_6,.int .i64 deep_7]::rsF)),CallsV prog 111 [.pointer (some ⟨b1,0,none⟩)] w (fun v w'=>∃ (μ':M) (a8:Option Addr) (c9:Nat) (a11:Option Addr) (c12:Nat) (a14:Option Addr) (c15:Nat) (a17:Option Addr) (c18:Nat),v=.agg ⟨[.int .i64 r.1.Kind,S r.1.Name,.int .i64 r.1.X.Kind,.int .i64 r.1.X.N,S r.1.X.Name,.slice a8 r.1.X.Kids.length c9,.slice a11 r.1.Body.length c12,.slice a14 r.1.Else.length c15]⟩∧Le μ0 μ'∧Sq μ' w0 w' (.blk b1 76 [.slice a17 r.2.1.length c18,.int .i64 r.2.2.1,.int .i64 r.2.2.2]::rsF)∧Sl μ' a8 c9 r.1.X.Kids∧Sl μ' a11 c12 r.1.Body∧Sl μ' a14 c15 r.1.Else∧Sl μ' a17 c18 r.2.1)
theorem p_body_w {self:ParS} (IH:ParSSound self) {fu:Nat} {μ0:M} {w0 w:World} {rsF:List Res} (hg:Le Gm μ0) {b1:Nat} {left_2:List TToken} {a3:Option Addr} {c4:Nat} {end_6 deep_7:Int} {r:List TStat×List TToken×Int×Int} (m5:Sl μ0 a3 c4 left_2) (h:p_body fu self left_2 end_6 deep_7=some r) (hS:Sq μ0 w0 w (.blk b1 76 [.slice a3 left_2.length c4,.int .i64 end_6,.int .i64 deep_7]::rsF)):CallsV prog 66 [.pointer (some ⟨b1,0,none⟩)] w (fun v w'=>∃ (μ':M) (a8:Option Addr) (c9:Nat) (a11:Option Addr) (c12:Nat),v=.slice a8 r.1.length c9∧Le μ0 μ'∧Sq μ' w0 w' (.blk b1 76 [.slice a11 r.2.1.length c12,.int .i64 r.2.2.1,.int .i64 r.2.2.2]::rsF)∧Sl μ' a8 c9 r.1∧Sl μ' a11 c12 r.2.1):=by
 unfold p_body at h
 refine enterF func66 rfl (frm:=_::u2 (u2 (u20 []))) rfl (nz (st (nx (st ?_))))
 obtain ⟨r14,g15,h⟩:=bI h
 refine ca (p_into_w hg m5 g15 hS) ?_
 rintro _ w1 ⟨μ1,b17,a18,c19,rfl,le16,hS,m20⟩
 refine po (wl (s_defer (et d5) e0 dn (nx (st (ny (nz (st ?_)))))))
 refine wl (s_bsl underlying122 ti9 (Parts.s ec rfl Parts.z) rfl rfl hS ?_); clear hS; intro b21 w2 hb22 hS; refine po ?_
 obtain ⟨μ2,le24,m23,hS⟩:=Sep.frzBlk (l:=([[123]]:List (List UInt8))) hS (Rw.one (α:=List UInt8) rfl) (Nat.le_of_ble_eq_true rfl)
 obtain ⟨r25,g26,h⟩:=bI h
 replace hS:=hS.bg Y1
 refine ca (p_need_w (hg.t (le16.t le24)) (m20.up le24) m23 g26 hS) ?_
 rintro _ w3 ⟨μ3,a28,c29,rfl,le27,hS,m30⟩
 refine po (nw (cblock ?_))
 replace hS:=hS.nilRow 113 (Mo.sz TStat)
 replace hS:=(hS.bg Y2).bg Y2
 refine cloopE (rg 9 15) (by decide) (fun n m w=>∃ μx l62 a60 c61 i65 i66 l69 v67 cs68,m=(yK3 (.i (v67)::(yK5 (yO10 9 (yO5 19 [])))))∧p_body_l1 self n l62 i65 i66 l69=some r∧Le μ3 μx∧Sq μx w0 w (.blk b1 76 [.slice a60 l62.length c61,.int .i64 i65,.int .i64 i66]::.blk b17 74 [.pointer (some ⟨b1,0,none⟩)]::.row v67 113 8 l69.length cs68::rsF)∧Sl μx a60 c61 l62∧Rw μx cs68 l69) (by rintro _ _ _ ⟨_,_,_,_,_,_,_,_,_,rfl,_⟩; rfl) _ _ (aK3 (aI (aK5 (aO10 (aO5 aZ))))) ⟨_,r25.1,a28,c29,r25.2.1,r25.2.2,[],(.slice none 0 0),[],rfl,h,Le.r,hS,m30,Rw.nil⟩ ?_
 rintro n_1 _ t w4 ⟨μ4,l62,a60,c61,i65,i66,l69,v67,cs68,rfl,h,le99,hS,m100,m101⟩
 rcases n_1 with _|n_1
 cases h
 unfold p_body_l1 at h
 refine cnrm (mK3 (mi (mK5 (mO10 (mO5 mz))))) (cseq (nz (st ?_)))
 obtain ⟨r102,g103,h⟩:=bI h
 refine ca (p_is_w (hg.t (le16.t (le24.t (le27.t le99)))) m100 g103 hS) ?_
 rintro _ w5 ⟨μ5,a105,c106,rfl,le104,hS,m107⟩
 refine po (st (nw ?_))
 refine cifnb (et (k10 d1)) (fun h108=>?_) (fun h108=>?_)
 replace h:=iF h108 h
 refine cskip (xn (cblock (cseq (nz (st (wl (su (u_lenv underlying64 (et (k10 d2)) (hS.get d2).isSl) (dt (q10 p3)) (st (nw ?_)))))))))
 refine cifd (et (k10 d4)) (fun h109=>?_) (fun h109=>?_)
 replace h:=iT h109 h
 cases h
 replace h:=iF h109 h
 refine cskip (xn (creg ?_))
 iterate 2 refine st ?_
 obtain ⟨r110,g111,h⟩:=bI h
 refine ca (IH.p_stat (hg.t (le16.t (le24.t (le27.t (le99.t le104))))) m107 g111 hS) ?_
 rintro _ w6 ⟨μ6,a113,c114,a116,c117,a119,c120,a122,c123,rfl,le112,hS,m115,m118,m121,m124⟩
 refine po ?_
 refine wl (s_bsl1 underlying64 ti113 rfl (et (k20 d1)) rfl hS ?_); clear hS; intro b125 w7 hb126 hS; refine po ?_
 obtain ⟨l129,g130,h⟩:=bI h
 have m131:Rw μ6 [.int .i64 r110.1.Kind,S r110.1.Name,.int .i64 r110.1.X.Kind,.int .i64 r110.1.X.N,S r110.1.X.Name,.slice a113 r110.1.X.Kids.length c114,.slice a116 r110.1.Body.length c117,.slice a119 r110.1.Else.length c120] [r110.1]:=(Rw.one (α:=TStat) (TStat.i ⟨a113,c114,a116,c117,a119,c120,rfl,m115,m118,m121⟩))
 have m128:=Rw.app (m101.up (le104.t le112)) m131 g130
 refine wl (s_app1 underlying64 ti113 rfl (et (k10 d9)) (et (k20 d2)) hS d3 (hS.blk d0).cells m131 rfl g130 (by decide) ?_); clear hS; intro v127 w8 rs_ hp_ hS; cases (show _=rs_ from hp_)
 replace hS:=Sep.reput hS p3; refine po ?_
 replace hS:=hS.drop Rm.z
 refine st (wnil ?_)
 refine (fun h=>bn (xl h)) ?_
 exact ⟨n_1,_,_,rfl,(aK3 (aI (aK5 (aO10 (aO5 aZ))))),⟨_,r110.2.1,a122,c123,r110.2.2.1,r110.2.2.2,l129,v127,(cs68++[.int .i64 r110.1.Kind,S r110.1.Name,.int .i64 r110.1.X.Kind,.int .i64 r110.1.X.N,S r110.1.X.Name,.slice a113 r110.1.X.Kids.length c114,.slice a116 r110.1.Body.length c117,.slice a119 r110.1.Else.length c120]),rfl,h,(le99.t (le104.t le112)),hS,m124,m128⟩,Nat.lt_succ_self _⟩
 replace h:=iT h108 h
 refine cexit ?_
 refine (fun h=>xe (xe (bh h))) ?_
 refine xn (nz ?_)
 iterate 2 refine st ?_
 refine nw (cret ?_)
 obtain ⟨r132,g133,h⟩:=bI h
 replace hS:=hS.bg Y1
 refine retD isfn151 (p_out_w (hg.t (le16.t (le24.t (le27.t (le99.t le104))))) m107 g133 hS) ?_
 rintro _ w9 ⟨μ7,a135,c136,rfl,le134,hS,m137⟩
 replace hS:=hS.bg Y2
 obtain ⟨μ8,a138,c139,e142,le141,m140,hq_⟩:=Sep.frzRow hS (m101.up (le104.t le134)) rfl; clear hS
 subst e142; have hS:=hq_; clear hq_
 obtain rfl:=oI h
 refine retDN rfl (RVs.s (.t d2) RVs.z) ?_
 replace hS:=hS.drop Rm.z
 exact ⟨_,_,_,_,_,rfl,(le16.t (le24.t (le27.t (le99.t (le104.t (le134.t le141)))))),hS,m140,(m137.up le141)⟩
theorem p_stat_w {self:ParS} (IH:ParSSound self) {fu:Nat} {μ0:M} {w0 w:World} {rsF:List Res} (hg:Le Gm μ0) {b1:Nat} {left_2:List TToken} {a3:Option Addr} {c4:Nat} {end_6 deep_7:Int} {r:TStat×List TToken×Int×Int} (m5:Sl μ0 a3 c4 left_2) (h:p_stat fu self left_2 end_6 deep_7=some r) (hS:Sq μ0 w0 w (.blk b1 76 [.slice a3 left_2.length c4,.int .i64 end_6,.int .i64 deep_7]::rsF)):CallsV prog 111 [.pointer (some ⟨b1,0,none⟩)] w (fun v w'=>∃ (μ':M) (a8:Option Addr) (c9:Nat) (a11:Option Addr) (c12:Nat) (a14:Option Addr) (c15:Nat) (a17:Option Addr) (c18:Nat),v=.agg ⟨[.int .i64 r.1.Kind,S r.1.Name,.int .i64 r.1.X.Kind,.int .i64 r.1.X.N,S r.1.X.Name,.slice a8 r.1.X.Kids.length c9,.slice a11 r.1.Body.length c12,.slice a14 r.1.Else.length c15]⟩∧Le μ0 μ'∧Sq μ' w0 w' (.blk b1 76 [.slice a17 r.2.1.length c18,.int .i64 r.2.2.1,.int .i64 r.2.2.2]::rsF)∧Sl μ' a8 c9 r.1.X.Kids∧Sl μ' a11 c12 r.1.Body∧Sl μ' a14 c15 r.1.Else∧Sl μ' a17 c18 r.2.1):=by
 unfold p_stat at h
 refine enter func111 rfl (frm:=_::u1 (u10 (u20 (u50 [])))) rfl (nz ?_)
 refine wl (s_alloc ti113 hS ?_); clear hS; intro b20 w1 hb21 hS; refine po ?_
 refine nx (wl (s_build ti113 pl113 Fl.z (dt p4) ?_))
 refine wl (s_alloc ti113 hS ?_); clear hS; intro b22 w2 hb23 hS; refine po ?_
 refine wl (s_storeA ti113 (et d3) (et d4) rfl rfl hS d0 rfl p0 dn ?_)
 clear hS; intro w3 hS
 refine ny ?_
 refine ccutE (rg 5 73) (by decide +kernel) (fun m w=>∃ μx l26 a24 c25 i28 i29 i30 s31 i33 i34 s35 l38 a36 c37,m=(yK5 (yO50 5 (yO20 55 (yO3 75 []))))∧p_stat_j1 l26 i28 i29 i30 s31 i33 i34 s35 l38=some r∧Le μ0 μx∧Sq μx w0 w (.blk b1 76 [.slice a24 l26.length c25,.int .i64 i28,.int .i64 i29]::.blk b20 113 [.int .i64 0,S [],.int .i64 0,.int .i64 0,S [],.slice none 0 0,.slice none 0 0,.slice none 0 0]::.blk b22 113 [.int .i64 i30,S s31,.int .i64 i33,.int .i64 i34,S s35,.slice a36 l38.length c37,.slice none 0 0,.slice none 0 0]::rsF)∧Sl μx a24 c25 l26∧Sl μx a36 c37 l38) (by rintro _ _ ⟨_,_,_,_,_,_,_,_,_,_,_,_,_,_,rfl,_⟩; rfl) ?_ ?_
 refine cblock (nz (st ?_))
 obtain ⟨r40,g41,h⟩:=bI h
 replace hS:=hS.bg Y2
 refine ca (p_is_w hg m5 g41 hS) ?_
 rintro _ w4 ⟨μ1,a43,c44,rfl,le42,hS,m45⟩
 refine po (st (nw ?_))
 refine cifb (et (k10 d4)) (fun h46=>?_) (fun h46=>?_)
 replace h:=iT h46 h
 refine nz (st ?_)
 obtain ⟨r47,g48,h⟩:=bI h
 refine ca ((ParE_sound fu).p_expr (hg.t le42) m45 g48 hS) ?_
 rintro _ w5 ⟨μ2,a50,c51,a53,c54,rfl,le49,hS,m52,m55⟩
 refine po (st ?_)
 obtain ⟨r56,g57,h⟩:=bI h
 refine ca (IH.p_body (hg.t (le42.t le49)) m55 g57 hS) ?_
 rintro _ w6 ⟨μ3,a59,c60,a62,c63,rfl,le58,hS,m61,m64⟩
 refine po (wl (s_build ti113 pl113 (Fl.o rfl ec rfl rfl p0 (Fl.n rfl (et (k10 d8)) rfl rfl (Spl.s p2 (of_decide_eq_true rfl) (Spl.s p3 (of_decide_eq_true rfl) (Spl.s p4 (of_decide_eq_true rfl) (Spl.s p5 (of_decide_eq_true rfl) Spl.z)))) (Fl.o rfl (et (k20 d0)) rfl rfl p6 Fl.z))) (dt (q20 p1)) (wl (s_storeA ti113 (et d3) (et (k20 d1)) rfl rfl hS d1 rfl p1 dn ?_))))
 clear hS; intro w7 hS
 refine ny (nz (st ?_))
 obtain ⟨r65,g66,h⟩:=bI h
 refine ca (p_is_w (hg.t (le42.t (le49.t le58))) m64 g66 hS) ?_
 rintro _ w8 ⟨μ4,a68,c69,rfl,le67,hS,m70⟩
 refine po (nw ?_)
 refine ccutE (rg 24 3) (by decide) (fun m w=>∃ μx l73 a71 c72 i75 i76 l79 a77 c78,m=(yK20 (yK4 (yO3 24 [])))∧p_stat_j2 r47 r56 l73 i75 i76 l79=some r∧Le μ4 μx∧Sq μx w0 w (.blk b1 76 [.slice a71 l73.length c72,.int .i64 i75,.int .i64 i76]::.blk b20 113 [.int .i64 0,S [],.int .i64 0,.int .i64 0,S [],.slice none 0 0,.slice none 0 0,.slice none 0 0]::.blk b22 113 [.int .i64 3,S [],.int .i64 r47.1.Kind,.int .i64 r47.1.N,S r47.1.Name,.slice a50 r47.1.Kids.length c51,.slice a59 r56.1.length c60,.slice a77 l79.length c78]::rsF)∧Sl μx a71 c72 l73∧Sl μx a77 c78 l79) (by rintro _ _ ⟨_,_,_,_,_,_,_,_,_,rfl,_⟩; rfl) ?_ ?_
 refine cifb (et (k20 d3)) (fun h81=>?_) (fun h81=>?_)
 replace h:=iT h81 h
 refine creg (st ?_)
 obtain ⟨r82,g83,h⟩:=bI h
 refine ca (IH.p_body (hg.t (le42.t (le49.t (le58.t le67)))) m70 g83 hS) ?_
 rintro _ w9 ⟨μ5,a85,c86,a88,c89,rfl,le84,hS,m87,m90⟩
 refine po (st (wl (s_store1 ti64 (et (k20 d6)) (et (k20 d5)) rfl hS d1 p7 rfl p1 dn ?_)))
 clear hS; intro w10 hS
 refine wnil (xl ?_)
 replace hS:=((hS.bg Y1).bg Y2).bg Y2
 exact ⟨_,_,rfl,(aK20 (aK4 (aO3 aZ))),_,r82.2.1,_,_,r82.2.2.1,r82.2.2.2,r82.1,_,_,rfl,h,le84,hS,m90,m87⟩
 replace h:=iF h81 h
 refine cskip (xl ?_)
 replace hS:=((hS.bg Y1).bg Y2).bg Y2
 exact ⟨_,_,rfl,(aK20 (aK4 (aO3 aZ))),_,r65.2.1,_,_,r65.2.2.1,r65.2.2.2,[],none,0,rfl,h,Le.r,hS,m70,Sl.nil⟩
 rintro _ t w11 ⟨μ6,l73,a71,c72,i75,i76,l79,a77,c78,rfl,h,le91,hS,m92,m93⟩
 unfold p_stat_j2 at h
 refine nrm (mK20 (mK4 (mO3 mz))) (xn (nz (lds (hS.blk d2).cells rfl (wl (s_storeA ti113 (et d2) (et (k20 d7)) rfl rfl hS d1 rfl p1 dn ?_)))))
 clear hS; intro w12 hS
 refine nw (cret ?_)
 refine (fun h=>br (xr (xr h))) ?_
 obtain rfl:=oI h
 refine retN rfl (RVs.s (.a d2 ti113 (hS.blk d1).cells rfl) RVs.z) ?_
 replace hS:=(hS.drop (Rm.s Rm.z)).drop (Rm.s Rm.z)
 exact ⟨_,_,_,_,_,_,_,_,_,rfl,(le42.t (le49.t (le58.t (le67.t le91)))),hS,(m52.up (le58.t (le67.t le91))),(m61.up (le67.t le91)),m93,m92⟩
 replace h:=iF h46 h
 refine nz (st ?_)
 obtain ⟨r94,g95,h⟩:=bI h
 refine ca (p_is_w (hg.t le42) m45 g95 hS) ?_
 rintro _ w13 ⟨μ7,a97,c98,rfl,le96,hS,m99⟩
 refine po (st (nw ?_))
 refine cifb (et (k20 d8)) (fun h100=>?_) (fun h100=>?_)
 replace h:=iT h100 h
 refine nz (st ?_)
 obtain ⟨r101,g102,h⟩:=bI h
 refine ca ((ParE_sound fu).p_expr (hg.t (le42.t le96)) m99 g102 hS) ?_
 rintro _ w14 ⟨μ8,a104,c105,a107,c108,rfl,le103,hS,m106,m109⟩
 refine po (st ?_)
 obtain ⟨r110,g111,h⟩:=bI h
 refine ca (IH.p_body (hg.t (le42.t (le96.t le103))) m109 g111 hS) ?_
 rintro _ w15 ⟨μ9,a113,c114,a116,c117,rfl,le112,hS,m115,m118⟩
 refine po (wl (s_build ti113 pl113 (Fl.o rfl ec rfl rfl p0 (Fl.n rfl (et (k30 d2)) rfl rfl (Spl.s p2 (of_decide_eq_true rfl) (Spl.s p3 (of_decide_eq_true rfl) (Spl.s p4 (of_decide_eq_true rfl) (Spl.s p5 (of_decide_eq_true rfl) Spl.z)))) (Fl.o rfl (et (k30 d4)) rfl rfl p6 Fl.z))) (dt (q30 p5)) (wl (s_storeA ti113 (et d2) (et (k30 d5)) rfl rfl hS d2 rfl p2 dn ?_))))
 clear hS; intro w16 hS
 refine nw (cret ?_)
 refine (fun h=>br (xr (xr h))) ?_
 obtain rfl:=oI h
 refine retN rfl (RVs.s (.a d2 ti113 (hS.blk d2).cells rfl) RVs.z) ?_
 replace hS:=(hS.drop (Rm.s Rm.z)).drop (Rm.s Rm.z)
 exact ⟨_,_,_,_,_,none,0,_,_,rfl,(le42.t (le96.t (le103.t le112))),hS,(m106.up le112),m115,Sl.nil,m118⟩
 replace h:=iF h100 h
 refine nz (st ?_)
 obtain ⟨r119,g120,h⟩:=bI h
 refine ca (p_is_w (hg.t (le42.t le96)) m99 g120 hS) ?_
 rintro _ w17 ⟨μ10,a122,c123,rfl,le121,hS,m124⟩
 refine po (st (nw ?_))
 refine cifb (et (k30 d6)) (fun h125=>?_) (fun h125=>?_)
 replace h:=iT h125 h
 refine nz (st ?_)
 obtain ⟨r126,g127,h⟩:=bI h
 refine ca (p_name_w (hg.t (le42.t (le96.t le121))) m124 g127 hS) ?_
 rintro _ w18 ⟨μ11,a129,c130,rfl,le128,hS,m131⟩
 refine po (wl (s_build ti113 pl113 (Fl.o rfl ec rfl rfl p0 (Fl.o rfl (et (k40 d0)) rfl rfl p1 Fl.z)) (dt (q40 p1)) (wl (s_storeA ti113 (et d3) (et (k40 d1)) rfl rfl hS d1 rfl p1 dn ?_))))
 clear hS; intro w19 hS
 refine nx (st ?_)
 refine wl (s_bsl underlying122 ti9 (Parts.s ec rfl Parts.z) rfl rfl hS ?_); clear hS; intro b132 w20 hb133 hS; refine po ?_
 obtain ⟨μ12,le135,m134,hS⟩:=Sep.frzBlk (l:=([[61]]:List (List UInt8))) hS (Rw.one (α:=List UInt8) rfl) (Nat.le_of_ble_eq_true rfl)
 obtain ⟨r136,g137,h⟩:=bI h
 refine ca (p_need_w (hg.t (le42.t (le96.t (le121.t (le128.t le135))))) (m131.up le135) m134 g137 hS) ?_
 rintro _ w21 ⟨μ13,a139,c140,rfl,le138,hS,m141⟩
 refine po (nw (creg (st ?_)))
 obtain ⟨r142,g143,h⟩:=bI h
 refine ca ((ParE_sound fu).p_expr (hg.t (le42.t (le96.t (le121.t (le128.t (le135.t le138)))))) m141 g143 hS) ?_
 rintro _ w22 ⟨μ14,a145,c146,a148,c149,rfl,le144,hS,m147,m150⟩
 refine po (st (wl (s_store ti111 (et (k40 d7)) (et (k40 d6)) rfl rfl rfl hS d1 (Spl.s p2 (of_decide_eq_true rfl) (Spl.s p3 (of_decide_eq_true rfl) (Spl.s p4 (of_decide_eq_true rfl) (Spl.s p5 (of_decide_eq_true rfl) Spl.z)))) rfl p1 dn ?_)))
 clear hS; intro w23 hS
 refine wnil ?_
 refine (fun h=>bn (xl h)) ?_
 replace hS:=((hS.bg Y1).bg Y2).bg Y2
 exact ⟨_,_,rfl,(aK5 (aO50 (aO20 (aO3 aZ)))),_,r142.2.1,_,_,r142.2.2.1,r142.2.2.2,1,r126.1,r142.1.Kind,r142.1.N,r142.1.Name,r142.1.Kids,_,_,rfl,h,(le42.t (le96.t (le121.t (le128.t (le135.t (le138.t le144)))))),hS,m150,m147⟩
 replace h:=iF h125 h
 refine nz (st ?_)
 obtain ⟨r151,g152,h⟩:=bI h
 refine ca (p_is_w (hg.t (le42.t (le96.t le121))) m124 g152 hS) ?_
 rintro _ w24 ⟨μ15,a154,c155,rfl,le153,hS,m156⟩
 refine po (st (nw ?_))
 refine cifb (et (k40 d8)) (fun h157=>?_) (fun h157=>?_)
 replace h:=iT h157 h
 refine creg (st ?_)
 obtain ⟨r158,g159,h⟩:=bI h
 refine ca ((ParE_sound fu).p_expr (hg.t (le42.t (le96.t (le121.t le153)))) m156 g159 hS) ?_
 rintro _ w25 ⟨μ16,a161,c162,a164,c165,rfl,le160,hS,m163,m166⟩
 refine po (wl (s_build ti113 pl113 (Fl.o rfl ec rfl rfl p0 (Fl.n rfl (et (k50 d2)) rfl rfl (Spl.s p2 (of_decide_eq_true rfl) (Spl.s p3 (of_decide_eq_true rfl) (Spl.s p4 (of_decide_eq_true rfl) (Spl.s p5 (of_decide_eq_true rfl) Spl.z)))) Fl.z)) (dt (q50 p3)) (wl (s_storeA ti113 (et d3) (et (k50 d3)) rfl rfl hS d1 rfl p1 dn ?_))))
 clear hS; intro w26 hS
 refine wnil ?_
 refine (fun h=>bn (xl h)) ?_
 replace hS:=((hS.bg Y1).bg Y2).bg Y2
 exact ⟨_,_,rfl,(aK5 (aO50 (aO20 (aO3 aZ)))),_,r158.2.1,_,_,r158.2.2.1,r158.2.2.2,5,[],r158.1.Kind,r158.1.N,r158.1.Name,r158.1.Kids,_,_,rfl,h,(le42.t (le96.t (le121.t (le153.t le160)))),hS,m166,m163⟩
 replace h:=iF h157 h
 refine nz (st ?_)
 obtain ⟨r167,g168,h⟩:=bI h
 refine ca (p_is_w (hg.t (le42.t (le96.t (le121.t le153)))) m156 g168 hS) ?_
 rintro _ w27 ⟨μ17,a170,c171,rfl,le169,hS,m172⟩
 refine po (st (nw ?_))
 refine cifb (et (k50 d4)) (fun h173=>?_) (fun h173=>?_)
 replace h:=iT h173 h
 refine creg (st (wl (s_store1 ti3 (et (k50 d7)) ec rfl hS d1 p0 rfl p1 dn ?_)))
 clear hS; intro w28 hS
 refine wnil ?_
 refine (fun h=>bn (xl h)) ?_
 replace hS:=((hS.bg Y1).bg Y2).bg Y2
 exact ⟨_,_,rfl,(aK5 (aO50 (aO20 (aO3 aZ)))),_,r167.2.1,_,_,r167.2.2.1,r167.2.2.2,6,[],0,0,[],[],none,0,rfl,h,(le42.t (le96.t (le121.t (le153.t le169)))),hS,m172,Sl.nil⟩
 replace h:=iF h173 h
 refine nz (st ?_)
 obtain ⟨r174,g175,h⟩:=bI h
 refine ca (p_is_w (hg.t (le42.t (le96.t (le121.t (le153.t le169))))) m172 g175 hS) ?_
 rintro _ w29 ⟨μ18,a177,c178,rfl,le176,hS,m179⟩
 refine po (st (nw ?_))
 refine cifb (et (k50 d8)) (fun h180=>?_) (fun h180=>?_)
 replace h:=iT h180 h
 refine creg (st ?_)
 obtain ⟨r181,g182,h⟩:=bI h
 refine ca (p_name_w (hg.t (le42.t (le96.t (le121.t (le153.t (le169.t le176)))))) m179 g182 hS) ?_
 rintro _ w30 ⟨μ19,a184,c185,rfl,le183,hS,m186⟩
 refine po (st ?_)
 obtain ⟨r187,g188,h⟩:=bI h
 refine ca ((ParE_sound fu).p_expr (hg.t (le42.t (le96.t (le121.t (le153.t (le169.t (le176.t le183))))))) m186 g188 hS) ?_
 rintro _ w31 ⟨μ20,a190,c191,a193,c194,rfl,le189,hS,m192,m195⟩
 refine po (wl (s_build ti113 pl113 (Fl.o rfl ec rfl rfl p0 (Fl.o rfl (et (k60 d2)) rfl rfl p1 (Fl.n rfl (et (k60 d4)) rfl rfl (Spl.s p2 (of_decide_eq_true rfl) (Spl.s p3 (of_decide_eq_true rfl) (Spl.s p4 (of_decide_eq_true rfl) (Spl.s p5 (of_decide_eq_true rfl) Spl.z)))) Fl.z))) (dt (q60 p5)) (wl (s_storeA ti113 (et d3) (et (k60 d5)) rfl rfl hS d1 rfl p1 dn ?_))))
 clear hS; intro w32 hS
 refine wnil ?_
 refine (fun h=>bn (xl h)) ?_
 replace hS:=((hS.bg Y1).bg Y2).bg Y2
 exact ⟨_,_,rfl,(aK5 (aO50 (aO20 (aO3 aZ)))),_,r187.2.1,_,_,r187.2.2.1,r187.2.2.2,7,r181.1,r187.1.Kind,r187.1.N,r187.1.Name,r187.1.Kids,_,_,rfl,h,(le42.t (le96.t (le121.t (le153.t (le169.t (le176.t (le183.t le189))))))),hS,m195,m192⟩
 replace h:=iF h180 h
 refine nz (st ?_)
 obtain ⟨r196,g197,h⟩:=bI h
 refine ca (p_is_w (hg.t (le42.t (le96.t (le121.t (le153.t (le169.t le176)))))) m179 g197 hS) ?_
 rintro _ w33 ⟨μ21,a199,c200,rfl,le198,hS,m201⟩
 refine po (st (nw ?_))
 refine cifb (et (k60 d6)) (fun h202=>?_) (fun h202=>?_)
 replace h:=iT h202 h
 refine creg (st ?_)
 obtain ⟨r203,g204,h⟩:=bI h
 refine ca ((ParE_sound fu).p_expr (hg.t (le42.t (le96.t (le121.t (le153.t (le169.t (le176.t le198))))))) m201 g204 hS) ?_
 rintro _ w34 ⟨μ22,a206,c207,a209,c210,rfl,le205,hS,m208,m211⟩
 refine po (wl (s_build ti113 pl113 (Fl.o rfl ec rfl rfl p0 (Fl.n rfl (et (k70 d0)) rfl rfl (Spl.s p2 (of_decide_eq_true rfl) (Spl.s p3 (of_decide_eq_true rfl) (Spl.s p4 (of_decide_eq_true rfl) (Spl.s p5 (of_decide_eq_true rfl) Spl.z)))) Fl.z)) (dt (q70 p1)) (wl (s_storeA ti113 (et d3) (et (k70 d1)) rfl rfl hS d1 rfl p1 dn ?_))))
 clear hS; intro w35 hS
 refine wnil ?_
 refine (fun h=>bn (xl h)) ?_
 replace hS:=((hS.bg Y1).bg Y2).bg Y2
 exact ⟨_,_,rfl,(aK5 (aO50 (aO20 (aO3 aZ)))),_,r203.2.1,_,_,r203.2.2.1,r203.2.2.2,8,[],r203.1.Kind,r203.1.N,r203.1.Name,r203.1.Kids,_,_,rfl,h,(le42.t (le96.t (le121.t (le153.t (le169.t (le176.t (le198.t le205))))))),hS,m211,m208⟩
 replace h:=iF h202 h
 refine nz (st ?_)
 obtain ⟨r212,g213,h⟩:=bI h
 refine ca (p_is_w (hg.t (le42.t (le96.t (le121.t (le153.t (le169.t (le176.t le198))))))) m201 g213 hS) ?_
 rintro _ w36 ⟨μ23,a215,c216,rfl,le214,hS,m217⟩
 refine po (st (nw ?_))
 refine cifb (et (k70 d2)) (fun h218=>?_) (fun h218=>?_)
 replace h:=iT h218 h
 refine creg (st ?_)
 obtain ⟨r219,g220,h⟩:=bI h
 refine ca ((ParE_sound fu).p_expr (hg.t (le42.t (le96.t (le121.t (le153.t (le169.t (le176.t (le198.t le214)))))))) m217 g220 hS) ?_
 rintro _ w37 ⟨μ24,a222,c223,a225,c226,rfl,le221,hS,m224,m227⟩
 refine po (wl (s_build ti113 pl113 (Fl.o rfl ec rfl rfl p0 (Fl.n rfl (et (k70 d6)) rfl rfl (Spl.s p2 (of_decide_eq_true rfl) (Spl.s p3 (of_decide_eq_true rfl) (Spl.s p4 (of_decide_eq_true rfl) (Spl.s p5 (of_decide_eq_true rfl) Spl.z)))) Fl.z)) (dt (q70 p7)) (wl (s_storeA ti113 (et d3) (et (k70 d7)) rfl rfl hS d1 rfl p1 dn ?_))))
 clear hS; intro w38 hS
 refine wnil ?_
 refine (fun h=>bn (xl h)) ?_
 replace hS:=((hS.bg Y1).bg Y2).bg Y2
 exact ⟨_,_,rfl,(aK5 (aO50 (aO20 (aO3 aZ)))),_,r219.2.1,_,_,r219.2.2.1,r219.2.2.2,9,[],r219.1.Kind,r219.1.N,r219.1.Name,r219.1.Kids,_,_,rfl,h,(le42.t (le96.t (le121.t (le153.t (le169.t (le176.t (le198.t (le214.t le221)))))))),hS,m227,m224⟩
 replace h:=iF h218 h
 refine nz (st ?_)
 obtain ⟨r228,g229,h⟩:=bI h
 refine ca (p_name_w (hg.t (le42.t (le96.t (le121.t (le153.t (le169.t (le176.t (le198.t le214)))))))) m217 g229 hS) ?_
 rintro _ w39 ⟨μ25,a231,c232,rfl,le230,hS,m233⟩
 refine po (wl (s_build ti113 pl113 (Fl.o rfl ec rfl rfl p0 (Fl.o rfl (et d6) rfl rfl p1 Fl.z)) (dt p7) (wl (s_storeA ti113 (et d3) (et d7) rfl rfl hS d1 rfl p1 dn ?_))))
 clear hS; intro w40 hS
 refine nx (st ?_)
 refine wl (s_bsl underlying122 ti9 (Parts.s ec rfl Parts.z) rfl rfl hS ?_); clear hS; intro b234 w41 hb235 hS; refine po ?_
 obtain ⟨μ26,le237,m236,hS⟩:=Sep.frzBlk (l:=([[61]]:List (List UInt8))) hS (Rw.one (α:=List UInt8) rfl) (Nat.le_of_ble_eq_true rfl)
 obtain ⟨r238,g239,h⟩:=bI h
 refine ca (p_need_w (hg.t (le42.t (le96.t (le121.t (le153.t (le169.t (le176.t (le198.t (le214.t (le230.t le237)))))))))) (m233.up le237) m236 g239 hS) ?_
 rintro _ w42 ⟨μ27,a241,c242,rfl,le240,hS,m243⟩
 refine po (nw (creg (st ?_)))
 obtain ⟨r244,g245,h⟩:=bI h
 refine ca ((ParE_sound fu).p_expr (hg.t (le42.t (le96.t (le121.t (le153.t (le169.t (le176.t (le198.t (le214.t (le230.t (le237.t le240))))))))))) m243 g245 hS) ?_
 rintro _ w43 ⟨μ28,a247,c248,a250,c251,rfl,le246,hS,m249,m252⟩
 refine po (st (wl (s_store ti111 (et (k10 d3)) (et (k10 d2)) rfl rfl rfl hS d1 (Spl.s p2 (of_decide_eq_true rfl) (Spl.s p3 (of_decide_eq_true rfl) (Spl.s p4 (of_decide_eq_true rfl) (Spl.s p5 (of_decide_eq_true rfl) Spl.z)))) rfl p1 dn ?_)))
 clear hS; intro w44 hS
 refine wnil ?_
 refine (fun h=>bn (xl h)) ?_
 replace hS:=((hS.bg Y1).bg Y2).bg Y2
 exact ⟨_,_,rfl,(aK5 (aO50 (aO20 (aO3 aZ)))),_,r244.2.1,_,_,r244.2.2.1,r244.2.2.2,2,r228.1,r244.1.Kind,r244.1.N,r244.1.Name,r244.1.Kids,_,_,rfl,h,(le42.t (le96.t (le121.t (le153.t (le169.t (le176.t (le198.t (le214.t (le230.t (le237.t (le240.t le246))))))))))),hS,m252,m249⟩
 rintro _ t w45 ⟨μ29,l26,a24,c25,i28,i29,i30,s31,i33,i34,s35,l38,a36,c37,rfl,h,le253,hS,m254,m255⟩
 unfold p_stat_j1 at h
 refine nrm (mK5 (mO50 (mO20 (mO3 mz)))) (xn (nz (st ?_)))
 refine wl (s_bsl underlying122 ti9 (Parts.s ec rfl Parts.z) rfl rfl hS ?_); clear hS; intro b256 w46 hb257 hS; refine po ?_
 obtain ⟨μ30,le259,m258,hS⟩:=Sep.frzBlk (l:=([[59]]:List (List UInt8))) hS (Rw.one (α:=List UInt8) rfl) (Nat.le_of_ble_eq_true rfl)
 obtain ⟨r260,g261,h⟩:=bI h
 refine ca (p_need_w (hg.t (le253.t le259)) (m254.up le259) m258 g261 hS) ?_
 rintro _ w47 ⟨μ31,a263,c264,rfl,le262,hS,m265⟩
 refine po (nx (lds (hS.blk d2).cells rfl (wl (s_storeA ti113 (et d2) (et (k80 d1)) rfl rfl hS d1 rfl p1 dn ?_))))
 clear hS; intro w48 hS
 refine nw (cret ?_)
 obtain rfl:=oI h
 refine retN rfl (RVs.s (.a d2 ti113 (hS.blk d1).cells rfl) RVs.z) ?_
 replace hS:=(hS.drop (Rm.s Rm.z)).drop (Rm.s Rm.z)
 exact ⟨_,_,_,none,0,none,0,_,_,rfl,(le253.t (le259.t le262)),hS,(m255.up (le259.t le262)),Sl.nil,Sl.nil,m265⟩
theorem ParS_sound:∀ n,ParSSound (ParS_run n)
  | 0=>⟨(by intros; rename_i h _; cases h),(by intros; rename_i h _; cases h)⟩
  | n+1=>⟨p_body_w (ParS_sound n),p_stat_w (ParS_sound n)⟩
theorem p_def_w (hg:Le Gm μ0) {left_2:List TToken} {end_6 deep_7:Int} {r:TDef×List TToken×Int×Int} (m5:Sl μ0 a3 c4 left_2) (h:p_def fu left_2 end_6 deep_7=some r) (hS:Sq μ0 w0 w (.blk b1 76 [.slice a3 left_2.length c4,.int .i64 end_6,.int .i64 deep_7]::rsF)):CallsV prog 29 [.pointer (some ⟨b1,0,none⟩)] w (fun v w'=>∃ (μ':M) (a8:Option Addr) (c9:Nat) (a11:Option Addr) (c12:Nat) (a14:Option Addr) (c15:Nat),v=.agg ⟨[.int .i64 r.1.Kind,S r.1.Name,.int .i64 r.1.Typ.Kind,S r.1.Typ.Gen,.int .i64 r.1.Takes.Kind,S r.1.Takes.Gen,.int .i64 r.1.Cap,.slice a8 r.1.Params.length c9,.slice a11 r.1.Body.length c12]⟩∧Le μ0 μ'∧Sq μ' w0 w' (.blk b1 76 [.slice a14 r.2.1.length c15,.int .i64 r.2.2.1,.int .i64 r.2.2.2]::rsF)∧Sl μ' a8 c9 r.1.Params∧Sl μ' a11 c12 r.1.Body∧Sl μ' a14 c15 r.2.1):=by
 unfold p_def at h
 refine enter func29 rfl (frm:=_::u2 (u5 (u10 (u20 (u50 []))))) rfl (nz ?_)
 refine wl (s_alloc ti66 hS ?_); clear hS; intro b17 w1 hb18 hS; refine po ?_
 refine nx (st ?_)
 obtain ⟨r19,g20,h⟩:=bI h
 replace hS:=hS.bg Y1
 refine ca (p_at_w hg m5 g20 hS) ?_
 rintro _ w2 ⟨μ1,rfl,le21,hS⟩
 refine po (st (ny (cblock (nz (st ?_)))))
 obtain ⟨r22,g23,h⟩:=bI h
 refine ca (p_is_w (hg.t le21) (m5.up le21) g23 hS) ?_
 rintro _ w3 ⟨μ2,a25,c26,rfl,le24,hS,m27⟩
 refine po (st (nw ?_))
 refine cifb (et (k10 d0)) (fun h28=>?_) (fun h28=>?_)
 replace h:=iT h28 h
 refine nz (st ?_)
 obtain ⟨r29,g30,h⟩:=bI h
 refine ca (p_name_w (hg.t (le21.t le24)) m27 g30 hS) ?_
 rintro _ w4 ⟨μ3,a32,c33,rfl,le31,hS,m34⟩
 refine po (st ?_)
 obtain ⟨r35,g36,h⟩:=bI h
 refine ca (p_typ_w (hg.t (le21.t (le24.t le31))) m34 g36 hS) ?_
 rintro _ w5 ⟨μ4,a38,c39,rfl,le37,hS,m40⟩
 refine po (wl (s_build ti66 pl66 (Fl.o rfl ec rfl rfl p0 (Fl.o rfl (et (k10 d4)) rfl rfl p1 (Fl.n rfl (et (k10 d6)) rfl rfl (Spl.s p2 (of_decide_eq_true rfl) (Spl.s p3 (of_decide_eq_true rfl) Spl.z)) Fl.z))) (dt (q10 p7)) ?_))
 refine wl (s_alloc ti66 hS ?_); clear hS; intro b41 w6 hb42 hS; refine po ?_
 refine wl (s_storeA ti66 (et d4) (et (k10 d7)) rfl rfl hS d0 rfl p0 dn ?_)
 clear hS; intro w7 hS
 refine nx (st ?_)
 obtain ⟨r43,g44,h⟩:=bI h
 replace hS:=hS.bg Y1
 refine ca (p_at_w (hg.t (le21.t (le24.t (le31.t le37)))) m40 g44 hS) ?_
 rintro _ w8 ⟨μ5,rfl,le45,hS⟩
 refine po (st (nx (st ?_)))
 obtain ⟨r46,g47,h⟩:=bI h
 refine ca (p_number_w (hg.t (le21.t (le24.t (le31.t (le37.t le45))))) (m40.up le45) g47 hS) ?_
 rintro _ w9 ⟨μ6,a49,c50,rfl,le48,hS,m51⟩
 refine po (st (ny (cseq ?_)))
 refine ccutE (rg 22 5) (by decide) (fun m w=>∃ μx b52,m=(yK20 (yK2 (yO5 22 (.i (.bool b52)::[]))))∧p_def_j1 r29 r35 r46 b52=some r∧Le μ6 μx∧Sq μx w0 w (.blk b1 76 [.slice a49 r46.2.1.length c50,.int .i64 r46.2.2.1,.int .i64 r46.2.2.2]::.blk b17 66 [.int .i64 0,S [],.int .i64 0,S [],.int .i64 0,S [],.int .i64 0,.slice none 0 0,.slice none 0 0]::.blk b41 66 [.int .i64 1,S r29.1,.int .i64 r35.1.Kind,S r35.1.Gen,.int .i64 0,S [],.int .i64 0,.slice none 0 0,.slice none 0 0]::rsF)) (by rintro _ _ ⟨_,_,rfl,_⟩; rfl) ?_ ?_
 refine creg ?_
 iterate 3 refine st ?_
 refine wspd (k20 d4) (q20 p4) (q20 p4) (fun h53=>?_) (fun h53=>?_)
 replace h:=iT h53 h
 refine sn rfl rfl (sn rfl rfl (st (wnil (xl ?_))))
 replace hS:=((hS.bg Y1).bg Y2).bg Y2
 exact ⟨_,_,rfl,(aK20 (aK2 (aO5 (aI aZ)))),_,true,rfl,h,Le.r,hS⟩
 replace h:=iF h53 h
 refine sy rfl (sy rfl (st (wnil (xl ?_))))
 replace hS:=((hS.bg Y1).bg Y2).bg Y2
 exact ⟨_,_,rfl,(aK20 (aK2 (aO5 (aI aZ)))),_,(decide ((20:Int)<r46.1)),rfl,h,Le.r,hS⟩
 rintro _ t w10 ⟨μ7,b52,rfl,h,le54,hS⟩
 unfold p_def_j1 at h
 refine nrm (mK20 (mK2 (mO5 (mi mz)))) (xn ?_)
 refine cifb (et (k20 d7)) (fun h55=>?_) (fun h55=>?_)
 replace h:=iT h55 h
 cases h
 replace h:=iF h55 h
 refine cskip (xn (nz ?_))
 iterate 2 refine st ?_
 refine wl (s_store1 ti3 (et (k30 d2)) (et (k30 d1)) rfl hS d2 p6 rfl p2 dn ?_)
 clear hS; intro w11 hS
 refine nx (st ?_)
 refine wl (s_bsl underlying122 ti9 (Parts.s ec rfl Parts.z) rfl rfl hS ?_); clear hS; intro b56 w12 hb57 hS; refine po ?_
 obtain ⟨μ8,le59,m58,hS⟩:=Sep.frzBlk (l:=([[59]]:List (List UInt8))) hS (Rw.one (α:=List UInt8) rfl) (Nat.le_of_ble_eq_true rfl)
 obtain ⟨r60,g61,h⟩:=bI h
 refine ca (p_need_w (hg.t (le21.t (le24.t (le31.t (le37.t (le45.t (le48.t (le54.t le59)))))))) (m51.up (le54.t le59)) m58 g61 hS) ?_
 rintro _ w13 ⟨μ9,a63,c64,rfl,le62,hS,m65⟩
 refine po (nx (lds (hS.blk d2).cells rfl (wl (s_storeA ti66 (et d2) (et (k30 d6)) rfl rfl hS d1 rfl p1 dn ?_))))
 clear hS; intro w14 hS
 refine nw (cret ?_)
 refine (fun h=>br (xr h)) ?_
 obtain rfl:=oI h
 refine retN rfl (RVs.s (.a d2 ti66 (hS.blk d1).cells rfl) RVs.z) ?_
 replace hS:=(hS.drop (Rm.s Rm.z)).drop (Rm.s Rm.z)
 exact ⟨_,none,0,none,0,_,_,rfl,(le21.t (le24.t (le31.t (le37.t (le45.t (le48.t (le54.t (le59.t le62)))))))),hS,Sl.nil,Sl.nil,m65⟩
 replace h:=iF h28 h
 refine nz (st ?_)
 obtain ⟨r66,g67,h⟩:=bI h
 refine ca (p_is_w (hg.t (le21.t le24)) m27 g67 hS) ?_
 rintro _ w15 ⟨μ10,a69,c70,rfl,le68,hS,m71⟩
 refine po (st (nw ?_))
 refine cifb (et (k30 d7)) (fun h72=>?_) (fun h72=>?_)
 replace h:=iT h72 h
 refine nz (st ?_)
 obtain ⟨r73,g74,h⟩:=bI h
 refine ca (p_name_w (hg.t (le21.t (le24.t le68))) m71 g74 hS) ?_
 rintro _ w16 ⟨μ11,a76,c77,rfl,le75,hS,m78⟩
 refine po (st ?_)
 obtain ⟨r79,g80,h⟩:=bI h
 refine ca (p_params_w (hg.t (le21.t (le24.t (le68.t le75)))) m78 g80 hS) ?_
 rintro _ w17 ⟨μ12,a82,c83,a85,c86,rfl,le81,hS,m84,m87⟩
 refine po (wl (s_build ti66 pl66 (Fl.o rfl ec rfl rfl p0 (Fl.o rfl (et (k40 d1)) rfl rfl p1 (Fl.o rfl (et (k40 d3)) rfl rfl p7 Fl.z))) (dt (q40 p4)) ?_))
 refine wl (s_alloc ti66 hS ?_); clear hS; intro b88 w18 hb89 hS; refine po ?_
 refine wl (s_storeA ti66 (et d6) (et (k40 d4)) rfl rfl hS d0 rfl p0 dn ?_)
 clear hS; intro w19 hS
 refine nx (st ?_)
 obtain ⟨r90,g91,h⟩:=bI h
 replace hS:=hS.bg Y1
 refine ca (p_typ_w (hg.t (le21.t (le24.t (le68.t (le75.t le81))))) m87 g91 hS) ?_
 rintro _ w20 ⟨μ13,a93,c94,rfl,le92,hS,m95⟩
 refine po (st (wl (s_store ti62 (et (k40 d7)) (et (k40 d6)) rfl rfl rfl hS d1 (Spl.s p2 (of_decide_eq_true rfl) (Spl.s p3 (of_decide_eq_true rfl) Spl.z)) rfl p1 dn ?_)))
 clear hS; intro w21 hS
 refine nx (st ?_)
 obtain ⟨r96,g97,h⟩:=bI h
 refine ca ((ParS_sound fu).p_body (hg.t (le21.t (le24.t (le68.t (le75.t (le81.t le92)))))) m95 g97 hS) ?_
 rintro _ w22 ⟨μ14,a99,c100,a102,c103,rfl,le98,hS,m101,m104⟩
 refine po (st (wl (s_store1 ti64 (et (k50 d0)) (et (k40 d9)) rfl hS d1 p8 rfl p1 dn ?_)))
 clear hS; intro w23 hS
 refine nx (lds (hS.blk d1).cells rfl (wl (s_storeA ti66 (et d2) (et (k50 d1)) rfl rfl hS d2 rfl p2 dn ?_)))
 clear hS; intro w24 hS
 refine nw (cret ?_)
 refine (fun h=>br (xr h)) ?_
 obtain rfl:=oI h
 refine retN rfl (RVs.s (.a d2 ti66 (hS.blk d2).cells rfl) RVs.z) ?_
 replace hS:=(hS.drop (Rm.s Rm.z)).drop (Rm.s Rm.z)
 exact ⟨_,_,_,_,_,_,_,rfl,(le21.t (le24.t (le68.t (le75.t (le81.t (le92.t le98)))))),hS,(m84.up (le92.t le98)),m101,m104⟩
 replace h:=iF h72 h
 refine nz (st ?_)
 obtain ⟨r105,g106,h⟩:=bI h
 refine ca (p_is_w (hg.t (le21.t (le24.t le68))) m71 g106 hS) ?_
 rintro _ w25 ⟨μ15,a108,c109,rfl,le107,hS,m110⟩
 refine po (st (nw ?_))
 refine cifb (et (k50 d2)) (fun h111=>?_) (fun h111=>?_)
 replace h:=iT h111 h
 refine nz (st ?_)
 obtain ⟨r112,g113,h⟩:=bI h
 refine ca (p_name_w (hg.t (le21.t (le24.t (le68.t le107)))) m110 g113 hS) ?_
 rintro _ w26 ⟨μ16,a115,c116,rfl,le114,hS,m117⟩
 refine po (st ?_)
 obtain ⟨r118,g119,h⟩:=bI h
 refine ca (p_params_w (hg.t (le21.t (le24.t (le68.t (le107.t le114))))) m117 g119 hS) ?_
 rintro _ w27 ⟨μ17,a121,c122,a124,c125,rfl,le120,hS,m123,m126⟩
 refine po (wl (s_build ti66 pl66 (Fl.o rfl ec rfl rfl p0 (Fl.o rfl (et (k50 d6)) rfl rfl p1 (Fl.o rfl (et (k50 d8)) rfl rfl p7 Fl.z))) (dt (q50 p9)) ?_))
 refine wl (s_alloc ti66 hS ?_); clear hS; intro b127 w28 hb128 hS; refine po ?_
 refine wl (s_storeA ti66 (et d7) (et (k50 d9)) rfl rfl hS d0 rfl p0 dn ?_)
 clear hS; intro w29 hS
 refine nx (st ?_)
 refine wl (s_bsl underlying122 ti9 (Parts.s ec rfl Parts.z) rfl rfl hS ?_); clear hS; intro b129 w30 hb130 hS; refine po ?_
 obtain ⟨μ18,le132,m131,hS⟩:=Sep.frzBlk (l:=([[116,97,107,101,115]]:List (List UInt8))) hS (Rw.one (α:=List UInt8) rfl) (Nat.le_of_ble_eq_true rfl)
 obtain ⟨r133,g134,h⟩:=bI h
 replace hS:=hS.bg Y1
 refine ca (p_need_w (hg.t (le21.t (le24.t (le68.t (le107.t (le114.t (le120.t le132))))))) (m126.up le132) m131 g134 hS) ?_
 rintro _ w31 ⟨μ19,a136,c137,rfl,le135,hS,m138⟩
 refine po (nx (st ?_))
 obtain ⟨r139,g140,h⟩:=bI h
 refine ca (p_typ_w (hg.t (le21.t (le24.t (le68.t (le107.t (le114.t (le120.t (le132.t le135)))))))) m138 g140 hS) ?_
 rintro _ w32 ⟨μ20,a142,c143,rfl,le141,hS,m144⟩
 refine po (st (wl (s_store ti62 (et (k60 d5)) (et (k60 d4)) rfl rfl rfl hS d1 (Spl.s p4 (of_decide_eq_true rfl) (Spl.s p5 (of_decide_eq_true rfl) Spl.z)) rfl p1 dn ?_)))
 clear hS; intro w33 hS
 refine nx (st ?_)
 refine wl (s_bsl underlying122 ti9 (Parts.s ec rfl Parts.z) rfl rfl hS ?_); clear hS; intro b145 w34 hb146 hS; refine po ?_
 obtain ⟨μ21,le148,m147,hS⟩:=Sep.frzBlk (l:=([[121,105,101,108,100,115]]:List (List UInt8))) hS (Rw.one (α:=List UInt8) rfl) (Nat.le_of_ble_eq_true rfl)
 obtain ⟨r149,g150,h⟩:=bI h
 refine ca (p_need_w (hg.t (le21.t (le24.t (le68.t (le107.t (le114.t (le120.t (le132.t (le135.t (le141.t le148)))))))))) (m144.up le148) m147 g150 hS) ?_
 rintro _ w35 ⟨μ22,a152,c153,rfl,le151,hS,m154⟩
 refine po (nx (st ?_))
 obtain ⟨r155,g156,h⟩:=bI h
 refine ca (p_typ_w (hg.t (le21.t (le24.t (le68.t (le107.t (le114.t (le120.t (le132.t (le135.t (le141.t (le148.t le151))))))))))) m154 g156 hS) ?_
 rintro _ w36 ⟨μ23,a158,c159,rfl,le157,hS,m160⟩
 refine po (st (wl (s_store ti62 (et (k70 d1)) (et (k70 d0)) rfl rfl rfl hS d1 (Spl.s p2 (of_decide_eq_true rfl) (Spl.s p3 (of_decide_eq_true rfl) Spl.z)) rfl p1 dn ?_)))
 clear hS; intro w37 hS
 refine nx (st ?_)
 obtain ⟨r161,g162,h⟩:=bI h
 refine ca ((ParS_sound fu).p_body (hg.t (le21.t (le24.t (le68.t (le107.t (le114.t (le120.t (le132.t (le135.t (le141.t (le148.t (le151.t le157)))))))))))) m160 g162 hS) ?_
 rintro _ w38 ⟨μ24,a164,c165,a167,c168,rfl,le163,hS,m166,m169⟩
 refine po (st (wl (s_store1 ti64 (et (k70 d4)) (et (k70 d3)) rfl hS d1 p8 rfl p1 dn ?_)))
 clear hS; intro w39 hS
 refine nx (lds (hS.blk d1).cells rfl (wl (s_storeA ti66 (et d2) (et (k70 d5)) rfl rfl hS d2 rfl p2 dn ?_)))
 clear hS; intro w40 hS
 refine nw (cret ?_)
 refine (fun h=>br (xr h)) ?_
 obtain rfl:=oI h
 refine retN rfl (RVs.s (.a d2 ti66 (hS.blk d2).cells rfl) RVs.z) ?_
 replace hS:=(hS.drop (Rm.s Rm.z)).drop (Rm.s Rm.z)
 exact ⟨_,_,_,_,_,_,_,rfl,(le21.t (le24.t (le68.t (le107.t (le114.t (le120.t (le132.t (le135.t (le141.t (le148.t (le151.t (le157.t le163)))))))))))),hS,(m123.up (le132.t (le135.t (le141.t (le148.t (le151.t (le157.t le163))))))),m166,m169⟩
 replace h:=iF h111 h
 refine nz (st ?_)
 obtain ⟨r170,g171,h⟩:=bI h
 refine ca (p_is_w (hg.t (le21.t (le24.t (le68.t le107)))) m110 g171 hS) ?_
 rintro _ w41 ⟨μ25,a173,c174,rfl,le172,hS,m175⟩
 refine po (st (nw ?_))
 refine cifb (et (k70 d6)) (fun h176=>?_) (fun h176=>?_)
 replace h:=iT h176 h
 refine nz (st ?_)
 obtain ⟨r177,g178,h⟩:=bI h
 refine ca (p_name_w (hg.t (le21.t (le24.t (le68.t (le107.t le172))))) m175 g178 hS) ?_
 rintro _ w42 ⟨μ26,a180,c181,rfl,le179,hS,m182⟩
 refine po (st ?_)
 obtain ⟨r183,g184,h⟩:=bI h
 refine ca ((ParS_sound fu).p_body (hg.t (le21.t (le24.t (le68.t (le107.t (le172.t le179)))))) m182 g184 hS) ?_
 rintro _ w43 ⟨μ27,a186,c187,a189,c190,rfl,le185,hS,m188,m191⟩
 refine po (wl (s_build ti66 pl66 (Fl.o rfl ec rfl rfl p0 (Fl.o rfl (et (k80 d0)) rfl rfl p1 (Fl.o rfl (et (k80 d2)) rfl rfl p8 Fl.z))) (dt (q80 p3)) (wl (s_storeA ti66 (et d2) (et (k80 d3)) rfl rfl hS d1 rfl p1 dn ?_))))
 clear hS; intro w44 hS
 refine nw (cret ?_)
 refine (fun h=>br (xr h)) ?_
 obtain rfl:=oI h
 refine retN rfl (RVs.s (.a d2 ti66 (hS.blk d1).cells rfl) RVs.z) ?_
 replace hS:=hS.drop (Rm.s Rm.z)
 exact ⟨_,none,0,_,_,_,_,rfl,(le21.t (le24.t (le68.t (le107.t (le172.t (le179.t le185)))))),hS,Sl.nil,m188,m191⟩
 replace h:=iF h176 h
 refine cskip ?_
 refine (fun h=>bn (xn h)) ?_
 refine cseq ?_
 cases h
end Go.Proofs.YtdfnejebobekoaaGreatDoor
set_option maxRecDepth 100000
namespace Go.Proofs.YtdfnejebobekoaaGreatDoor
open Go.Wk Go.Xt Go.Y Go.RowKit
theorem p_done_ret (v0 v1:Value) (w:World) :
    CallsD Tryz.prog 26 #[v0,v1] .returning w fun e u' w'=>e=.returned (.tuple #[])∧u'=.returning∧w'=w:=by
  refine callsD_of_wpS Tryz.func26 rfl fun c₀ cs hu=>?_
  apply wpS_seq
  apply wpS_region
  simp [wpOpsS,go_sem,recoverD,hu,Tryz.ntmps26,Exit.thenS]
  refine wpS_of_wp (CW.out (fr:=[v0,v1,undef,undef,undef,.nilIface,undef,undef,undef,undef,undef,undef,undef]) (ds:=[]) ?_)
  refine cblock ?_
  refine cseq ?_
  refine creg ?_
  refine wl (s_eqni Tryz.underlying20 (et d5) (.inl ⟨rfl,rfl⟩) (dt p7) ?_)
  refine wnil ?_
  refine xn ?_
  refine cift (et d7) ?_
  refine creg ?_
  refine wl (s_assign (et d5) (dt p2) ?_)
  refine wnil ?_
  refine bn ?_
  cases c₀
  simp_all [F,bodyPostS,results,Tryz.results26]
theorem p_done_w {μ0:M} {w0 w:World} {rsF:List Res} {v0 v1:Value} {r:Unit} (hg:Le Gm μ0) (h:p_done=some r) (hS:Sq μ0 w0 w rsF):CallsDR Tryz.prog 26 [v0,v1] w (fun v w'=>∃ μ':M,v=.tuple ⟨[]⟩∧Le μ0 μ'∧Sq μ' w0 w' rsF) :=
  ⟨(p_done_ret v0 v1 w).mono fun e u' w' he=>by
    obtain ⟨rfl,rfl,rfl⟩:=he
    exact ⟨rfl,_,rfl,Le.r,hS⟩⟩
end Go.Proofs.YtdfnejebobekoaaGreatDoor
set_option maxRecDepth 100000
set_option maxHeartbeats 20000000
namespace Go.Proofs.YtdfnejebobekoaaGreatDoor
open Go.Wk Go.Xt Go.Y Tryz
variable {fu:Nat} {μ0:M} {w0 w:World} {rsF:List Res}
theorem syn_read_w (hg:Le Gm μ0) {p_1:List UInt8} {r:List TDef×TFault}  (h:syn_read fu p_1=some r) (hS:Sq μ0 w0 w (rsF)):CallsV prog 10 [S p_1] w (fun v w'=>∃ (μ':M) (a1:Option Addr) (c2:Nat),v=.tuple ⟨[.slice a1 r.1.length c2,.agg ⟨[.int .i64 r.2.Err,.int .i64 r.2.At]⟩]⟩∧Le μ0 μ'∧Sq μ' w0 w' (rsF)∧Sl μ' a1 c2 r.1):=by
 unfold syn_read at h
 refine enterF func10 rfl (frm:=_::u2 (u2 (u5 (u20 (u20 []))))) rfl (nz ?_)
 refine wl (s_alloc ti22 hS ?_); clear hS; intro b4 w1 hb5 hS; refine po ?_
 refine wl (s_alloc ti26 hS ?_); clear hS; intro b6 w2 hb7 hS; refine po ?_
 refine nx (st ?_)
 obtain ⟨r8,g9,h⟩:=bI h
 refine ca (lex_tokens_w hg g9 hS) ?_
 rintro _ w3 ⟨μ1,a11,c12,rfl,le10,hS,m13⟩
 refine po ?_
 iterate 4 refine st ?_
 refine wl (s_storeA ti26 (et d3) (et (k10 d1)) rfl rfl hS d0 rfl p0 dn ?_)
 clear hS; intro w4 hS
 refine ny (nz (st (ld ((hS.blk d0).cell d0) (st (nw ?_)))))
 refine cifd (et (k10 d4)) (fun h14=>?_) (fun h14=>?_)
 replace h:=iT h14 h
 refine cseq ?_
 refine ccutE ([15]) (by decide) (fun m w=>∃ (μx:M) ,m=(yK10 (yK5 (yO1 15 [])))∧syn_read_j1 r8 =some r∧Le μ1 μx∧Sq μx w0 w (.blk b4 22 [.slice none 0 0]::.blk b6 26 [.int .i64 r8.2.Err,.int .i64 r8.2.At]::rsF)) (by rintro _ _ ⟨_,rfl,_⟩; rfl) ?_ ?_
 refine cdw hS ?_; clear hS; intro w5 hS
 refine sf_start (fr_ 0 [0,2] rfl (u_loads ti26 (et d3) (hS.blk d0).cells rfl) (q10 p5) (sf1 rfl rfl rfl rfl (wn0 rfl) (s_store1 ti22 (et d2) ec rfl hS d1 p0 rfl p1 dn ?_)))
 clear hS; intro w6 hS
 refine ⟨(Mons.s (u_loads ti26 (et d3) (hS.blk d0).cells rfl) Mons.z),?_⟩
 refine sf1 rfl rfl rfl rfl (wn0 rfl) (s_storeA ti26 (et d3) (et (k10 d5)) rfl rfl hS d0 rfl p0 dn ?_)
 clear hS; intro w7 hS
 refine ⟨Mons.z,?_⟩
 refine sf_nil (xl ?_)
 replace hS:=hS.bg Y1
 exact ⟨_,_,rfl,(aK10 (aK5 (aO1 aZ))),_,rfl,h,Le.r,hS⟩
 rintro _ t w8 ⟨μ2,rfl,h,le15,hS⟩
 unfold syn_read_j1 at h
 refine nrm (mK10 (mK5 (mO1 mz))) (xn (cret (xr ?_)))
 obtain rfl:=oI h
 refine retDN rfl (RVs.s (.c d2 ti22 ((hS.blk d0).cell d0)) (RVs.s (.a d3 ti26 (hS.blk d1).cells rfl) RVs.z)) ?_
 replace hS:=(hS.drop Rm.z).drop Rm.z
 exact ⟨_,none,0,rfl,(le10.t le15),hS,Sl.nil⟩
 replace h:=iF h14 h
 refine cskip (xn (nz (wl (su (u_mkfn e0 (e1 (et d2) (e1 (et d3) e0))) (dt (q10 p6)) (wl (s_defer (et (k10 d6)) e0 dn (nx ?_)))))))
 iterate 2 refine st ?_
 refine wl (su (u_lens underlying9 (et (k10 d8))) (dt (q10 p9)) (wl (s_build ti76 pl76 (Fl.o rfl (et (k10 d7)) rfl rfl p0 (Fl.o rfl (et (k10 d9)) rfl rfl p1 Fl.z)) (dt (q20 p0)) ?_)))
 refine wl (s_box (et (k20 d0)) rfl hS ?_); clear hS; intro b16 w9 hb17 hS; refine po ?_
 refine st (ny (cblock ?_))
 replace hS:=hS.nilRow 66 (Mo.sz TDef)
 replace hS:=((hS.bg Y1).bg Y2).bg Y3
 refine cloopE (rg 22 18) (by decide) (fun n m w=>∃ μx l40 a38 c39 i42 i43 l46 v44 cs45,m=(yK20 (yK2 (yO10 22 (yO8 32 []))))∧syn_read_l1 fu r8 n l40 i42 i43 l46=some r∧Le μ1 μx∧Sq μx w0 w (.blk b4 22 [v44]::.blk b6 26 [.int .i64 r8.2.Err,.int .i64 r8.2.At]::.blk b16 76 [.slice a38 l40.length c39,.int .i64 i42,.int .i64 i43]::.row v44 66 9 l46.length cs45::rsF)∧Sl μx a38 c39 l40∧Rw μx cs45 l46) (by rintro _ _ _ ⟨_,_,_,_,_,_,_,_,_,rfl,_⟩; rfl) _ _ (aK20 (aK2 (aO10 (aO8 aZ)))) ⟨_,r8.1,a11,c12,(p_1.length:Int),0,[],(.slice none 0 0),[],rfl,h,Le.r,hS,m13,Rw.nil⟩ ?_
 rintro n_1 _ t w10 ⟨μ3,l40,a38,c39,i42,i43,l46,v44,cs45,rfl,h,le67,hS,m68,m69⟩
 rcases n_1 with _|n_1
 cases h
 unfold syn_read_l1 at h
 refine cnrm (mK20 (mK2 (mO10 (mO8 mz)))) (cseq (nz ?_))
 iterate 3 refine st ?_
 refine ld ((hS.blk d2).cell d0) (wl (su (u_lensl underlying69 (et (k20 d5))) (dt (q20 p6)) (st (nw ?_))))
 refine cifd (et (k20 d7)) (fun h70=>?_) (fun h70=>?_)
 replace h:=iT h70 h
 refine cskip (xn (cblock (cseq (nz (ld ((hS.blk d0).cell d0) (wl (su (u_lenv underlying22 (et (k20 d8)) (hS.get d3).isSl) (dt (q20 p9)) (st (nw ?_)))))))))
 refine cifd (et (k30 d0)) (fun h71=>?_) (fun h71=>?_)
 replace h:=iT h71 h
 cases h
 replace h:=iF h71 h
 refine cskip (xn ?_)
 refine ccutE (rg 35 5) (by decide) (fun m w=>∃ μx l74 a72 c73 i76 i77 l80 v78 cs79,m=(yK20 (yK10 (yK5 (yO5 35 []))))∧syn_read_j2 (syn_read_l1 fu r8 n_1) l74 i76 i77 l80=some r∧Le μ3 μx∧Sq μx w0 w (.blk b4 22 [v78]::.blk b6 26 [.int .i64 r8.2.Err,.int .i64 r8.2.At]::.blk b16 76 [.slice a72 l74.length c73,.int .i64 i76,.int .i64 i77]::.row v78 66 9 l80.length cs79::rsF)∧Sl μx a72 c73 l74∧Rw μx cs79 l80) (by rintro _ _ ⟨_,_,_,_,_,_,_,_,_,rfl,_⟩; rfl) ?_ ?_
 refine cdw hS ?_; clear hS; intro w11 hS
 refine sf_start (fr_ 0 [0,4,5] rfl (u_load ti22 (et d2) ((hS.blk d0).cell d0)) (q30 p5) (fpi 1 [1,2,3,4,5] rfl ?_))
 obtain ⟨r82,g83,h⟩:=bI h
 replace hS:=hS.bg Y2
 refine sf1 rfl rfl rfl rfl (wn0 rfl) (s_callv isfn29 ef (e1 (et (k30 d6)) e0) (p_def_w (hg.t (le10.t le67)) m68 g83 hS) ?_)
 rintro _ w12 ⟨μ4,a85,c86,a88,c89,a91,c92,rfl,le84,hS,m87,m90,m93⟩
 refine po ?_
 refine ⟨(Mons.s (u_load ti22 (et d2) ((hS.blk d1).cell d0)) Mons.z),?_⟩
 refine sf1 rfl rfl rfl rfl (wn0 rfl) (s_bsl1 underlying22 ti66 rfl (et (k30 d7)) rfl hS ?_); clear hS; intro b94 w13 hb95 hS; refine po ?_
 refine ⟨(Mons.s (u_load ti22 (et d2) ((hS.blk d2).cell d0)) Mons.z),?_⟩
 obtain ⟨l98,g99,h⟩:=bI h
 have m100:Rw μ4 [.int .i64 r82.1.Kind,S r82.1.Name,.int .i64 r82.1.Typ.Kind,S r82.1.Typ.Gen,.int .i64 r82.1.Takes.Kind,S r82.1.Takes.Gen,.int .i64 r82.1.Cap,.slice a85 r82.1.Params.length c86,.slice a88 r82.1.Body.length c89] [r82.1]:=(Rw.one (α:=TDef) (TDef.i ⟨a85,c86,a88,c89,rfl,m87,m90⟩))
 have m97:=Rw.app (m69.up le84) m100 g99
 refine sf1 rfl rfl rfl rfl (wn0 rfl) (s_app1 underlying22 ti66 rfl (et (k30 d5)) (et (k30 d8)) hS d4 (hS.blk d0).cells m100 rfl g99 (by decide) ?_); clear hS; intro v96 w14 rs_ hp_ hS; cases (show _=rs_ from hp_)
 replace hS:=Sep.reput hS p4; refine po ?_
 replace hS:=hS.drop Rm.z
 refine ⟨Mons.z,?_⟩
 refine sf1 rfl rfl rfl rfl (wn0 rfl) (s_store1 ti22 (et d2) (et (k30 d9)) (hS.get d3).cellV hS d1 p0 rfl p1 dn ?_)
 clear hS; intro w15 hS
 refine ⟨Mons.z,?_⟩
 refine sf_nil (xl ?_)
 replace hS:=(((hS.bg Y3).bg Y1).bg Y3).bg Y3
 exact ⟨_,_,rfl,(aK20 (aK10 (aK5 (aO5 aZ)))),_,r82.2.1,_,_,r82.2.2.1,r82.2.2.2,_,_,(cs45++[.int .i64 r82.1.Kind,S r82.1.Name,.int .i64 r82.1.Typ.Kind,S r82.1.Typ.Gen,.int .i64 r82.1.Takes.Kind,S r82.1.Takes.Gen,.int .i64 r82.1.Cap,.slice a85 r82.1.Params.length c86,.slice a88 r82.1.Body.length c89]),rfl,h,le84,hS,m93,m97⟩
 rintro _ t w16 ⟨μ5,l74,a72,c73,i76,i77,l80,v78,cs79,rfl,h,le101,hS,m102,m103⟩
 unfold syn_read_j2 at h
 refine nrm (mK20 (mK10 (mK5 (mO5 mz)))) ?_
 refine (fun h=>bn (xl h)) ?_
 exact ⟨n_1,_,_,rfl,(aK20 (aK2 (aO10 (aO8 aZ)))),⟨_,l74,a72,c73,i76,i77,l80,v78,cs79,rfl,h,(le67.t le101),hS,m102,m103⟩,Nat.lt_succ_self _⟩
 replace h:=iF h70 h
 refine cexit ?_
 refine (fun h=>xe (xe (bh h))) ?_
 refine xn (cseq (nz (ld ((hS.blk d0).cell d0) ?_)))
 replace hS:=hS.bg Y3
 obtain ⟨μ6,a104,c105,e108,le107,m106,hq_⟩:=Sep.frzRow hS m69 rfl; clear hS
 subst e108; have hS:=hq_; clear hq_
 obtain ⟨r109,g110,h⟩:=bI h
 refine ca (syn_wrong_w (hg.t (le10.t (le67.t le107))) m106 g110 hS) ?_
 rintro _ w17 ⟨μ7,rfl,le111,hS⟩
 refine po ?_
 refine wl (s_alloc ti26 hS ?_); clear hS; intro b112 w18 hb113 hS; refine po ?_
 refine wl (s_storeA ti26 (et d6) (et (k40 d1)) rfl rfl hS d0 rfl p0 dn ?_)
 clear hS; intro w19 hS
 refine nx (st (ld ((hS.blk d0).cell d0) (st (nw ?_))))
 refine cifd (et (k40 d4)) (fun h114=>?_) (fun h114=>?_)
 replace h:=iT h114 h
 refine cseq ?_
 refine ccutE (rg 45 3) (by decide) (fun m w=>∃ (μx:M) ,m=(yK20 (yK20 (yK5 (yO3 45 []))))∧syn_read_j3 r109 =some r∧Le μ7 μx∧Sq μx w0 w (.blk b4 22 [.slice none 0 0]::.blk b6 26 [.int .i64 r109.Err,.int .i64 0]::rsF)) (by rintro _ _ ⟨_,rfl,_⟩; rfl) ?_ ?_
 refine cdw hS ?_; clear hS; intro w20 hS
 refine sf_start (fpi 0 [0,1,2,4] rfl (fr_ 1 [1,2,4] rfl (u_load ti24 (et (k40 d5)) ((hS.blk d0).cell d0)) (q40 p6) (fp 2 [2,4] rfl (u_build ti26 pl26 (Fl.o rfl (et (k40 d6)) rfl rfl p0 Fl.z)) (q40 p7) (sf1 rfl rfl rfl rfl (wn0 rfl) (s_store1 ti22 (et d2) ec rfl hS d1 p0 rfl p1 dn ?_)))))
 clear hS; intro w21 hS
 refine ⟨(Mons.s (u_load ti24 (et (k40 d5)) ((hS.blk d0).cell d0)) Mons.z),?_⟩
 refine sf1 rfl rfl rfl rfl (wn0 rfl) (s_storeA ti26 (et d3) (et (k40 d7)) rfl rfl hS d2 rfl p2 dn ?_)
 clear hS; intro w22 hS
 refine ⟨Mons.z,?_⟩
 refine sf_nil (xl ?_)
 replace hS:=(hS.drop Rm.z).drop (Rm.s (Rm.s Rm.z))
 exact ⟨_,_,rfl,(aK20 (aK20 (aK5 (aO3 aZ)))),_,rfl,h,Le.r,hS⟩
 rintro _ t w23 ⟨μ8,rfl,h,le115,hS⟩
 unfold syn_read_j3 at h
 refine nrm (mK20 (mK20 (mK5 (mO3 mz)))) (xn (cret (xr ?_)))
 obtain ⟨r116,g117,h⟩:=bI h
 refine retDr isfn26 (p_done_w (hg.t (le10.t (le67.t (le107.t (le111.t le115))))) g117 hS) ?_
 rintro _ w24 ⟨μ9,rfl,le118,hS⟩
 obtain rfl:=oI h
 refine retDN rfl (RVs.s (.c d2 ti22 ((hS.blk d0).cell d0)) (RVs.s (.a d3 ti26 (hS.blk d1).cells rfl) RVs.z)) ?_
 replace hS:=(hS.drop Rm.z).drop Rm.z
 exact ⟨_,none,0,rfl,(le10.t (le67.t (le107.t (le111.t (le115.t le118))))),hS,Sl.nil⟩
 replace h:=iF h114 h
 refine cskip (xn (cseq ?_))
 refine ccutE (rg 48 2) (by decide) (fun m w=>∃ (μx:M) ,m=(yK20 (yK20 (yK8 (yO2 48 []))))∧syn_read_j4 r8 l46 =some r∧Le μ7 μx∧Sq μx w0 w (.blk b4 22 [.slice a104 l46.length c105]::.blk b6 26 [.int .i64 r8.2.Err,.int .i64 r8.2.At]::rsF)) (by rintro _ _ ⟨_,rfl,_⟩; rfl) ?_ ?_
 refine cdw hS ?_; clear hS; intro w25 hS
 refine sf_start (fr_ 0 [0,2,3] rfl (u_load ti22 (et d2) ((hS.blk d1).cell d0)) (q40 p8) (fr_ 1 [1,3] rfl (u_loads ti26 (et d3) (hS.blk d2).cells rfl) (q40 p9) (sf1 rfl rfl rfl rfl (wn0 rfl) (s_store1 ti22 (et d2) (et (k40 d8)) rfl hS d1 p0 rfl p1 dn ?_))))
 clear hS; intro w26 hS
 refine ⟨(Mons.s (u_loads ti26 (et d3) (hS.blk d2).cells rfl) Mons.z),?_⟩
 refine sf1 rfl rfl rfl rfl (wn0 rfl) (s_storeA ti26 (et d3) (et (k40 d9)) rfl rfl hS d2 rfl p2 dn ?_)
 clear hS; intro w27 hS
 refine ⟨Mons.z,?_⟩
 refine sf_nil (xl ?_)
 replace hS:=(hS.drop Rm.z).drop (Rm.s (Rm.s Rm.z))
 exact ⟨_,_,rfl,(aK20 (aK20 (aK8 (aO2 aZ)))),_,rfl,h,Le.r,hS⟩
 rintro _ t w28 ⟨μ10,rfl,h,le119,hS⟩
 unfold syn_read_j4 at h
 refine nrm (mK20 (mK20 (mK8 (mO2 mz)))) (xn (cret ?_))
 obtain ⟨r120,g121,h⟩:=bI h
 refine retDr isfn26 (p_done_w (hg.t (le10.t (le67.t (le107.t (le111.t le119))))) g121 hS) ?_
 rintro _ w29 ⟨μ11,rfl,le122,hS⟩
 obtain rfl:=oI h
 refine retDN rfl (RVs.s (.c d2 ti22 ((hS.blk d0).cell d0)) (RVs.s (.a d3 ti26 (hS.blk d1).cells rfl) RVs.z)) ?_
 replace hS:=(hS.drop Rm.z).drop Rm.z
 exact ⟨_,_,_,rfl,(le10.t (le67.t (le107.t (le111.t (le119.t le122))))),hS,(m106.up (le111.t (le119.t le122)))⟩
end Go.Proofs.YtdfnejebobekoaaGreatDoor
