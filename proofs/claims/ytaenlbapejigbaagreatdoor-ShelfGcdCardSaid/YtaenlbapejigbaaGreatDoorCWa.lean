/- The shelf: texts of Wa. -/
import Derived.Test.YtaenlbapejigbaaGreatDoorCXu
import Derived.Test.YtaenlbapejigbaaGreatDoorCMd
import Derived.Test.YtaenlbapejigbaaGreatDoorCFl
import Derived.Tactics2
import Derived.Recover
import Derived.Laws.Pointers
set_option linter.unusedSimpArgs false
set_option linter.unusedVariables false
set_option linter.unusedSectionVars false
set_option maxRecDepth 100000
set_option maxHeartbeats 20000000
namespace Go.Proofs.YtaenlbapejigbaaGreatDoor
open Go.Wk Go.Xt Go.Y Tryz
variable {fu:Nat} {μ0:M} {w0 w:World} {rsF:List Res}
theorem lx_letter_w (hg:Le Gm μ0) {p_1:UInt8} {r:Bool}  (h:lx_letter p_1=some r) (hS:Sq μ0 w0 w (rsF)):CallsV prog 57 [.int .u8 (p_1.toNat:Int)] w (fun v w'=>∃ (μ':M) ,v=.bool r∧Le μ0 μ'∧Sq μ' w0 w' (rsF)):=by
 unfold lx_letter at h
 refine enter func57 rfl (frm:=_::u2 (u10 [])) rfl (nz (st (nx ?_)))
 iterate 3 refine st ?_
 refine wspd d5 p5 p5 (fun h1=>?_) (fun h1=>?_)
 ·replace h:=iT h1 h
  refine sy rfl (sy rfl ?_)
  iterate 2 refine st ?_
  refine wspd d9 p9 p9 (fun h2=>?_) (fun h2=>?_)
  ·replace h:=iT h2 h
   refine sn rfl rfl (sn rfl rfl ?_)
   iterate 2 refine st ?_
   refine nw (cret ?_)
   obtain rfl:=oI h
   refine ret1 rfl d2 ?_
   exact ⟨_,rfl,Le.r,hS⟩
  ·replace h:=iF h2 h
   refine sy rfl (sy rfl ?_)
   iterate 2 refine st ?_
   refine nw (cret ?_)
   obtain rfl:=oI h
   refine ret1 rfl d2 ?_
   exact ⟨_,rfl,Le.r,hS⟩
 ·replace h:=iF h1 h
  refine sn rfl rfl (sn rfl rfl ?_)
  iterate 2 refine st ?_
  refine sy rfl (sy rfl ?_)
  iterate 2 refine st ?_
  refine nw (cret ?_)
  obtain rfl:=oI h
  refine ret1 rfl d2 ?_
  exact ⟨_,rfl,Le.r,hS⟩
theorem lx_digit_w (hg:Le Gm μ0) {p_1:UInt8} {r:Bool}  (h:lx_digit p_1=some r) (hS:Sq μ0 w0 w (rsF)):CallsV prog 60 [.int .u8 (p_1.toNat:Int)] w (fun v w'=>∃ (μ':M) ,v=.bool r∧Le μ0 μ'∧Sq μ' w0 w' (rsF)):=by
 unfold lx_digit at h
 refine enter func60 rfl (frm:=_::u1 (u2 (u5 []))) rfl (nz (st (nx ?_)))
 iterate 3 refine st ?_
 refine wspd d5 p5 p5 (fun h1=>?_) (fun h1=>?_)
 ·replace h:=iT h1 h
  refine sy rfl (sy rfl ?_)
  iterate 2 refine st ?_
  refine nw (cret ?_)
  obtain rfl:=oI h
  refine ret1 rfl d2 ?_
  exact ⟨_,rfl,Le.r,hS⟩
 ·replace h:=iF h1 h
  refine sn rfl rfl (sn rfl rfl ?_)
  iterate 2 refine st ?_
  refine nw (cret ?_)
  obtain rfl:=oI h
  refine ret1 rfl d2 ?_
  exact ⟨_,rfl,Le.r,hS⟩
theorem lx_while_w (hg:Le Gm μ0) {p_1:List UInt8} {K1:Nat} {caps2:List Value} {p_2:UInt8→Option Bool} {r:Int} (m3:FnOk prog μ0 K1 caps2 false p_2) (h:lx_while fu p_1 p_2=some r) (hS:Sq μ0 w0 w (rsF)):CallsV prog 58 [S p_1,.func (.func K1) ⟨[]⟩ ⟨caps2⟩] w (fun v w'=>∃ (μ':M) ,v=.int .i64 r∧Le μ0 μ'∧Sq μ' w0 w' (rsF)):=by
 unfold lx_while at h
 refine enter func58 rfl (frm:=_::_::u1 (u2 (u5 (u10 [])))) rfl (nz (st (nx (st (ny (cblock ?_))))))
 refine cloopE (rg 6 13) (by decide) (fun n m w=>∃ μx i13,m=(yK5 (.i (.int .i64 i13)::(yO10 6 (yO3 16 []))))∧lx_while_l1 p_1 p_2 n i13=some r∧Le μ0 μx∧Sq μx w0 w (rsF)) (by rintro _ _ _ ⟨_,_,rfl,_⟩; rfl) _ _ (aK5 (aI (aO10 (aO3 aZ)))) ⟨_,0,rfl,h,Le.r,hS⟩ ?_
 rintro n_1 _ t w1 ⟨μ1,i13,rfl,h,le23,hS⟩
 cases n_1 with
 | zero=>cases h
 | succ n_1 =>
 unfold lx_while_l1 at h
 refine cnrm (mK5 (mi (mO10 (mO3 mz)))) (cseq (cseq ?_))
 refine ccutE (rg 6 10) (by decide) (fun m w=>∃ μx b24,m=(yK6 (yO10 6 (.i (.bool b24)::[])))∧lx_while_j1 i13 (lx_while_l1 p_1 p_2 n_1) b24=some r∧Le μ1 μx∧Sq μx w0 w (rsF)) (by rintro _ _ ⟨_,_,rfl,_⟩; rfl) ?_ ?_
 ·refine creg ?_
  iterate 2 refine st ?_
  refine wl (su (u_lens underlying9 (et d7)) (dt p8) ?_)
  iterate 2 refine st ?_
  refine wspd (k10 d0) (q10 p0) (q10 p0) (fun h25=>?_) (fun h25=>?_)
  ·replace h:=iT h25 h
   refine sy rfl (sy rfl (sy rfl ?_))
   obtain ⟨u26,g27,h⟩:=bI h
   refine wy rfl (k10 d0) (s_idxc underlying9 (et (k10 d2)) (et (k10 d3)) g27 (dt (q10 p4)) ?_)
   obtain ⟨b28,g29,h⟩:=bI h
   refine wy rfl (k10 d0) (s_callc m3.isfn (et (k10 d1)) (e1 (et (k10 d4)) e0) ((m3.up le23).call (cs:=[.int .u8 (u26.toNat:Int)]) Le.r rfl g29 hS) ?_)
   rintro _ w2 ⟨μ2,rfl,le30,hS⟩; refine po ?_
   refine st (wnil (xl ?_))
   exact ⟨_,_,rfl,(aK6 (aO10 (aI aZ))),_,_,rfl,h,le30,hS⟩
  ·replace h:=iF h25 h
   refine sn rfl rfl (sn rfl rfl (sn rfl rfl (sn rfl rfl (sn rfl rfl (st (wnil (xl ?_)))))))
   exact ⟨_,_,rfl,(aK6 (aO10 (aI aZ))),_,false,rfl,h,Le.r,hS⟩
 ·rintro _ t w3 ⟨μ3,b24,rfl,h,le31,hS⟩
  unfold lx_while_j1 at h
  refine nrm (mK6 (mO10 (mi mz))) (xn ?_)
  refine cifb (et (k10 d6)) (fun h32=>?_) (fun h32=>?_)
  ·replace h:=iT h32 h
   refine cskip (xn (cblock (creg (st ?_))))
   obtain ⟨i33,g34,h⟩:=bI h
   refine wl (su (u_addc (et (k10 d7)) ec g34) (dt (q10 p8)) (st (wnil ?_)))
   refine (fun h=>bn (xl h)) ?_
   exact ⟨n_1,_,_,rfl,(aK5 (aI (aO10 (aO3 aZ)))),⟨_,i33,rfl,h,(le23.t le31),hS⟩,Nat.lt_succ_self _⟩
  ·replace h:=iF h32 h
   refine cexit ?_
   refine (fun h=>xe (xe (bh h))) ?_
   refine xn (nz ?_)
   iterate 2 refine st ?_
   refine nw (cret ?_)
   obtain rfl:=oI h
   refine ret1 rfl d4 ?_
   exact ⟨_,rfl,(le23.t le31),hS⟩
theorem lx_t1_w (hg:Le Gm μ0) {p_1:UInt8} {r:Bool}  (h:lx_t1 p_1=some r) (hS:Sq μ0 w0 w (rsF)):CallsV prog 59 [.int .u8 (p_1.toNat:Int)] w (fun v w'=>∃ (μ':M) ,v=.bool r∧Le μ0 μ'∧Sq μ' w0 w' (rsF)):=by
 unfold lx_t1 at h
 refine enter func59 rfl (frm:=_::u1 (u2 (u5 []))) rfl (nz (st (nx (st ?_))))
 obtain ⟨r1,g2,h⟩:=bI h
 refine ca (lx_letter_w hg g2 hS) ?_
 rintro _ w1 ⟨μ1,rfl,le3,hS⟩
 refine po (st ?_)
 refine wspb d5 p5 p5 (fun h4=>?_) (fun h4=>?_)
 ·replace h:=iT h4 h
  refine sn rfl rfl (sn rfl rfl ?_)
  iterate 2 refine st ?_
  refine nw (cret ?_)
  obtain rfl:=oI h
  refine ret1 rfl d2 ?_
  exact ⟨_,rfl,le3,hS⟩
 ·replace h:=iF h4 h
  refine sy rfl ?_
  obtain ⟨r5,g6,h⟩:=bI h
  refine wy rfl d5 (s_callv isfn60 ef (e1 (et d6) e0) (lx_digit_w (hg.t le3) g6 hS) ?_)
  rintro _ w2 ⟨μ2,rfl,le7,hS⟩
  refine po ?_
  iterate 2 refine st ?_
  refine nw (cret ?_)
  obtain rfl:=oI h
  refine ret1 rfl d2 ?_
  exact ⟨_,rfl,(le3.t le7),hS⟩
theorem lx_n1_w (hg:Le Gm μ0) {p_1:UInt8} {r:Bool}  (h:lx_n1 p_1=some r) (hS:Sq μ0 w0 w (rsF)):CallsV prog 134 [.int .u8 (p_1.toNat:Int)] w (fun v w'=>∃ (μ':M) ,v=.bool r∧Le μ0 μ'∧Sq μ' w0 w' (rsF)):=by
 unfold lx_n1 at h
 refine enter func134 rfl (frm:=_::u1 (u2 (u5 []))) rfl (nz (st (nx (st ?_))))
 obtain ⟨r1,g2,h⟩:=bI h
 refine ca (lx_letter_w hg g2 hS) ?_
 rintro _ w1 ⟨μ1,rfl,le3,hS⟩
 refine po (st ?_)
 refine wspb d5 p5 p5 (fun h4=>?_) (xF h)
 replace h:=iT h4 h
 refine sn rfl rfl (sn rfl rfl ?_)
 iterate 2 refine st ?_
 refine nw (cret ?_)
 obtain rfl:=oI h
 refine ret1 rfl d2 ?_
 exact ⟨_,rfl,le3,hS⟩
theorem lx_hp0_w (hg:Le Gm μ0) {p_1 p_2:List UInt8} {r:Bool}  (h:lx_hp0 p_1 p_2=some r) (hS:Sq μ0 w0 w (rsF)):CallsV prog 132 [S p_1,S p_2] w (fun v w'=>∃ (μ':M) ,v=.bool r∧Le μ0 μ'∧Sq μ' w0 w' (rsF)):=by
 unfold lx_hp0 at h
 refine enter func132 rfl (frm:=_::_::u1 (u5 (u10 []))) rfl (nz (st (nx (st (wl (su (u_lens underlying9 (et d5)) (dt p6) (st (wl (su (u_lens underlying9 (et d7)) (dt p8) ?_)))))))))
 iterate 2 refine st ?_
 refine wspd (k10 d0) (q10 p0) (q10 p0) (fun h1=>?_) (xF h)
 replace h:=iT h1 h
 refine sy rfl (sy rfl (wy rfl (k10 d0) (su (u_lens underlying9 (et (k10 d2))) (dt (q10 p3)) ?_)))
 obtain ⟨s2,g3,h⟩:=bI h
 refine wy rfl (k10 d0) (su (u_cuthic underlying9 (et (k10 d1)) (et (k10 d3)) g3) (dt (q10 p4)) (sy rfl (wy rfl (k10 d0) (su (u_eqs (et (k10 d4)) (et (k10 d5))) (dt (q10 p6)) ?_))))
 iterate 2 refine st ?_
 refine nw (cret ?_)
 obtain rfl:=oI h
 refine ret1 rfl d4 ?_
 exact ⟨_,rfl,Le.r,hS⟩
theorem lx_hp_w (hg:Le Gm μ0) {p_1 p_2:List UInt8} {r:Bool}  (h:lx_hp p_1 p_2=some r) (hS:Sq μ0 w0 w (rsF)):CallsV prog 99 [S p_1,S p_2] w (fun v w'=>∃ (μ':M) ,v=.bool r∧Le μ0 μ'∧Sq μ' w0 w' (rsF)):=by
 unfold lx_hp at h
 refine enter func99 rfl (frm:=_::_::u1 (u5 [])) rfl (nz (st (nx ?_)))
 iterate 2 refine st ?_
 obtain ⟨r1,g2,h⟩:=bI h
 refine ca (lx_hp0_w hg g2 hS) ?_
 rintro _ w1 ⟨μ1,rfl,le3,hS⟩
 refine po (st (nw (cret ?_)))
 obtain rfl:=oI h
 refine ret1 rfl d4 ?_
 exact ⟨_,rfl,le3,hS⟩
theorem lx_sign_w (hg:Le Gm μ0) {p_1 r:List UInt8}  (h:lx_sign p_1=some r) (hS:Sq μ0 w0 w (rsF)):CallsV prog 62 [S p_1] w (fun v w'=>∃ (μ':M) ,v=S r∧Le μ0 μ'∧Sq μ' w0 w' (rsF)):=by
 unfold lx_sign at h
 refine enter func62 rfl (frm:=_::u5 (u10 [])) rfl (nz (st (ny (nz ?_))))
 refine wl (s_bsl underlying188 ti9 (Parts.s ec rfl (Parts.s ec rfl (Parts.s ec rfl (Parts.s ec rfl (Parts.s ec rfl (Parts.s ec rfl (Parts.s ec rfl (Parts.s ec rfl (Parts.s ec rfl (Parts.s ec rfl (Parts.s ec rfl (Parts.s ec rfl (Parts.s ec rfl (Parts.s ec rfl (Parts.s ec rfl (Parts.s ec rfl (Parts.s ec rfl (Parts.s ec rfl Parts.z)))))))))))))))))) rfl rfl hS ?_); clear hS; intro b1 w1 hb2 hS; refine po ?_
 refine wl (su (u_lensl underlying188 (et d5)) (dt p6) (st (nw (cblock ?_))))
 obtain ⟨μ1,le4,m3,hS⟩:=Sep.frzBlk (l:=([[61,61],[33,61],[60,61],[62,61],[60],[62],[61],[43],[45],[42],[47],[37],[40],[41],[123],[125],[44],[59]]:List (List UInt8))) hS (Rw.cons (α:=List UInt8) (cs:=[S [61,61]]) rfl (Rw.cons (α:=List UInt8) (cs:=[S [33,61]]) rfl (Rw.cons (α:=List UInt8) (cs:=[S [60,61]]) rfl (Rw.cons (α:=List UInt8) (cs:=[S [62,61]]) rfl (Rw.cons (α:=List UInt8) (cs:=[S [60]]) rfl (Rw.cons (α:=List UInt8) (cs:=[S [62]]) rfl (Rw.cons (α:=List UInt8) (cs:=[S [61]]) rfl (Rw.cons (α:=List UInt8) (cs:=[S [43]]) rfl (Rw.cons (α:=List UInt8) (cs:=[S [45]]) rfl (Rw.cons (α:=List UInt8) (cs:=[S [42]]) rfl (Rw.cons (α:=List UInt8) (cs:=[S [47]]) rfl (Rw.cons (α:=List UInt8) (cs:=[S [37]]) rfl (Rw.cons (α:=List UInt8) (cs:=[S [40]]) rfl (Rw.cons (α:=List UInt8) (cs:=[S [41]]) rfl (Rw.cons (α:=List UInt8) (cs:=[S [123]]) rfl (Rw.cons (α:=List UInt8) (cs:=[S [125]]) rfl (Rw.cons (α:=List UInt8) (cs:=[S [44]]) rfl (Rw.cons (α:=List UInt8) (cs:=[S [59]]) rfl Rw.nil)))))))))))))))))) (Nat.le_of_ble_eq_true rfl)
 refine cloopE ([2]++[4]++rg 8 8) (by decide) (fun n m w=>∃ μx i18,m=(yK2 (yO1 2 (yK1 (yO1 4 (yK2 (.i (.int .i64 i18)::(yO8 8 [])))))))∧lx_sign_l1 p_1 n i18=some r∧Le μ1 μx∧Sq μx w0 w (rsF)) (by rintro _ _ _ ⟨_,_,rfl,_⟩; rfl) _ _ (aK2 (aO1 (aK1 (aO1 (aK2 (aI (aO8 aZ))))))) ⟨_,0,rfl,h,Le.r,hS⟩ ?_
 rintro n_1 _ t w2 ⟨μ2,i18,rfl,h,le32,hS⟩
 cases n_1 with
 | zero=>cases h
 | succ n_1 =>
 unfold lx_sign_l1 at h
 refine cnrm (mK2 (mO1 (mK1 (mO1 (mK2 (mi (mO8 mz))))))) (nz (st (ny ?_)))
 refine cifd (et d8) (fun h33=>?_) (xF h)
 replace h:=iT h33 h
 refine cskip (xn (cseq (cblock (nz ?_))))
 obtain ⟨x34,g35,h⟩:=bI h
 obtain ⟨b36,o37,cs38,e39,f40,m41⟩:=SlR.elem (m3.up le32) g35
 obtain rfl:=m41
 refine wl (su (u_iax underlying188 ti9 (et d5) (et d7) e39) (dt p9) (ld ((f40 _ hS.a).one d0) (st (nx ?_))))
 iterate 2 refine st ?_
 obtain ⟨r42,g43,h⟩:=bI h
 refine ca (lx_hp_w (hg.t (le4.t le32)) g43 hS) ?_
 rintro _ w3 ⟨μ3,rfl,le44,hS⟩
 refine po (nw ?_)
 refine cifb (et (k10 d3)) (fun h45=>?_) (fun h45=>?_)
 ·replace h:=iT h45 h
  refine nz ?_
  iterate 2 refine st ?_
  refine nw (cret ?_)
  refine (fun h=>br (xr (xr (br (xr h))))) ?_
  obtain rfl:=oI h
  refine ret1 rfl d2 ?_
  exact ⟨_,rfl,(le4.t (le32.t le44)),hS⟩
 ·replace h:=iF h45 h
  refine cskip ?_
  refine (fun h=>bn (xn h)) ?_
  refine creg ?_
  obtain ⟨i46,g47,h⟩:=bI h
  refine wl (su (u_addc (et d7) ec g47) (dt (q10 p5)) (st (wnil (xl ?_))))
  exact ⟨n_1,_,_,rfl,(aK2 (aO1 (aK1 (aO1 (aK2 (aI (aO8 aZ))))))),⟨_,i46,rfl,h,(le32.t le44),hS⟩,Nat.lt_succ_self _⟩
theorem lx_space_w (hg:Le Gm μ0) {p_1:List UInt8} {r:Int}  (h:lx_space fu p_1=some r) (hS:Sq μ0 w0 w (rsF)):CallsV prog 56 [S p_1] w (fun v w'=>∃ (μ':M) ,v=.int .i64 r∧Le μ0 μ'∧Sq μ' w0 w' (rsF)):=by
 unfold lx_space at h
 refine enter func56 rfl (frm:=_::u1 (u5 (u20 []))) rfl (nz (st (nx (st (ny (cblock ?_))))))
 refine cloopE ([2]++rg 4 22) (by decide +kernel) (fun n m w=>∃ μx i6,m=(yK2 (yO1 2 (.i (.int .i64 i6)::(yO20 4 (yO2 24 [])))))∧lx_space_l1 p_1 n i6=some r∧Le μ0 μx∧Sq μx w0 w (rsF)) (by rintro _ _ _ ⟨_,_,rfl,_⟩; rfl) _ _ (aK2 (aO1 (aI (aO20 (aO2 aZ))))) ⟨_,0,rfl,h,Le.r,hS⟩ ?_
 rintro n_1 _ t w1 ⟨μ1,i6,rfl,h,le12,hS⟩
 cases n_1 with
 | zero=>cases h
 | succ n_1 =>
 unfold lx_space_l1 at h
 refine cnrm (mK2 (mO1 (mi (mO20 (mO2 mz))))) (cseq (nz ?_))
 iterate 2 refine st ?_
 refine wl (su (u_lens underlying9 (et d5)) (dt p6) (st (nw ?_)))
 refine cifd (et d7) (fun h13=>?_) (fun h13=>?_)
 ·replace h:=iT h13 h
  refine cskip (xn (cblock (nz ?_)))
  iterate 2 refine st ?_
  obtain ⟨u14,g15,h⟩:=bI h
  refine wl (s_idxc underlying9 (et d8) (et d9) g15 (dt (q10 p0)) (nw (cblock (cseq (nz ?_)))))
  iterate 2 refine st ?_
  refine nw ?_
  refine ccutE (rg 14 2) (by decide) (fun m w=>∃ μx b16,m=(yK10 (yK2 (.i (.bool b16)::(yK1 (yO2 14 [])))))∧lx_space_j1 i6 u14 (lx_space_l1 p_1 n_1) b16=some r∧Le μ1 μx∧Sq μx w0 w (rsF)) (by rintro _ _ ⟨_,_,rfl,_⟩; rfl) ?_ ?_
  ·refine cifd (et (k10 d2)) (fun h17=>?_) (fun h17=>?_)
   ·replace h:=iT h17 h
    refine cskip (xl ?_)
    exact ⟨_,_,rfl,(aK10 (aK2 (aI (aK1 (aO2 aZ))))),_,(decide ((u14.toNat:Int)=32)),rfl,h,Le.r,hS⟩
   ·replace h:=iF h17 h
    refine nz ?_
    iterate 2 refine st ?_
    refine nw ?_
    refine cifd (et (k10 d2)) (xT h) fun h18=>?_
    replace h:=iF h18 h
    refine creg ?_
    iterate 2 refine st ?_
    refine wnil (xl ?_)
    exact ⟨_,_,rfl,(aK10 (aK2 (aI (aK1 (aO2 aZ))))),_,(decide ((u14.toNat:Int)=10)),rfl,h,Le.r,hS⟩
  ·rintro _ t w2 ⟨μ2,b16,rfl,h,le19,hS⟩
   unfold lx_space_j1 at h
   refine nrm (mK10 (mK2 (mi (mK1 (mO2 mz))))) (xn ?_)
   refine cifb (et (k10 d2)) (fun h20=>?_) (fun h20=>?_)
   ·replace h:=iT h20 h
    refine creg (st ?_)
    obtain ⟨i21,g22,h⟩:=bI h
    refine wl (su (u_addc (et (k10 d6)) ec g22) (dt (q10 p7)) (st (wnil ?_)))
    refine (fun h=>bn (bn (xl h))) ?_
    exact ⟨n_1,_,_,rfl,(aK2 (aO1 (aI (aO20 (aO2 aZ))))),⟨_,i21,rfl,h,(le12.t le19),hS⟩,Nat.lt_succ_self _⟩
   ·replace h:=iF h20 h
    refine nz ?_
    iterate 2 refine st ?_
    refine nw ?_
    refine cifd (et (k10 d8)) (xT h) fun h23=>?_
    replace h:=iF h23 h
    refine nz ?_
    iterate 2 refine st ?_
    refine nw (cret ?_)
    refine (fun h=>br (br (xr (br (xr h))))) ?_
    obtain rfl:=oI h
    refine ret1 rfl d2 ?_
    exact ⟨_,rfl,(le12.t le19),hS⟩
 ·replace h:=iF h13 h
  refine cexit ?_
  refine (fun h=>xe (xe (bh h))) ?_
  refine xn (nz ?_)
  iterate 2 refine st ?_
  refine nw (cret ?_)
  obtain rfl:=oI h
  refine ret1 rfl d2 ?_
  exact ⟨_,rfl,le12,hS⟩
theorem lex_named_w (hg:Le Gm μ0) {p_1:List UInt8} {r:Bool}  (h:lex_named fu p_1=some r) (hS:Sq μ0 w0 w (rsF)):CallsV prog 101 [S p_1] w (fun v w'=>∃ (μ':M) ,v=.bool r∧Le μ0 μ'∧Sq μ' w0 w' (rsF)):=by
 unfold lex_named at h
 refine enter func101 rfl (frm:=_::u2 (u5 (u20 []))) rfl (nz (st (ny (nz (st (wl (su (u_lens underlying9 (et d3)) (dt p4) ?_)))))))
 iterate 2 refine st ?_
 refine wspd d6 p6 p6 (xT h) fun h1=>?_
 replace h:=iF h1 h
 refine sy rfl (wy rfl d6 (su (u_lens underlying9 (et d7)) (dt p8) (sy rfl ?_)))
 iterate 2 refine st ?_
 refine wspd (k10 d1) (q10 p1) (q10 p1) (xT h) fun h2=>?_
 replace h:=iF h2 h
 refine sy rfl ?_
 obtain ⟨u3,g4,h⟩:=bI h
 refine wy rfl (k10 d1) (s_idxc underlying9 (et (k10 d2)) ec g4 (dt (q10 p3)) ?_)
 obtain ⟨r5,g6,h⟩:=bI h
 refine wy rfl (k10 d1) (s_callv isfn57 ef (e1 (et (k10 d3)) e0) (lx_letter_w hg g6 hS) ?_)
 rintro _ w1 ⟨μ1,rfl,le7,hS⟩
 refine po (sy rfl ?_)
 iterate 2 refine st ?_
 refine wspnb (k10 d7) (q10 p7) (q10 p7) (xF h) fun h8=>?_
 replace h:=iT h8 h
 refine sy rfl ?_
 obtain ⟨s9,g10,h⟩:=bI h
 refine wy rfl (k10 d7) (su (u_catc ec (et (k10 d8)) g10) (dt (q10 p9)) ?_)
 obtain ⟨s11,g12,h⟩:=bI h
 refine wy rfl (k10 d7) (su (u_catc (et (k10 d9)) ec g12) (dt (q20 p0)) ?_)
 obtain ⟨b13,g14,h⟩:=bI h
 refine wy rfl (k10 d7) (s_callv isfn133 ef (e1 ec (e1 (et (k20 d0)) e0)) (scont_w (hg.t le7) g14 hS) ?_); clear hS; rintro _ w2 ⟨rfl,hS⟩; refine po ?_
 refine st (nw ?_)
 refine cifb (et (k20 d2)) (xT h) fun h15=>?_
 replace h:=iF h15 h
 refine cskip (xn (nz (st ?_)))
 obtain ⟨r16,g17,h⟩:=bI h
 refine wl (s_callv isfn58 ef (e1 (et (k20 d3)) (e1 ef e0)) (lx_while_w (hg.t le7) (⟨isfn134,fun hle_ hm_ g_ hS_=>by obtain rfl:=hm_; exact lx_n1_w ((hg.t le7).t hle_)  g_ hS_⟩) g17 hS) ?_)
 rintro _ w3 ⟨μ2,rfl,le18,hS⟩
 refine po (st (wl (su (u_lens underlying9 (et (k20 d5))) (dt (q20 p6)) ?_)))
 iterate 2 refine st ?_
 refine nw (cret ?_)
 obtain rfl:=oI h
 refine ret1 rfl d2 ?_
 exact ⟨_,rfl,(le7.t le18),hS⟩
theorem lex_tokens_w (hg:Le Gm μ0) {p_1:List UInt8} {r:List TToken×TFault}  (h:lex_tokens fu p_1=some r) (hS:Sq μ0 w0 w (rsF)):CallsV prog 31 [S p_1] w (fun v w'=>∃ (μ':M) (a1:Option Addr) (c2:Nat),v=.tuple ⟨[.slice a1 r.1.length c2,.agg ⟨[.int .i64 r.2.Err,.int .i64 r.2.At]⟩]⟩∧Le μ0 μ'∧Sq μ' w0 w' (rsF)∧Sl μ' a1 c2 r.1):=by
 unfold lex_tokens at h
 refine enter func31 rfl (frm:=_::u2 (u10 (u20 (u50 [])))) rfl (nz (st ?_))
 refine wl (s_alloc ti45 hS ?_); clear hS; intro b4 w1 hb5 hS; refine po ?_
 refine ny (nz (st (wl (su (u_lens underlying9 (et d9)) (dt (q10 p0)) (st (nw ?_))))))
 refine cifd (et (k10 d1)) (xT h) fun h6=>?_
 replace h:=iF h6 h
 refine cskip (xn (nz (st (ny (nz (st ?_))))))
 obtain ⟨r7,g8,h⟩:=bI h
 refine ca (lx_space_w hg g8 hS) ?_
 rintro _ w2 ⟨μ1,rfl,le9,hS⟩
 refine po (st (nw (cblock ?_)))
 replace hS:=hS.nilRow 133 (Mo.sz TToken)
 replace hS:=hS.bg Y1
 refine cloopE ([2]++rg 6 3++rg 15 66) (by decide +kernel) (fun n m w=>∃ μx i58 l61 v59 cs60,m=(yK2 (yO1 2 (yK1 (.i (v59)::(.i (.int .i64 i58)::(yO3 6 (yK6 (yO50 15 (yO10 65 (yO6 75 []))))))))))∧lex_tokens_l1 fu p_1 n i58 l61=some r∧Le μ1 μx∧Sq μx w0 w (.blk b4 45 [.int .i64 0,.int .i64 0]::.row v59 133 4 l61.length cs60::rsF)∧Rw μx cs60 l61) (by rintro _ _ _ ⟨_,_,_,_,_,rfl,_⟩; rfl) _ _ (aK2 (aO1 (aK1 (aI (aI (aO3 (aK6 (aO50 (aO10 (aO6 aZ)))))))))) ⟨_,r7,[],(.slice none 0 0),[],rfl,h,Le.r,hS,Rw.nil⟩ ?_
 rintro n_1 _ t w3 ⟨μ2,i58,l61,v59,cs60,rfl,h,le109,hS,m110⟩
 cases n_1 with
 | zero=>cases h
 | succ n_1 =>
 unfold lex_tokens_l1 at h
 refine cnrm (mK2 (mO1 (mK1 (mi (mi (mO3 (mK6 (mO50 (mO10 (mO6 mz)))))))))) (cseq (nz ?_))
 iterate 2 refine st ?_
 refine wl (su (u_lens underlying9 (et (k10 d6))) (dt (q10 p7)) (st (nw ?_)))
 refine cifd (et (k10 d8)) (fun h111=>?_) (fun h111=>?_)
 ·replace h:=iT h111 h
  refine cskip (xn (cseq (cblock (nz ?_))))
  iterate 2 refine st ?_
  obtain ⟨s112,g113,h⟩:=bI h
  refine wl (su (u_cutloc underlying9 (et (k20 d5)) (et (k20 d6)) g113) (dt (q20 p7)) (st (nx (st (wl (s_build ti133 pl133 (Fl.o rfl (et (k20 d8)) rfl rfl p3 Fl.z) (dt (q20 p9)) ?_))))))
  refine wl (s_alloc ti133 hS ?_); clear hS; intro b114 w4 hb115 hS; refine po ?_
  refine wl (s_storeA ti133 (et d7) (et (k20 d9)) rfl rfl hS d0 rfl p0 dn ?_)
  clear hS; intro w5 hS
  refine ny (nz (st ?_))
  obtain ⟨u116,g117,h⟩:=bI h
  refine wl (s_idxc underlying9 (et (k30 d0)) ec g117 (dt (q30 p1)) (st (nw ?_)))
  refine ccutE ([2]++rg 32 40) (by decide +kernel) (fun m w=>∃ μx i118 s119 i120,m=(yK2 (yO1 2 (yK20 (yK9 (yO20 32 (yO20 52 []))))))∧lex_tokens_j1 fu p_1 i58 l61 (lex_tokens_l1 fu p_1 n_1) i118 s119 i120=some r∧Le μ2 μx∧Sq μx w0 w (.blk b4 45 [.int .i64 0,.int .i64 0]::.row v59 133 4 l61.length cs60::.blk b114 133 [.int .i64 i118,S s119,.int .i64 i120,.int .i64 i58]::rsF)) (by rintro _ _ ⟨_,_,_,_,rfl,_⟩; rfl) ?_ ?_
  ·refine cblock (nz (st ?_))
   obtain ⟨r121,g122,h⟩:=bI h
   refine ca (lx_letter_w (hg.t (le9.t le109)) g122 hS) ?_
   rintro _ w6 ⟨μ3,rfl,le123,hS⟩
   refine po (st (nw ?_))
   refine cifb (et (k40 d1)) (fun h124=>?_) (fun h124=>?_)
   ·replace h:=iT h124 h
    refine cdw hS ?_; clear hS; intro w7 hS
    refine sf_start (fpi 0 [0,3,6,7] rfl (fpi 1 [1,2,3,5,6,7] rfl (fpi 4 [4,5,6,7] rfl ?_)))
    obtain ⟨r125,g126,h⟩:=bI h
    refine sf1 rfl rfl rfl rfl (wn0 rfl) (s_callv isfn58 ef (e1 (et (k40 d5)) (e1 ef e0)) (lx_while_w (hg.t (le9.t (le109.t le123))) (⟨isfn59,fun hle_ hm_ g_ hS_=>by obtain rfl:=hm_; exact lx_t1_w ((hg.t (le9.t (le109.t le123))).t hle_)  g_ hS_⟩) g126 hS) ?_)
    rintro _ w8 ⟨μ4,rfl,le127,hS⟩
    refine po ?_
    refine ⟨Mons.z,?_⟩
    obtain ⟨s128,g129,h⟩:=bI h
    refine fp 3 [3,6,7] rfl (u_cuthic underlying9 (et (k40 d4)) (et (k40 d6)) g129) (q40 p7) (sf1 rfl rfl rfl rfl (wn0 rfl) (s_store1 ti3 (et (k40 d8)) ec rfl hS d0 p0 rfl p0 dn ?_))
    clear hS; intro w9 hS
    refine ⟨Mons.z,?_⟩
    refine fpi 6 [6,7] rfl (sf1 rfl rfl rfl rfl (wn0 rfl) (s_store1 ti9 (et (k40 d9)) (et (k40 d7)) rfl hS d0 p1 rfl p0 dn ?_))
    clear hS; intro w10 hS
    refine ⟨Mons.z,?_⟩
    refine sf_nil ?_
    refine (fun h=>bn (xl h)) ?_
    replace hS:=(hS.bg Y2).bg Y2
    exact ⟨_,_,rfl,(aK2 (aO1 (aK20 (aK9 (aO20 (aO20 aZ)))))),_,1,_,0,rfl,h,(le123.t le127),hS⟩
   ·replace h:=iF h124 h
    refine nz (st ?_)
    obtain ⟨r130,g131,h⟩:=bI h
    refine ca (lx_digit_w (hg.t (le9.t (le109.t le123))) g131 hS) ?_
    rintro _ w11 ⟨μ5,rfl,le132,hS⟩
    refine po (st (nw ?_))
    refine cifb (et (k50 d0)) (fun h133=>?_) (fun h133=>?_)
    ·replace h:=iT h133 h
     refine cseq ?_
     refine cdw hS ?_; clear hS; intro w12 hS
     refine sf_start (fpi 0 [0,3,6,7] rfl (fpi 1 [1,2,3,5,6,7] rfl (fpi 4 [4,5,6,7] rfl ?_)))
     obtain ⟨r134,g135,h⟩:=bI h
     refine sf1 rfl rfl rfl rfl (wn0 rfl) (s_callv isfn58 ef (e1 (et (k50 d4)) (e1 ef e0)) (lx_while_w (hg.t (le9.t (le109.t (le123.t le132)))) (⟨isfn60,fun hle_ hm_ g_ hS_=>by obtain rfl:=hm_; exact lx_digit_w ((hg.t (le9.t (le109.t (le123.t le132)))).t hle_)  g_ hS_⟩) g135 hS) ?_)
     rintro _ w13 ⟨μ6,rfl,le136,hS⟩
     refine po ?_
     refine ⟨Mons.z,?_⟩
     obtain ⟨s137,g138,h⟩:=bI h
     refine fp 3 [3,6,7] rfl (u_cuthic underlying9 (et (k50 d3)) (et (k50 d5)) g138) (q50 p6) (sf1 rfl rfl rfl rfl (wn0 rfl) (s_store1 ti3 (et (k50 d7)) ec rfl hS d0 p0 rfl p0 dn ?_))
     clear hS; intro w14 hS
     refine ⟨Mons.z,?_⟩
     refine fpi 6 [6,7] rfl (sf1 rfl rfl rfl rfl (wn0 rfl) (s_store1 ti9 (et (k50 d8)) (et (k50 d6)) rfl hS d0 p1 rfl p0 dn ?_))
     clear hS; intro w15 hS
     refine ⟨Mons.z,?_⟩
     refine sf_nil (xn (cseq (nz (st (ld ((hS.blk d0).cell d1) (wl (su (u_lens underlying9 (et (k60 d0))) (dt (q60 p1)) (st (nw ?_)))))))))
     refine cifd (et (k60 d2)) (xT h) fun h139=>?_
     replace h:=iF h139 h
     refine cskip (xn (creg (st (ld ((hS.blk d0).cell d1) ?_))))
     obtain ⟨i140,g141,h⟩:=bI h
     refine wl (s_callv isfn61 ef (e1 (et (k60 d7)) (e1 ec (e1 ec e0))) (pint_w g141 hS) ?_); clear hS; rintro _ w16 ⟨rfl,hS⟩; refine po ?_
     iterate 4 refine st ?_
     refine wl (s_store1 ti2 (et (k70 d1)) (et (k60 d9)) rfl hS d0 p2 rfl p0 dn ?_)
     clear hS; intro w17 hS
     refine wnil ?_
     refine (fun h=>bn (xl h)) ?_
     replace hS:=(hS.bg Y2).bg Y2
     exact ⟨_,_,rfl,(aK2 (aO1 (aK20 (aK9 (aO20 (aO20 aZ)))))),_,2,_,_,rfl,h,(le123.t (le132.t le136)),hS⟩
    ·replace h:=iF h133 h
     refine nz (st ?_)
     obtain ⟨r142,g143,h⟩:=bI h
     refine ca (lx_sign_w (hg.t (le9.t (le109.t (le123.t le132)))) g143 hS) ?_
     rintro _ w18 ⟨μ7,rfl,le144,hS⟩
     refine po (st (wl (s_store1 ti3 (et (k30 d4)) ec rfl hS d0 p0 rfl p0 dn ?_)))
     clear hS; intro w19 hS
     refine st (wl (s_store1 ti9 (et (k30 d5)) (et (k30 d3)) rfl hS d0 p1 rfl p0 dn ?_))
     clear hS; intro w20 hS
     refine nx (st (ld ((hS.blk d0).cell d1) (wl (su (u_eqs (et (k30 d7)) ec) (dt (q30 p8)) (nw ?_)))))
     refine cifd (et (k30 d8)) (xT h) fun h145=>?_
     replace h:=iF h145 h
     refine cskip ?_
     refine (fun h=>bn (xl h)) ?_
     replace hS:=(hS.bg Y2).bg Y2
     exact ⟨_,_,rfl,(aK2 (aO1 (aK20 (aK9 (aO20 (aO20 aZ)))))),_,3,_,0,rfl,h,(le123.t (le132.t le144)),hS⟩
  ·rintro _ t w21 ⟨μ8,i118,s119,i120,rfl,h,le146,hS⟩
   unfold lex_tokens_j1 at h
   refine nrm (mK2 (mO1 (mK20 (mK9 (mO20 (mO20 mz)))))) (xn (nz (st (lds (hS.blk d2).cells rfl ?_))))
   refine wl (s_bsl1 underlying76 ti133 rfl (et (k70 d3)) rfl hS ?_); clear hS; intro b147 w22 hb148 hS; refine po ?_
   obtain ⟨l151,g152,h⟩:=bI h
   have m153:Rw μ8 [.int .i64 i118,S s119,.int .i64 i120,.int .i64 i58] [(TToken.mk i118 s119 i120 i58)]:=(Rw.one (α:=TToken) rfl)
   have m150:=Rw.app (m110.up le146) m153 g152
   refine wl (s_app1 underlying76 ti133 rfl (et (k70 d2)) (et (k70 d4)) hS d2 (hS.blk d0).cells m153 rfl g152 (by decide) ?_); clear hS; intro v149 w23 rs_ hp_ hS; cases (show _=rs_ from hp_)
   replace hS:=Sep.reput hS p2; refine po ?_
   replace hS:=hS.drop Rm.z
   refine st (nw (creg ?_))
   iterate 2 refine st ?_
   refine ld ((hS.blk d2).cell d1) (wl (su (u_lens underlying9 (et (k70 d8))) (dt (q70 p9)) ?_))
   obtain ⟨i154,g155,h⟩:=bI h
   refine wl (su (u_addc (et (k70 d6)) (et (k70 d9)) g155) (dt (q80 p0)) (st (wnil ?_)))
   refine (fun h=>bn (xn h)) ?_
   refine creg ?_
   iterate 3 refine st ?_
   obtain ⟨s156,g157,h⟩:=bI h
   refine wl (su (u_cutloc underlying9 (et (k20 d0)) (et (k20 d1)) g157) (dt (q20 p2)) ?_)
   obtain ⟨r158,g159,h⟩:=bI h
   refine ca (lx_space_w (hg.t (le9.t (le109.t le146))) g159 hS) ?_
   rintro _ w24 ⟨μ9,rfl,le160,hS⟩
   refine po ?_
   obtain ⟨i161,g162,h⟩:=bI h
   refine wl (su (u_addc (et (k10 d9)) (et (k20 d3)) g162) (dt (q20 p4)) (st (wnil (xl ?_))))
   replace hS:=hS.drop (Rm.s (Rm.s Rm.z))
   exact ⟨n_1,_,_,rfl,(aK2 (aO1 (aK1 (aI (aI (aO3 (aK6 (aO50 (aO10 (aO6 aZ)))))))))),⟨_,i161,l151,v149,(cs60++[.int .i64 i118,S s119,.int .i64 i120,.int .i64 i58]),rfl,h,(le109.t (le146.t le160)),hS,(m150.up le160)⟩,Nat.lt_succ_self _⟩
 ·replace h:=iF h111 h
  refine cexit ?_
  refine (fun h=>xe (xe (bh h))) ?_
  refine xn (nz (st (wl (s_build ti45 pl45 Fl.z (dt (q80 p2)) (st (wl (s_storeA ti45 (et d3) (et (k80 d2)) rfl rfl hS d0 rfl p0 dn ?_)))))))
  clear hS; intro w25 hS
  refine nw (cret ?_)
  replace hS:=hS.bg Y1
  obtain ⟨μ10,a163,c164,e167,le166,m165,hq_⟩:=Sep.frzRow hS m110 rfl; clear hS
  subst e167; have hS:=hq_; clear hq_
  obtain rfl:=oI h
  refine retN rfl (RVs.s (.t d2) (RVs.s (.a d3 ti45 (hS.blk d0).cells rfl) RVs.z)) ?_
  replace hS:=hS.drop Rm.z
  exact ⟨_,_,_,rfl,(le9.t (le109.t le166)),hS,m165⟩
end Go.Proofs.YtaenlbapejigbaaGreatDoor
set_option maxRecDepth 100000
set_option maxHeartbeats 20000000
namespace Go.Proofs.YtaenlbapejigbaaGreatDoor
open Go.Wk Go.Xt Go.Y Tryz
variable {b1 b3 c2 c6 c9 fu o4:Nat} {a1 a5 a8:Option Addr} {μ0:M} {w0 w:World} {rsF:List Res}
theorem syn_kids_w (hg:Le Gm μ0) {p_1 r:Int}  (h:syn_kids p_1=some r) (hS:Sq μ0 w0 w (rsF)):CallsV prog 166 [.int .i64 p_1] w (fun v w'=>∃ (μ':M) ,v=.int .i64 r∧Le μ0 μ'∧Sq μ' w0 w' (rsF)):=by
 unfold syn_kids at h
 refine enter func166 rfl (frm:=_::u2 (u5 (u20 []))) rfl (nz (st (ny (cblock (cseq ?_)))))
 refine ccutE (rg 4 6) (by decide) (fun m w=>∃ μx b1,m=(yK3 (.i (.bool b1)::(yO6 4 [])))∧syn_kids_j1 p_1 b1=some r∧Le μ0 μx∧Sq μx w0 w (rsF)) (by rintro _ _ ⟨_,_,rfl,_⟩; rfl) ?_ ?_
 ·refine creg ?_
  iterate 3 refine st ?_
  refine wspd d6 p6 p6 (fun h2=>?_) (fun h2=>?_)
  ·replace h:=iT h2 h
   refine sn rfl rfl (sn rfl rfl ?_)
   iterate 2 refine st ?_
   refine wnil (xl ?_)
   exact ⟨_,_,rfl,(aK3 (aI (aO6 aZ))),_,true,rfl,h,Le.r,hS⟩
  ·replace h:=iF h2 h
   refine sy rfl (sy rfl ?_)
   iterate 2 refine st ?_
   refine wnil (xl ?_)
   exact ⟨_,_,rfl,(aK3 (aI (aO6 aZ))),_,(decide (p_1=20)),rfl,h,Le.r,hS⟩
 ·rintro _ t w1 ⟨μ1,b1,rfl,h,le3,hS⟩
  unfold syn_kids_j1 at h
  refine nrm (mK3 (mi (mO6 mz))) (xn ?_)
  refine cifb (et d3) (fun h4=>?_) (fun h4=>?_)
  ·replace h:=iT h4 h
   refine nz (st (nw (cret ?_)))
   refine (fun h=>br (xr h)) ?_
   obtain rfl:=oI h
   refine ret1 rfl d2 ?_
   exact ⟨_,rfl,le3,hS⟩
  ·replace h:=iF h4 h
   refine nz ?_
   iterate 3 refine st ?_
   refine wspd (k10 d3) (q10 p3) (q10 p3) (xT h) fun h5=>?_
   replace h:=iF h5 h
   refine sy rfl (sy rfl ?_)
   iterate 2 refine st ?_
   refine wspd (k10 d7) (q10 p7) (q10 p7) (xT h) fun h6=>?_
   replace h:=iF h6 h
   refine sy rfl (sy rfl ?_)
   iterate 2 refine st ?_
   refine nw ?_
   refine cifd (et (k10 d0)) (xT h) fun h7=>?_
   replace h:=iF h7 h
   refine cseq ?_
   refine ccutE (rg 22 6) (by decide) (fun m w=>∃ μx b8,m=(yK20 (yK1 (.i (.bool b8)::(yO6 22 []))))∧syn_kids_j2 b8=some r∧Le μ1 μx∧Sq μx w0 w (rsF)) (by rintro _ _ ⟨_,_,rfl,_⟩; rfl) ?_ ?_
   ·refine creg ?_
    iterate 3 refine st ?_
    refine wspd (k20 d4) (q20 p4) (q20 p4) (fun h9=>?_) (fun h9=>?_)
    ·replace h:=iT h9 h
     refine sn rfl rfl (sn rfl rfl ?_)
     iterate 2 refine st ?_
     refine wnil (xl ?_)
     exact ⟨_,_,rfl,(aK20 (aK1 (aI (aO6 aZ)))),_,true,rfl,h,Le.r,hS⟩
    ·replace h:=iF h9 h
     refine sy rfl (sy rfl ?_)
     iterate 2 refine st ?_
     refine wnil (xl ?_)
     exact ⟨_,_,rfl,(aK20 (aK1 (aI (aO6 aZ)))),_,(decide (p_1=23)),rfl,h,Le.r,hS⟩
   ·rintro _ t w2 ⟨μ2,b8,rfl,h,le10,hS⟩
    unfold syn_kids_j2 at h
    refine nrm (mK20 (mK1 (mi (mO6 mz)))) (xn ?_)
    refine cifb (et (k20 d1)) (fun h11=>?_) (fun h11=>?_)
    ·replace h:=iT h11 h
     refine nz (st (nw (cret ?_)))
     refine (fun h=>br (xr h)) ?_
     obtain rfl:=oI h
     refine ret1 rfl d2 ?_
     exact ⟨_,rfl,(le3.t le10),hS⟩
    ·replace h:=iF h11 h
     refine cskip ?_
     refine (fun h=>bn (xn h)) ?_
     refine nz (st (nw (cret ?_)))
     obtain rfl:=oI h
     refine ret1 rfl d2 ?_
     exact ⟨_,rfl,(le3.t le10),hS⟩
theorem syn_node_w (hg:Le Gm μ0) {node_2 p_2:Int} {r:Int×Int}  (h:syn_node node_2 p_2=some r) (hS:Sq μ0 w0 w (.blk b1 149 [.int .i64 node_2]::rsF)):CallsV prog 104 [.pointer (some ⟨b1,0,none⟩),.int .i64 p_2] w (fun v w'=>∃ (μ':M) ,v=.int .i64 r.1∧Le μ0 μ'∧Sq μ' w0 w' (.blk b1 149 [.int .i64 r.2]::rsF)):=by
 unfold syn_node at h
 refine enter func104 rfl (frm:=_::_::u2 (u2 (u5 (u10 [])))) rfl (nz (st (ny (nz ?_))))
 iterate 3 refine st ?_
 refine ld ((hS.blk d0).cell d0) ?_
 obtain ⟨i3,g4,h⟩:=bI h
 refine wl (su (u_addc (et d8) ec g4) (dt p9) ?_)
 iterate 2 refine st ?_
 refine wl (s_store1 ti3 (et (k10 d1)) (et d9) rfl hS d0 p0 rfl p0 dn ?_)
 clear hS; intro w1 hS
 refine nx ?_
 iterate 3 refine st ?_
 refine ld ((hS.blk d0).cell d0) ?_
 iterate 2 refine st ?_
 refine wspd (k10 d7) (q10 p7) (q10 p7) (xT h) fun h5=>?_
 replace h:=iF h5 h
 refine sy rfl (sy rfl (st (nw ?_)))
 refine cifd (et (k20 d0)) (xT h) fun h6=>?_
 replace h:=iF h6 h
 refine cskip (xn (nz (st (nw (cret ?_)))))
 obtain rfl:=oI h
 refine ret1 rfl d4 ?_
 exact ⟨_,rfl,Le.r,hS⟩
theorem syn_typ_w (hg:Le Gm μ0) {p_1:TType} {r:Int}  (h:syn_typ p_1=some r) (hS:Sq μ0 w0 w (rsF)):CallsV prog 105 [.agg ⟨[.int .i64 p_1.Kind,S p_1.Gen]⟩] w (fun v w'=>∃ (μ':M) ,v=.int .i64 r∧Le μ0 μ'∧Sq μ' w0 w' (rsF)):=by
 unfold syn_typ at h
 refine enter func105 rfl (frm:=_::u1 (u20 [])) rfl (nz ?_)
 refine wl (s_box (et d0) rfl hS ?_); clear hS; intro b1 w1 hb2 hS; refine po ?_
 refine st (ny (cblock (nz (st (ld ((hS.blk d0).cell d0) ?_)))))
 iterate 2 refine st ?_
 refine wspd d7 p7 p7 (xT h) fun h3=>?_
 replace h:=iF h3 h
 refine sy rfl (wy rfl d7 (s_load ti3 (et d8) ((hS.blk d0).cell d0) (dt p9) (sy rfl ?_)))
 iterate 2 refine st ?_
 refine nw ?_
 refine cifd (et d3) (xT h) fun h4=>?_
 replace h:=iF h4 h
 refine nz (st (ld ((hS.blk d0).cell d0) ?_))
 iterate 2 refine st ?_
 refine wspd (k10 d6) (q10 p6) (q10 p6) (xT h) fun h5=>?_
 replace h:=iF h5 h
 refine sn rfl rfl (sn rfl rfl (sn rfl rfl (sn rfl rfl ?_)))
 iterate 2 refine st ?_
 refine nw (ciff (et (k10 d2)) (cskip ?_))
 refine (fun h=>bn (xn h)) ?_
 refine nz (st (nw (cret ?_)))
 obtain rfl:=oI h
 refine ret1 rfl d2 ?_
 replace hS:=hS.drop Rm.z
 exact ⟨_,rfl,Le.r,hS⟩
structure SynExprSound (sf:SynExpr):Prop where
  syn_expr:∀ {μ0:M} {w0 w:World} {rsF:List Res} (hg:Le Gm μ0) {b1:Nat} {node_2:Int} {p_2:TExpr} {b3 o4:Nat} {a5:Option Addr} {c6:Nat} {p_3:Int} {r:Int×Int} (m7:Sl μ0 a5 c6 p_2.Kids) (m8:At μ0 b3 o4 [.int .i64 p_2.Kind,.int .i64 p_2.N,S p_2.Name,.slice a5 p_2.Kids.length c6]) (h:sf.syn_expr node_2 p_2 p_3=some r) (hS:Sq μ0 w0 w (.blk b1 149 [.int .i64 node_2]::rsF)),CallsV prog 156 [.pointer (some ⟨b1,0,none⟩),.pointer (some ⟨b3,o4,none⟩),.int .i64 p_3] w (fun v w'=>∃ (μ':M) ,v=.int .i64 r.1∧Le μ0 μ'∧Sq μ' w0 w' (.blk b1 149 [.int .i64 r.2]::rsF))
theorem syn_expr_w {self:SynExpr} (IH:SynExprSound self) {fu:Nat} {μ0:M} {w0 w:World} {rsF:List Res} (hg:Le Gm μ0) {b1:Nat} {node_2:Int} {p_2:TExpr} {b3 o4:Nat} {a5:Option Addr} {c6:Nat} {p_3:Int} {r:Int×Int} (m7:Sl μ0 a5 c6 p_2.Kids) (m8:At μ0 b3 o4 [.int .i64 p_2.Kind,.int .i64 p_2.N,S p_2.Name,.slice a5 p_2.Kids.length c6]) (h:syn_expr fu self node_2 p_2 p_3=some r) (hS:Sq μ0 w0 w (.blk b1 149 [.int .i64 node_2]::rsF)):CallsV prog 156 [.pointer (some ⟨b1,0,none⟩),.pointer (some ⟨b3,o4,none⟩),.int .i64 p_3] w (fun v w'=>∃ (μ':M) ,v=.int .i64 r.1∧Le μ0 μ'∧Sq μ' w0 w' (.blk b1 149 [.int .i64 r.2]::rsF)):=by
 unfold syn_expr at h
 refine enter func156 rfl (frm:=_::_::_::u2 (u2 (u5 (u10 (u20 (u50 (u50 []))))))) rfl (nz (st (ny (nz ?_))))
 iterate 2 refine st ?_
 obtain ⟨r9,g10,h⟩:=bI h
 refine ca (syn_node_w hg g10 hS) ?_
 rintro _ w1 ⟨μ1,rfl,le11,hS⟩
 refine po (st (nx ?_))
 iterate 2 refine st ?_
 refine nw ?_
 refine cifd (et (k10 d5)) (xT h) fun h12=>?_
 replace h:=iF h12 h
 refine cskip (xn (cseq (nz ?_)))
 iterate 3 refine st ?_
 refine ld ((m8 _ (le11 _ hS.a)).one d0) ?_
 iterate 2 refine st ?_
 refine wspd (k20 d2) (q20 p2) (q20 p2) (xT h) fun h13=>?_
 replace h:=iF h13 h
 refine sy rfl (sy rfl (sy rfl (wy rfl (k20 d2) (s_load ti3 (et (k20 d5)) ((m8 _ (le11 _ hS.a)).one d0) (dt (q20 p6)) (sy rfl (st (nw ?_)))))))
 refine cifd (et (k20 d8)) (xT h) fun h14=>?_
 replace h:=iF h14 h
 refine cskip (xn (nz ?_))
 iterate 3 refine st ?_
 refine ld ((m8 _ (le11 _ hS.a)).one d0) ?_
 obtain ⟨r15,g16,h⟩:=bI h
 refine ca (syn_kids_w (hg.t le11) g16 hS) ?_
 rintro _ w2 ⟨μ2,rfl,le17,hS⟩
 refine po (st (ny (cblock (cseq (cseq ?_)))))
 refine ccutE (rg 35 19) (by decide) (fun m w=>∃ μx b18,m=(yK20 (yK10 (yK4 (.i (.bool b18)::(yO10 35 (yO9 45 []))))))∧syn_expr_j1 fu self p_2 p_3 r9 r15 b18=some r∧Le μ2 μx∧Sq μx w0 w (.blk b1 149 [.int .i64 r9.2]::rsF)) (by rintro _ _ ⟨_,_,rfl,_⟩; rfl) ?_ ?_
 ·refine creg ?_
  iterate 3 refine st ?_
  refine ld ((m8 _ ((le11.t le17) _ hS.a)).one d0) ?_
  iterate 2 refine st ?_
  refine wspd (k40 d0) (q40 p0) (q40 p0) (fun h19=>?_) (fun h19=>?_)
  ·replace h:=iT h19 h
   refine sy rfl (sy rfl (sy rfl (wy rfl (k40 d0) (s_load ti2 (et (k40 d3)) ((m8 _ ((le11.t le17) _ hS.a)).one d1) (dt (q40 p4)) (sy rfl (sy rfl ?_))))))
   refine wspd (k40 d6) (q40 p6) (q40 p6) (xT h) fun h20=>?_
   replace h:=iF h20 h
   refine sy rfl (sy rfl (sy rfl (wy rfl (k40 d6) (s_load ti2 (et (k40 d9)) ((m8 _ ((le11.t le17) _ hS.a)).one d1) (dt (q50 p0)) (sy rfl (sy rfl ?_))))))
   iterate 2 refine st ?_
   refine wnil (xl ?_)
   exact ⟨_,_,rfl,(aK20 (aK10 (aK4 (aI (aO10 (aO9 aZ)))))),_,(decide ((999999999999999:Int)<p_2.N)),rfl,h,Le.r,hS⟩
  ·replace h:=iF h19 h
   refine sn rfl rfl (sn rfl rfl (sn rfl rfl (sn rfl rfl (sn rfl rfl (sn rfl rfl (wu rfl (k40 d6) (dt (q40 p7)) (wu rfl (k40 d6) (dt (q40 p8)) (wu rfl (k40 d6) (dt (q40 p9)) (wu rfl (k40 d6) (dt (q50 p0)) (wu rfl (k40 d6) (dt (q50 p1)) (sn rfl rfl ?_)))))))))))
   iterate 2 refine st ?_
   refine wnil (xl ?_)
   exact ⟨_,_,rfl,(aK20 (aK10 (aK4 (aI (aO10 (aO9 aZ)))))),_,false,rfl,h,Le.r,hS⟩
 ·rintro _ t w3 ⟨μ3,b18,rfl,h,le21,hS⟩
  unfold syn_expr_j1 at h
  refine nrm (mK20 (mK10 (mK4 (mi (mO10 (mO9 mz)))))) (xn ?_)
  refine ccutE (rg 54 19) (by decide) (fun m w=>∃ μx b22,m=(yK20 (yK10 (yK4 (.i (.bool b22)::(yK10 (yK9 (yO10 54 (yO9 64 []))))))))∧syn_expr_j2 fu self p_2 p_3 r9 r15 b22=some r∧Le μ3 μx∧Sq μx w0 w (.blk b1 149 [.int .i64 r9.2]::rsF)) (by rintro _ _ ⟨_,_,rfl,_⟩; rfl) ?_ ?_
  ·refine cifb (et (k30 d4)) (xT h) fun h23=>?_
   replace h:=iF h23 h
   refine creg ?_
   iterate 3 refine st ?_
   refine ld ((m8 _ ((le11.t (le17.t le21)) _ hS.a)).one d0) ?_
   iterate 2 refine st ?_
   refine wspd (k50 d9) (q50 p9) (q50 p9) (fun h24=>?_) (fun h24=>?_)
   ·replace h:=iT h24 h
    refine sy rfl (sy rfl (sy rfl (wy rfl (k50 d9) (s_load ti2 (et (k60 d2)) ((m8 _ ((le11.t (le17.t le21)) _ hS.a)).one d1) (dt (q60 p3)) (sy rfl ?_)))))
    iterate 2 refine st ?_
    refine wspd (k60 d6) (q60 p6) (q60 p6) (fun h25=>?_) (fun h25=>?_)
    ·replace h:=iT h25 h
     refine sy rfl (sy rfl (sy rfl (wy rfl (k60 d6) (s_load ti2 (et (k60 d9)) ((m8 _ ((le11.t (le17.t le21)) _ hS.a)).one d1) (dt (q70 p0)) (sy rfl ?_)))))
     iterate 2 refine st ?_
     refine wnil (xl ?_)
     exact ⟨_,_,rfl,(aK20 (aK10 (aK4 (aI (aK10 (aK9 (aO10 (aO9 aZ)))))))),_,(decide (p_2.N≠1)),rfl,h,Le.r,hS⟩
    ·replace h:=iF h25 h
     refine sn rfl rfl (sn rfl rfl (sn rfl rfl (sn rfl rfl (sn rfl rfl ?_))))
     iterate 2 refine st ?_
     refine wnil (xl ?_)
     exact ⟨_,_,rfl,(aK20 (aK10 (aK4 (aI (aK10 (aK9 (aO10 (aO9 aZ)))))))),_,false,rfl,h,Le.r,hS⟩
   ·replace h:=iF h24 h
    refine sn rfl rfl (sn rfl rfl (sn rfl rfl (sn rfl rfl (sn rfl rfl ?_))))
    iterate 2 refine st ?_
    refine sn rfl rfl (sn rfl rfl (sn rfl rfl (sn rfl rfl (sn rfl rfl ?_))))
    iterate 2 refine st ?_
    refine wnil (xl ?_)
    exact ⟨_,_,rfl,(aK20 (aK10 (aK4 (aI (aK10 (aK9 (aO10 (aO9 aZ)))))))),_,false,rfl,h,Le.r,hS⟩
  ·rintro _ t w4 ⟨μ4,b22,rfl,h,le26,hS⟩
   unfold syn_expr_j2 at h
   refine nrm (mK20 (mK10 (mK4 (mi (mK10 (mK9 (mO10 (mO9 mz)))))))) (xn ?_)
   refine cifb (et (k30 d4)) (xT h) fun h27=>?_
   replace h:=iF h27 h
   refine cseq ?_
   refine ccutE (rg 74 24) (by decide +kernel) (fun m w=>∃ μx b28,m=(yK50 (yK20 (yK3 (.i (.bool b28)::(yO20 74 (yO4 94 []))))))∧syn_expr_j3 self p_2 p_3 r9 r15 b28=some r∧Le μ4 μx∧Sq μx w0 w (.blk b1 149 [.int .i64 r9.2]::rsF)) (by rintro _ _ ⟨_,_,rfl,_⟩; rfl) ?_ ?_
   ·refine creg ?_
    iterate 3 refine st ?_
    refine ld ((m8 _ ((le11.t (le17.t (le21.t le26))) _ hS.a)).one d0) ?_
    iterate 2 refine st ?_
    refine wspd (k70 d9) (q70 p9) (q70 p9) (fun h29=>?_) (fun h29=>?_)
    ·replace h:=iT h29 h
     refine sn rfl rfl (sn rfl rfl (sn rfl rfl (sn rfl rfl (sn rfl rfl ?_))))
     iterate 2 refine st ?_
     refine sn rfl rfl (sn rfl rfl ?_)
     iterate 2 refine st ?_
     refine sy rfl (sy rfl (sy rfl (wy rfl (k90 d0) (s_load ti9 (et (k90 d3)) ((m8 _ ((le11.t (le17.t (le21.t le26))) _ hS.a)).one d2) (dt (q90 p4)) ?_))))
     obtain ⟨r30,g31,h⟩:=bI h
     refine wy rfl (k90 d0) (s_callv isfn101 ef (e1 (et (k90 d4)) e0) (lex_named_w (hg.t (le11.t (le17.t (le21.t le26)))) g31 hS) ?_)
     rintro _ w5 ⟨μ5,rfl,le32,hS⟩
     refine po (sy rfl ?_)
     iterate 2 refine st ?_
     refine wnil (xl ?_)
     exact ⟨_,_,rfl,(aK50 (aK20 (aK3 (aI (aO20 (aO4 aZ)))))),_,(!r30),rfl,h,le32,hS⟩
    ·replace h:=iF h29 h
     refine sy rfl (sy rfl (sy rfl (wy rfl (k70 d9) (s_load ti3 (et (k80 d2)) ((m8 _ ((le11.t (le17.t (le21.t le26))) _ hS.a)).one d0) (dt (q80 p3)) (sy rfl ?_)))))
     iterate 2 refine st ?_
     refine wspd (k80 d6) (q80 p6) (q80 p6) (fun h33=>?_) (fun h33=>?_)
     ·replace h:=iT h33 h
      refine sn rfl rfl (sn rfl rfl ?_)
      iterate 2 refine st ?_
      refine sy rfl (sy rfl (sy rfl (wy rfl (k90 d0) (s_load ti9 (et (k90 d3)) ((m8 _ ((le11.t (le17.t (le21.t le26))) _ hS.a)).one d2) (dt (q90 p4)) ?_))))
      obtain ⟨r34,g35,h⟩:=bI h
      refine wy rfl (k90 d0) (s_callv isfn101 ef (e1 (et (k90 d4)) e0) (lex_named_w (hg.t (le11.t (le17.t (le21.t le26)))) g35 hS) ?_)
      rintro _ w6 ⟨μ6,rfl,le36,hS⟩
      refine po (sy rfl ?_)
      iterate 2 refine st ?_
      refine wnil (xl ?_)
      exact ⟨_,_,rfl,(aK50 (aK20 (aK3 (aI (aO20 (aO4 aZ)))))),_,(!r34),rfl,h,le36,hS⟩
     ·replace h:=iF h33 h
      refine sy rfl (sy rfl ?_)
      iterate 2 refine st ?_
      refine wspd (k90 d0) (q90 p0) (q90 p0) (fun h37=>?_) (fun h37=>?_)
      ·replace h:=iT h37 h
       refine sy rfl (sy rfl (sy rfl (wy rfl (k90 d0) (s_load ti9 (et (k90 d3)) ((m8 _ ((le11.t (le17.t (le21.t le26))) _ hS.a)).one d2) (dt (q90 p4)) ?_))))
       obtain ⟨r38,g39,h⟩:=bI h
       refine wy rfl (k90 d0) (s_callv isfn101 ef (e1 (et (k90 d4)) e0) (lex_named_w (hg.t (le11.t (le17.t (le21.t le26)))) g39 hS) ?_)
       rintro _ w7 ⟨μ7,rfl,le40,hS⟩
       refine po (sy rfl ?_)
       iterate 2 refine st ?_
       refine wnil (xl ?_)
       exact ⟨_,_,rfl,(aK50 (aK20 (aK3 (aI (aO20 (aO4 aZ)))))),_,(!r38),rfl,h,le40,hS⟩
      ·replace h:=iF h37 h
       refine sn rfl rfl (sn rfl rfl (sn rfl rfl (sn rfl rfl (sn rfl rfl (sn rfl rfl ?_)))))
       iterate 2 refine st ?_
       refine wnil (xl ?_)
       exact ⟨_,_,rfl,(aK50 (aK20 (aK3 (aI (aO20 (aO4 aZ)))))),_,false,rfl,h,Le.r,hS⟩
   ·rintro _ t w8 ⟨μ8,b28,rfl,h,le41,hS⟩
    unfold syn_expr_j3 at h
    refine nrm (mK50 (mK20 (mK3 (mi (mO20 (mO4 mz)))))) (xn ?_)
    refine cifb (et (k70 d3)) (xT h) fun h42=>?_
    replace h:=iF h42 h
    refine cseq (cseq ?_)
    refine ccutE (rg 99 11) (by decide) (fun m w=>∃ μx b43,m=(yK50 (yK20 (yK20 (yK8 (.i (.bool b43)::(yO10 99 (yO1 109 [])))))))∧syn_expr_j4 self p_2 p_3 r9 r15 b43=some r∧Le μ8 μx∧Sq μx w0 w (.blk b1 149 [.int .i64 r9.2]::rsF)) (by rintro _ _ ⟨_,_,rfl,_⟩; rfl) ?_ ?_
    ·refine creg ?_
     iterate 3 refine st ?_
     refine wspd (k100 d1) (q100 p1) (q100 p1) (fun h44=>?_) (fun h44=>?_)
     ·replace h:=iT h44 h
      refine sy rfl (sy rfl (sy rfl (wy rfl (k100 d1) (s_load ti191 (et (k100 d4)) ((m8 _ ((le11.t (le17.t (le21.t (le26.t le41)))) _ hS.a)).one d3) (dt (q100 p5)) (wy rfl (k100 d1) (su (u_lensl underlying191 (et (k100 d5))) (dt (q100 p6)) (sy rfl (sy rfl ?_))))))))
      iterate 2 refine st ?_
      refine wnil (xl ?_)
      exact ⟨_,_,rfl,(aK50 (aK20 (aK20 (aK8 (aI (aO10 (aO1 aZ))))))),_,(decide ((p_2.Kids.length:Int)≠r15)),rfl,h,Le.r,hS⟩
     ·replace h:=iF h44 h
      refine sn rfl rfl (sn rfl rfl (sn rfl rfl (sn rfl rfl (sn rfl rfl (sn rfl rfl (sn rfl rfl ?_))))))
      iterate 2 refine st ?_
      refine wnil (xl ?_)
      exact ⟨_,_,rfl,(aK50 (aK20 (aK20 (aK8 (aI (aO10 (aO1 aZ))))))),_,false,rfl,h,Le.r,hS⟩
    ·rintro _ t w9 ⟨μ9,b43,rfl,h,le45,hS⟩
     unfold syn_expr_j4 at h
     refine nrm (mK50 (mK20 (mK20 (mK8 (mi (mO10 (mO1 mz))))))) (xn ?_)
     refine ccutE (rg 110 10) (by decide) (fun m w=>∃ μx b46,m=(yK50 (yK20 (yK20 (yK8 (.i (.bool b46)::(yK10 (yK1 (yO10 110 []))))))))∧syn_expr_j5 self p_2 p_3 r9 b46=some r∧Le μ9 μx∧Sq μx w0 w (.blk b1 149 [.int .i64 r9.2]::rsF)) (by rintro _ _ ⟨_,_,rfl,_⟩; rfl) ?_ ?_
     ·refine cifb (et (k90 d8)) (xT h) fun h47=>?_
      replace h:=iF h47 h
      refine creg ?_
      iterate 3 refine st ?_
      refine wspd (k100 (k10 d2)) (q100 (q10 p2)) (q100 (q10 p2)) (fun h48=>?_) (fun h48=>?_)
      ·replace h:=iT h48 h
       refine sy rfl (sy rfl (sy rfl (wy rfl (k100 (k10 d2)) (s_load ti191 (et (k100 (k10 d5))) ((m8 _ ((le11.t (le17.t (le21.t (le26.t (le41.t le45))))) _ hS.a)).one d3) (dt (q100 (q10 p6))) (wy rfl (k100 (k10 d2)) (su (u_lensl underlying191 (et (k100 (k10 d6)))) (dt (q100 (q10 p7))) (sy rfl ?_)))))))
       iterate 2 refine st ?_
       refine wnil (xl ?_)
       exact ⟨_,_,rfl,(aK50 (aK20 (aK20 (aK8 (aI (aK10 (aK1 (aO10 aZ)))))))),_,(decide ((6:Int)<(p_2.Kids.length:Int))),rfl,h,Le.r,hS⟩
      ·replace h:=iF h48 h
       refine sn rfl rfl (sn rfl rfl (sn rfl rfl (sn rfl rfl (sn rfl rfl (sn rfl rfl ?_)))))
       iterate 2 refine st ?_
       refine wnil (xl ?_)
       exact ⟨_,_,rfl,(aK50 (aK20 (aK20 (aK8 (aI (aK10 (aK1 (aO10 aZ)))))))),_,false,rfl,h,Le.r,hS⟩
     ·rintro _ t w10 ⟨μ10,b46,rfl,h,le49,hS⟩
      unfold syn_expr_j5 at h
      refine nrm (mK50 (mK20 (mK20 (mK8 (mi (mK10 (mK1 (mO10 mz)))))))) (xn ?_)
      refine cifb (et (k90 d8)) (xT h) fun h50=>?_
      replace h:=iF h50 h
      refine cskip ?_
      refine (fun h=>bn (xn h)) ?_
      refine cseq (nz ?_)
      iterate 3 refine st ?_
      refine ld ((m8 _ ((le11.t (le17.t (le21.t (le26.t (le41.t (le45.t le49)))))) _ hS.a)).one d3) (wl (su (u_lensl underlying191 (et (k100 (k20 d3)))) (dt (q100 (q20 p4))) (st (nw (cblock ?_)))))
      refine cloopE ([6]++rg 9 2++rg 126 16) (by decide) (fun n m w=>∃ μx i69 i70,m=(yK6 (yO1 6 (yK2 (yO2 9 (yK50 (yK50 (yK10 (yK4 (.i (.int .i64 i69)::(yO10 126 (yO6 136 [])))))))))))∧syn_expr_l1 self p_2 p_3 n i69 i70=some r∧Le μ10 μx∧Sq μx w0 w (.blk b1 149 [.int .i64 i70]::rsF)) (by rintro _ _ _ ⟨_,_,_,rfl,_⟩; rfl) _ _ (aK6 (aO1 (aK2 (aO2 (aK50 (aK50 (aK10 (aK4 (aI (aO10 (aO6 aZ))))))))))) ⟨_,0,r9.2,rfl,h,Le.r,hS⟩ ?_
      rintro n_1 _ t w11 ⟨μ11,i69,i70,rfl,h,le89,hS⟩
      cases n_1 with
      | zero=>cases h
      | succ n_1 =>
      unfold syn_expr_l1 at h
      refine cnrm (mK6 (mO1 (mK2 (mO2 (mK50 (mK50 (mK10 (mK4 (mi (mO10 (mO6 mz))))))))))) (nz (st (ny ?_)))
      refine cifd (et (k100 (k20 d6))) (fun h90=>?_) (fun h90=>?_)
      ·replace h:=iT h90 h
       refine cskip (xn (cseq (cblock (nz ?_))))
       iterate 2 refine st ?_
       refine nx ?_
       iterate 4 refine st ?_
       refine ld ((m8 _ ((le11.t (le17.t (le21.t (le26.t (le41.t (le45.t (le49.t le89))))))) _ hS.a)).one d3) (st ?_)
       obtain ⟨x91,g92,h⟩:=bI h
       obtain ⟨b93,o94,cs95,e96,f97,m98⟩:=SlR.elem (m7.up (le11.t (le17.t (le21.t (le26.t (le41.t (le45.t (le49.t le89)))))))) g92
       obtain ⟨a99,c100,rfl,m101⟩:=TExpr.o m98
       refine wl (su (u_iax underlying191 ti193 (et (k100 (k30 d2))) (et (k100 (k30 d3))) e96) (dt (q100 (q30 p4))) (st ?_))
       obtain ⟨i102,g103,h⟩:=bI h
       refine wl (su (u_addc (et (k100 (k30 d5))) ec g103) (dt (q100 (q30 p6))) ?_)
       obtain ⟨r104,g105,h⟩:=bI h
       refine ca (IH.syn_expr (hg.t (le11.t (le17.t (le21.t (le26.t (le41.t (le45.t (le49.t le89)))))))) m101 f97 g105 hS) ?_
       rintro _ w12 ⟨μ12,rfl,le106,hS⟩
       refine po (st (nx ?_))
       iterate 2 refine st ?_
       refine nw ?_
       refine cifd (et (k100 (k30 d9))) (xT h) fun h107=>?_
       replace h:=iF h107 h
       refine cskip ?_
       refine (fun h=>bn (xn h)) ?_
       refine creg ?_
       obtain ⟨i108,g109,h⟩:=bI h
       refine wl (su (u_addc (et (k100 (k20 d5))) ec g109) (dt (q100 (q40 p1))) (st (wnil (xl ?_))))
       exact ⟨n_1,_,_,rfl,(aK6 (aO1 (aK2 (aO2 (aK50 (aK50 (aK10 (aK4 (aI (aO10 (aO6 aZ))))))))))),⟨_,i108,r104.2,rfl,h,(le89.t le106),hS⟩,Nat.lt_succ_self _⟩
      ·replace h:=iF h90 h
       refine cexit ?_
       refine (fun h=>xe (xe (bh h))) ?_
       refine xn (nz (st (nw (cret ?_))))
       obtain rfl:=oI h
       refine ret1 rfl d6 ?_
       exact ⟨_,rfl,(le11.t (le17.t (le21.t (le26.t (le41.t (le45.t (le49.t le89))))))),hS⟩
theorem SynExpr_sound:∀ n,SynExprSound (SynExpr_run n)
  | 0=>⟨(by intros; rename_i h _; cases h)⟩
  | n+1=>⟨syn_expr_w (SynExpr_sound n)⟩
structure SynStatSound (sf:SynStat):Prop where
  syn_stats:∀ {μ0:M} {w0 w:World} {rsF:List Res} (hg:Le Gm μ0) {b1:Nat} {node_2:Int} {p_2:List TStat} {a3:Option Addr} {c4:Nat} {p_3:Int} {r:Int×Int} (m5:Sl μ0 a3 c4 p_2) (h:sf.syn_stats node_2 p_2 p_3=some r) (hS:Sq μ0 w0 w (.blk b1 149 [.int .i64 node_2]::rsF)),CallsV prog 106 [.pointer (some ⟨b1,0,none⟩),.slice a3 p_2.length c4,.int .i64 p_3] w (fun v w'=>∃ (μ':M) ,v=.int .i64 r.1∧Le μ0 μ'∧Sq μ' w0 w' (.blk b1 149 [.int .i64 r.2]::rsF))
  syn_stat:∀ {μ0:M} {w0 w:World} {rsF:List Res} (hg:Le Gm μ0) {b1:Nat} {node_2:Int} {p_2:TStat} {b3 o4:Nat} {a5:Option Addr} {c6:Nat} {a8:Option Addr} {c9:Nat} {a11:Option Addr} {c12:Nat} {p_3:Int} {r:Int×Int} (m7:Sl μ0 a5 c6 p_2.X.Kids) (m10:Sl μ0 a8 c9 p_2.Body) (m13:Sl μ0 a11 c12 p_2.Else) (m14:At μ0 b3 o4 [.int .i64 p_2.Kind,S p_2.Name,.int .i64 p_2.X.Kind,.int .i64 p_2.X.N,S p_2.X.Name,.slice a5 p_2.X.Kids.length c6,.slice a8 p_2.Body.length c9,.slice a11 p_2.Else.length c12]) (h:sf.syn_stat node_2 p_2 p_3=some r) (hS:Sq μ0 w0 w (.blk b1 149 [.int .i64 node_2]::rsF)),CallsV prog 137 [.pointer (some ⟨b1,0,none⟩),.pointer (some ⟨b3,o4,none⟩),.int .i64 p_3] w (fun v w'=>∃ (μ':M) ,v=.int .i64 r.1∧Le μ0 μ'∧Sq μ' w0 w' (.blk b1 149 [.int .i64 r.2]::rsF))
theorem syn_stats_w {self:SynStat} (IH:SynStatSound self) {μ0:M} {w0 w:World} {rsF:List Res} (hg:Le Gm μ0) {b1:Nat} {node_2:Int} {p_2:List TStat} {a3:Option Addr} {c4:Nat} {p_3:Int} {r:Int×Int} (m5:Sl μ0 a3 c4 p_2) (h:syn_stats self node_2 p_2 p_3=some r) (hS:Sq μ0 w0 w (.blk b1 149 [.int .i64 node_2]::rsF)):CallsV prog 106 [.pointer (some ⟨b1,0,none⟩),.slice a3 p_2.length c4,.int .i64 p_3] w (fun v w'=>∃ (μ':M) ,v=.int .i64 r.1∧Le μ0 μ'∧Sq μ' w0 w' (.blk b1 149 [.int .i64 r.2]::rsF)):=by
 unfold syn_stats at h
 refine enter func106 rfl (frm:=_::_::_::u2 (u2 (u20 []))) rfl (nz (st (ny (nz (st (wl (su (u_lensl underlying89 (et d9)) (dt (q10 p0)) (st (nw ?_)))))))))
 refine cifd (et (k10 d1)) (xT h) fun h6=>?_
 replace h:=iF h6 h
 refine cskip (xn (cseq (nz (st (wl (su (u_lensl underlying89 (et (k10 d2))) (dt (q10 p3)) (st (nw (cblock ?_)))))))))
 refine cloopE (rg 6 3++rg 15 12) (by decide) (fun n m w=>∃ μx i29 i30,m=(yK6 (yO3 6 (yK5 (.i (.int .i64 i29)::(yO10 15 (yO2 25 []))))))∧syn_stats_l1 self p_2 p_3 n i29 i30=some r∧Le μ0 μx∧Sq μx w0 w (.blk b1 149 [.int .i64 i30]::rsF)) (by rintro _ _ _ ⟨_,_,_,rfl,_⟩; rfl) _ _ (aK6 (aO3 (aK5 (aI (aO10 (aO2 aZ)))))) ⟨_,0,node_2,rfl,h,Le.r,hS⟩ ?_
 rintro n_1 _ t w1 ⟨μ1,i29,i30,rfl,h,le53,hS⟩
 cases n_1 with
 | zero=>cases h
 | succ n_1 =>
 unfold syn_stats_l1 at h
 refine cnrm (mK6 (mO3 (mK5 (mi (mO10 (mO2 mz)))))) (nz (st (ny ?_)))
 refine cifd (et (k10 d5)) (fun h54=>?_) (fun h54=>?_)
 ·replace h:=iT h54 h
  refine cskip (xn (cseq (cblock (nz ?_))))
  iterate 2 refine st ?_
  refine nx ?_
  iterate 3 refine st ?_
  obtain ⟨x55,g56,h⟩:=bI h
  obtain ⟨b57,o58,cs59,e60,f61,m62⟩:=SlR.elem (m5.up le53) g56
  obtain ⟨a63,c64,a66,c67,a69,c70,rfl,m65,m68,m71⟩:=TStat.o m62
  refine wl (su (u_iax underlying89 ti195 (et (k10 d8)) (et (k10 d9)) e60) (dt (q20 p0)) (st ?_))
  obtain ⟨r72,g73,h⟩:=bI h
  refine ca (IH.syn_stat (hg.t le53) m65 m68 m71 f61 g73 hS) ?_
  rintro _ w2 ⟨μ2,rfl,le74,hS⟩
  refine po (st (nx ?_))
  iterate 2 refine st ?_
  refine nw ?_
  refine cifd (et (k20 d4)) (xT h) fun h75=>?_
  replace h:=iF h75 h
  refine cskip ?_
  refine (fun h=>bn (xn h)) ?_
  refine creg ?_
  obtain ⟨i76,g77,h⟩:=bI h
  refine wl (su (u_addc (et (k10 d4)) ec g77) (dt (q20 p6)) (st (wnil (xl ?_))))
  exact ⟨n_1,_,_,rfl,(aK6 (aO3 (aK5 (aI (aO10 (aO2 aZ)))))),⟨_,i76,r72.2,rfl,h,(le53.t le74),hS⟩,Nat.lt_succ_self _⟩
 ·replace h:=iF h54 h
  refine cexit ?_
  refine (fun h=>xe (xe (bh h))) ?_
  refine xn (nz (st (nw (cret ?_))))
  obtain rfl:=oI h
  refine ret1 rfl d6 ?_
  exact ⟨_,rfl,le53,hS⟩
theorem syn_stat_w {self:SynStat} (IH:SynStatSound self) {fu:Nat} {μ0:M} {w0 w:World} {rsF:List Res} (hg:Le Gm μ0) {b1:Nat} {node_2:Int} {p_2:TStat} {b3 o4:Nat} {a5:Option Addr} {c6:Nat} {a8:Option Addr} {c9:Nat} {a11:Option Addr} {c12:Nat} {p_3:Int} {r:Int×Int} (m7:Sl μ0 a5 c6 p_2.X.Kids) (m10:Sl μ0 a8 c9 p_2.Body) (m13:Sl μ0 a11 c12 p_2.Else) (m14:At μ0 b3 o4 [.int .i64 p_2.Kind,S p_2.Name,.int .i64 p_2.X.Kind,.int .i64 p_2.X.N,S p_2.X.Name,.slice a5 p_2.X.Kids.length c6,.slice a8 p_2.Body.length c9,.slice a11 p_2.Else.length c12]) (h:syn_stat fu self node_2 p_2 p_3=some r) (hS:Sq μ0 w0 w (.blk b1 149 [.int .i64 node_2]::rsF)):CallsV prog 137 [.pointer (some ⟨b1,0,none⟩),.pointer (some ⟨b3,o4,none⟩),.int .i64 p_3] w (fun v w'=>∃ (μ':M) ,v=.int .i64 r.1∧Le μ0 μ'∧Sq μ' w0 w' (.blk b1 149 [.int .i64 r.2]::rsF)):=by
 unfold syn_stat at h
 refine enter func137 rfl (frm:=_::_::_::u1 (u5 (u50 (u50 [])))) rfl (nz (st (ny (nz ?_))))
 iterate 2 refine st ?_
 obtain ⟨r15,g16,h⟩:=bI h
 refine ca (syn_node_w hg g16 hS) ?_
 rintro _ w1 ⟨μ1,rfl,le17,hS⟩
 refine po (st (nx ?_))
 iterate 2 refine st ?_
 refine nw ?_
 refine cifd (et (k10 d4)) (xT h) fun h18=>?_
 replace h:=iF h18 h
 refine cskip (xn (cseq (cblock (nz ?_))))
 iterate 3 refine st ?_
 refine ld ((m14 _ (le17 _ hS.a)).one d0) ?_
 iterate 2 refine st ?_
 refine wspd (k20 d2) (q20 p2) (q20 p2) (xT h) fun h19=>?_
 replace h:=iF h19 h
 refine sy rfl (sy rfl (sy rfl (wy rfl (k20 d2) (s_load ti3 (et (k20 d5)) ((m14 _ (le17 _ hS.a)).one d0) (dt (q20 p6)) (sy rfl ?_)))))
 iterate 2 refine st ?_
 refine nw ?_
 refine cifd (et (k10 d6)) (xT h) fun h20=>?_
 replace h:=iF h20 h
 refine cseq ?_
 refine ccutE (rg 30 27) (by decide +kernel) (fun m w=>∃ μx b21,m=(yK20 (yK9 (.i (.bool b21)::(yO20 30 (yO7 50 [])))))∧syn_stat_j1 fu self p_2 p_3 r15 b21=some r∧Le μ1 μx∧Sq μx w0 w (.blk b1 149 [.int .i64 r15.2]::rsF)) (by rintro _ _ ⟨_,_,rfl,_⟩; rfl) ?_ ?_
 ·refine creg ?_
  iterate 3 refine st ?_
  refine ld ((m14 _ (le17 _ hS.a)).one d0) ?_
  iterate 2 refine st ?_
  refine wspd (k30 d5) (q30 p5) (q30 p5) (fun h22=>?_) (fun h22=>?_)
  ·replace h:=iT h22 h
   refine sn rfl rfl (sn rfl rfl (sn rfl rfl (sn rfl rfl (sn rfl rfl ?_))))
   iterate 2 refine st ?_
   refine sn rfl rfl (sn rfl rfl (sn rfl rfl (sn rfl rfl (sn rfl rfl ?_))))
   iterate 2 refine st ?_
   refine sy rfl (sy rfl (sy rfl (wy rfl (k40 d9) (s_load ti9 (et (k50 d2)) ((m14 _ (le17 _ hS.a)).one d1) (dt (q50 p3)) ?_))))
   obtain ⟨r23,g24,h⟩:=bI h
   refine wy rfl (k40 d9) (s_callv isfn101 ef (e1 (et (k50 d3)) e0) (lex_named_w (hg.t le17) g24 hS) ?_)
   rintro _ w2 ⟨μ2,rfl,le25,hS⟩
   refine po (sy rfl ?_)
   iterate 2 refine st ?_
   refine wnil (xl ?_)
   exact ⟨_,_,rfl,(aK20 (aK9 (aI (aO20 (aO7 aZ))))),_,(!r23),rfl,h,le25,hS⟩
  ·replace h:=iF h22 h
   refine sy rfl (sy rfl (sy rfl (wy rfl (k30 d5) (s_load ti3 (et (k30 d8)) ((m14 _ (le17 _ hS.a)).one d0) (dt (q30 p9)) (sy rfl ?_)))))
   iterate 2 refine st ?_
   refine wspd (k40 d2) (q40 p2) (q40 p2) (fun h26=>?_) (fun h26=>?_)
   ·replace h:=iT h26 h
    refine sn rfl rfl (sn rfl rfl (sn rfl rfl (sn rfl rfl (sn rfl rfl ?_))))
    iterate 2 refine st ?_
    refine sy rfl (sy rfl (sy rfl (wy rfl (k40 d9) (s_load ti9 (et (k50 d2)) ((m14 _ (le17 _ hS.a)).one d1) (dt (q50 p3)) ?_))))
    obtain ⟨r27,g28,h⟩:=bI h
    refine wy rfl (k40 d9) (s_callv isfn101 ef (e1 (et (k50 d3)) e0) (lex_named_w (hg.t le17) g28 hS) ?_)
    rintro _ w3 ⟨μ3,rfl,le29,hS⟩
    refine po (sy rfl ?_)
    iterate 2 refine st ?_
    refine wnil (xl ?_)
    exact ⟨_,_,rfl,(aK20 (aK9 (aI (aO20 (aO7 aZ))))),_,(!r27),rfl,h,le29,hS⟩
   ·replace h:=iF h26 h
    refine sy rfl (sy rfl (sy rfl (wy rfl (k40 d2) (s_load ti3 (et (k40 d5)) ((m14 _ (le17 _ hS.a)).one d0) (dt (q40 p6)) (sy rfl ?_)))))
    iterate 2 refine st ?_
    refine wspd (k40 d9) (q40 p9) (q40 p9) (xT h) fun h30=>?_
    replace h:=iF h30 h
    refine sn rfl rfl (sn rfl rfl (sn rfl rfl (sn rfl rfl (sn rfl rfl (sn rfl rfl ?_)))))
    iterate 2 refine st ?_
    refine wnil (xl ?_)
    exact ⟨_,_,rfl,(aK20 (aK9 (aI (aO20 (aO7 aZ))))),_,false,rfl,h,Le.r,hS⟩
 ·rintro _ t w4 ⟨μ4,b21,rfl,h,le31,hS⟩
  unfold syn_stat_j1 at h
  refine nrm (mK20 (mK9 (mi (mO20 (mO7 mz))))) (xn ?_)
  refine cifb (et (k20 d9)) (xT h) fun h32=>?_
  replace h:=iF h32 h
  refine nz ?_
  iterate 3 refine st ?_
  refine ld ((m14 _ ((le17.t le31) _ hS.a)).one d0) ?_
  iterate 2 refine st ?_
  refine nw ?_
  refine cifd (et (k50 d7)) (xT h) fun h33=>?_
  replace h:=iF h33 h
  refine cskip ?_
  refine (fun h=>bn (xn h)) ?_
  refine cseq (nz ?_)
  iterate 5 refine st ?_
  obtain ⟨i34,g35,h⟩:=bI h
  refine wl (su (u_addc (et (k60 d7)) ec g35) (dt (q60 p8)) ?_)
  obtain ⟨r36,g37,h⟩:=bI h
  refine ca ((SynExpr_sound fu).syn_expr (hg.t (le17.t le31)) (m7.up (le17.t le31)) ((m14.up (le17.t le31)).sb 2 4) g37 hS) ?_
  rintro _ w5 ⟨μ5,rfl,le38,hS⟩
  refine po (st (nx ?_))
  iterate 2 refine st ?_
  refine nw ?_
  refine cifd (et (k70 d1)) (xT h) fun h39=>?_
  replace h:=iF h39 h
  refine cskip (xn (cseq (cseq ?_)))
  refine ccutE (rg 73 11) (by decide) (fun m w=>∃ μx b40,m=(yK50 (yK20 (yK3 (yO10 73 (yO1 83 (.i (.bool b40)::[]))))))∧syn_stat_j2 self p_2 p_3 r36 b40=some r∧Le μ5 μx∧Sq μx w0 w (.blk b1 149 [.int .i64 r36.2]::rsF)) (by rintro _ _ ⟨_,_,rfl,_⟩; rfl) ?_ ?_
  ·refine creg ?_
   iterate 3 refine st ?_
   refine ld ((m14 _ ((le17.t (le31.t le38)) _ hS.a)).one d0) ?_
   iterate 2 refine st ?_
   refine wspd (k70 d8) (q70 p8) (q70 p8) (fun h41=>?_) (fun h41=>?_)
   ·replace h:=iT h41 h
    refine sn rfl rfl (sn rfl rfl (sn rfl rfl (sn rfl rfl (sn rfl rfl (st (wnil (xl ?_)))))))
    exact ⟨_,_,rfl,(aK50 (aK20 (aK3 (aO10 (aO1 (aI aZ)))))),_,true,rfl,h,Le.r,hS⟩
   ·replace h:=iF h41 h
    refine sy rfl (sy rfl (sy rfl (wy rfl (k70 d8) (s_load ti3 (et (k80 d1)) ((m14 _ ((le17.t (le31.t le38)) _ hS.a)).one d0) (dt (q80 p2)) (sy rfl (st (wnil (xl ?_))))))))
    exact ⟨_,_,rfl,(aK50 (aK20 (aK3 (aO10 (aO1 (aI aZ)))))),_,(decide (p_2.Kind=4)),rfl,h,Le.r,hS⟩
  ·rintro _ t w6 ⟨μ6,b40,rfl,h,le42,hS⟩
   unfold syn_stat_j2 at h
   refine nrm (mK50 (mK20 (mK3 (mO10 (mO1 (mi mz)))))) (xn ?_)
   refine ccutE ([6]++[9]++rg 85 11) (by decide) (fun m w=>∃ μx i43,m=(yK6 (yO1 6 (yK2 (yO1 9 (yK50 (yK20 (yK5 (yO10 85 (yO1 95 [])))))))))∧syn_stat_j3 self p_2 p_3 i43=some r∧Le μ6 μx∧Sq μx w0 w (.blk b1 149 [.int .i64 i43]::rsF)) (by rintro _ _ ⟨_,_,rfl,_⟩; rfl) ?_ ?_
   ·refine cifb (et (k80 d4)) (fun h44=>?_) (fun h44=>?_)
    ·replace h:=iT h44 h
     refine nz ?_
     iterate 4 refine st ?_
     refine ld ((m14 _ ((le17.t (le31.t (le38.t le42))) _ hS.a)).one d6) (st ?_)
     obtain ⟨i45,g46,h⟩:=bI h
     refine wl (su (u_addc (et (k90 d0)) ec g46) (dt (q90 p1)) ?_)
     obtain ⟨r47,g48,h⟩:=bI h
     refine ca (IH.syn_stats (hg.t (le17.t (le31.t (le38.t le42)))) (m10.up (le17.t (le31.t (le38.t le42)))) g48 hS) ?_
     rintro _ w7 ⟨μ7,rfl,le49,hS⟩
     refine po (st (nx ?_))
     iterate 2 refine st ?_
     refine nw ?_
     refine cifd (et (k90 d4)) (xT h) fun h50=>?_
     replace h:=iF h50 h
     refine cskip (xl ?_)
     exact ⟨_,_,rfl,(aK6 (aO1 (aK2 (aO1 (aK50 (aK20 (aK5 (aO10 (aO1 aZ))))))))),_,r47.2,rfl,h,le49,hS⟩
    ·replace h:=iF h44 h
     refine cskip (xl ?_)
     exact ⟨_,_,rfl,(aK6 (aO1 (aK2 (aO1 (aK50 (aK20 (aK5 (aO10 (aO1 aZ))))))))),_,r36.2,rfl,h,Le.r,hS⟩
   ·rintro _ t w8 ⟨μ8,i43,rfl,h,le51,hS⟩
    unfold syn_stat_j3 at h
    refine nrm (mK6 (mO1 (mK2 (mO1 (mK50 (mK20 (mK5 (mO10 (mO1 mz))))))))) (xn (cseq (nz ?_)))
    iterate 3 refine st ?_
    refine ld ((m14 _ ((le17.t (le31.t (le38.t (le42.t le51)))) _ hS.a)).one d0) (st (nw ?_))
    refine cifd (et (k100 d0)) (fun h52=>?_) (fun h52=>?_)
    ·replace h:=iT h52 h
     refine nz ?_
     iterate 4 refine st ?_
     refine ld ((m14 _ ((le17.t (le31.t (le38.t (le42.t le51)))) _ hS.a)).one d7) (st ?_)
     obtain ⟨i53,g54,h⟩:=bI h
     refine wl (su (u_addc (et (k100 d6)) ec g54) (dt (q100 p7)) ?_)
     obtain ⟨r55,g56,h⟩:=bI h
     refine ca (IH.syn_stats (hg.t (le17.t (le31.t (le38.t (le42.t le51))))) (m13.up (le17.t (le31.t (le38.t (le42.t le51))))) g56 hS) ?_
     rintro _ w9 ⟨μ9,rfl,le57,hS⟩
     refine po (st (nw (cret (xr ?_))))
     obtain rfl:=oI h
     refine ret1 rfl d6 ?_
     exact ⟨_,rfl,(le17.t (le31.t (le38.t (le42.t (le51.t le57))))),hS⟩
    ·replace h:=iF h52 h
     refine cskip (xn (nz (st (nw (cret ?_)))))
     obtain rfl:=oI h
     refine ret1 rfl d6 ?_
     exact ⟨_,rfl,(le17.t (le31.t (le38.t (le42.t le51)))),hS⟩
theorem SynStat_sound:∀ n,SynStatSound (SynStat_run n)
  | 0=>⟨(by intros; rename_i h _; cases h),(by intros; rename_i h _; cases h)⟩
  | n+1=>⟨syn_stats_w (SynStat_sound n),syn_stat_w (SynStat_sound n)⟩
theorem syn_def_w (hg:Le Gm μ0) {node_2:Int} {p_2:TDef} {r:Int×Int} (m7:Sl μ0 a5 c6 p_2.Params) (m10:Sl μ0 a8 c9 p_2.Body) (m11:At μ0 b3 o4 [.int .i64 p_2.Kind,S p_2.Name,.int .i64 p_2.Typ.Kind,S p_2.Typ.Gen,.int .i64 p_2.Takes.Kind,S p_2.Takes.Gen,.int .i64 p_2.Cap,.slice a5 p_2.Params.length c6,.slice a8 p_2.Body.length c9]) (h:syn_def fu node_2 p_2=some r) (hS:Sq μ0 w0 w (.blk b1 149 [.int .i64 node_2]::rsF)):CallsV prog 70 [.pointer (some ⟨b1,0,none⟩),.pointer (some ⟨b3,o4,none⟩)] w (fun v w'=>∃ (μ':M) ,v=.int .i64 r.1∧Le μ0 μ'∧Sq μ' w0 w' (.blk b1 149 [.int .i64 r.2]::rsF)):=by
 unfold syn_def at h
 refine enter func70 rfl (frm:=_::_::u2 (u2 (u5 (u10 (u50 (u50 [])))))) rfl (nz (st (ny (nz (st ?_)))))
 obtain ⟨r12,g13,h⟩:=bI h
 refine ca (syn_node_w hg g13 hS) ?_
 rintro _ w1 ⟨μ1,rfl,le14,hS⟩
 refine po (st (nx ?_))
 iterate 2 refine st ?_
 refine nw ?_
 refine cifd (et (k10 d4)) (xT h) fun h15=>?_
 replace h:=iF h15 h
 refine cskip (xn (cseq (nz ?_)))
 iterate 3 refine st ?_
 refine ld ((m11 _ (le14 _ hS.a)).one d0) ?_
 iterate 2 refine st ?_
 refine wspd (k20 d1) (q20 p1) (q20 p1) (xT h) fun h16=>?_
 replace h:=iF h16 h
 refine sy rfl (sy rfl (sy rfl (wy rfl (k20 d1) (s_load ti3 (et (k20 d4)) ((m11 _ (le14 _ hS.a)).one d0) (dt (q20 p5)) (sy rfl (st (nw ?_)))))))
 refine cifd (et (k20 d7)) (xT h) fun h17=>?_
 replace h:=iF h17 h
 refine cskip (xn (cseq (nz ?_)))
 iterate 3 refine st ?_
 refine ld ((m11 _ (le14 _ hS.a)).one d1) ?_
 obtain ⟨r18,g19,h⟩:=bI h
 refine ca (lex_named_w (hg.t le14) g19 hS) ?_
 rintro _ w2 ⟨μ2,rfl,le20,hS⟩
 refine po (st (nw ?_))
 refine cifnb (et (k30 d3)) (xF h) fun h21=>?_
 replace h:=iT h21 h
 refine cskip (xn (cseq (cseq ?_)))
 refine ccutE (rg 34 11) (by decide) (fun m w=>∃ μx b22,m=(yK20 (yK10 (yK4 (yO10 34 (yO1 44 (.i (.bool b22)::[]))))))∧syn_def_j1 fu p_2 r12 b22=some r∧Le μ2 μx∧Sq μx w0 w (.blk b1 149 [.int .i64 r12.2]::rsF)) (by rintro _ _ ⟨_,_,rfl,_⟩; rfl) ?_ ?_
 ·refine creg ?_
  iterate 3 refine st ?_
  refine ld ((m11 _ ((le14.t le20) _ hS.a)).one d0) ?_
  iterate 2 refine st ?_
  refine wspd (k30 d9) (q30 p9) (q30 p9) (fun h23=>?_) (fun h23=>?_)
  ·replace h:=iT h23 h
   refine sn rfl rfl (sn rfl rfl (sn rfl rfl (sn rfl rfl (sn rfl rfl (st (wnil (xl ?_)))))))
   exact ⟨_,_,rfl,(aK20 (aK10 (aK4 (aO10 (aO1 (aI aZ)))))),_,true,rfl,h,Le.r,hS⟩
  ·replace h:=iF h23 h
   refine sy rfl (sy rfl (sy rfl (wy rfl (k30 d9) (s_load ti3 (et (k40 d2)) ((m11 _ ((le14.t le20) _ hS.a)).one d0) (dt (q40 p3)) (sy rfl (st (wnil (xl ?_))))))))
   exact ⟨_,_,rfl,(aK20 (aK10 (aK4 (aO10 (aO1 (aI aZ)))))),_,(decide (p_2.Kind=3)),rfl,h,Le.r,hS⟩
 ·rintro _ t w3 ⟨μ3,b22,rfl,h,le24,hS⟩
  unfold syn_def_j1 at h
  refine nrm (mK20 (mK10 (mK4 (mO10 (mO1 (mi mz)))))) (xn ?_)
  refine ccutE ([4]++rg 7 2++rg 46 26) (by decide +kernel) (fun m w=>∃ (μx:M) ,m=(yK4 (yO1 4 (yK2 (yO2 7 (yK20 (yK10 (yK7 (yO20 46 (yO6 66 [])))))))))∧syn_def_j2 fu p_2 r12 =some r∧Le μ3 μx∧Sq μx w0 w (.blk b1 149 [.int .i64 r12.2]::rsF)) (by rintro _ _ ⟨_,rfl,_⟩; rfl) ?_ ?_
  ·refine cifb (et (k40 d5)) (fun h25=>?_) (fun h25=>?_)
   ·replace h:=iT h25 h
    refine cseq (nz ?_)
    iterate 3 refine st ?_
    refine ld ((m11 _ ((le14.t (le20.t le24)) _ hS.a)).one d7) (wl (su (u_lensl underlying88 (et (k40 d9))) (dt (q50 p0)) (st (nw ?_))))
    refine cifd (et (k50 d1)) (xT h) fun h26=>?_
    replace h:=iF h26 h
    refine cskip (xn (nz ?_))
    iterate 3 refine st ?_
    refine ld ((m11 _ ((le14.t (le20.t le24)) _ hS.a)).one d7) (wl (su (u_lensl underlying88 (et (k50 d5))) (dt (q50 p6)) (st (nw (cblock ?_)))))
    refine cloopE ([4]++rg 7 2++rg 58 14) (by decide) (fun n m w=>∃ μx i45,m=(yK4 (yO1 4 (yK2 (yO2 7 (yK20 (yK20 (yK8 (.i (.int .i64 i45)::(yO10 58 (yO4 68 []))))))))))∧syn_def_l1 fu p_2 r12 n i45=some r∧Le μ3 μx∧Sq μx w0 w (.blk b1 149 [.int .i64 r12.2]::rsF)) (by rintro _ _ _ ⟨_,_,rfl,_⟩; rfl) _ _ (aK4 (aO1 (aK2 (aO2 (aK20 (aK20 (aK8 (aI (aO10 (aO4 aZ)))))))))) ⟨_,0,rfl,h,Le.r,hS⟩ ?_
    rintro n_1 _ t w4 ⟨μ4,i45,rfl,h,le64,hS⟩
    cases n_1 with
    | zero=>cases h
    | succ n_1 =>
    unfold syn_def_l1 at h
    refine cnrm (mK4 (mO1 (mK2 (mO2 (mK20 (mK20 (mK8 (mi (mO10 (mO4 mz)))))))))) (nz (st (ny ?_)))
    refine cifd (et (k50 d8)) (fun h65=>?_) (fun h65=>?_)
    ·replace h:=iT h65 h
     refine cskip (xn (cseq (cblock (nz ?_))))
     obtain ⟨x66,g67,h⟩:=bI h
     obtain ⟨b68,o69,cs70,e71,f72,m73⟩:=SlR.elem (m7.up (le14.t (le20.t (le24.t le64)))) g67
     obtain rfl:=m73
     refine wl (su (u_iax underlying88 ti159 (et (k50 d5)) (et (k50 d7)) e71) (dt (q50 p9)) (lds (f72 _ hS.a) rfl ?_))
     refine wl (s_alloc ti159 hS ?_); clear hS; intro b74 w5 hb75 hS; refine po ?_
     refine wl (s_storeA ti159 (et d7) (et (k60 d0)) rfl rfl hS d0 rfl p0 dn ?_)
     clear hS; intro w6 hS
     refine ny (nz (st (ld ((hS.blk d0).cell d0) ?_)))
     obtain ⟨r76,g77,h⟩:=bI h
     refine ca (lex_named_w (hg.t (le14.t (le20.t (le24.t le64)))) g77 hS) ?_
     rintro _ w7 ⟨μ5,rfl,le78,hS⟩
     refine po (st (nw ?_))
     refine cifnb (et (k60 d4)) (xF h) fun h79=>?_
     replace h:=iT h79 h
     refine cskip (xn (nz (st (lds ((hS.blk d0).cellsAt (Sb.s d1 (Sb.s d2 Sb.z))) rfl ?_))))
     obtain ⟨r80,g81,h⟩:=bI h
     refine ca (syn_typ_w (hg.t (le14.t (le20.t (le24.t (le64.t le78))))) g81 hS) ?_
     rintro _ w8 ⟨μ6,rfl,le82,hS⟩
     refine po (st (nx ?_))
     iterate 2 refine st ?_
     refine nw ?_
     refine cifd (et (k60 d9)) (xT h) fun h83=>?_
     replace h:=iF h83 h
     refine cskip ?_
     refine (fun h=>bn (xn h)) ?_
     refine creg ?_
     obtain ⟨i84,g85,h⟩:=bI h
     refine wl (su (u_addc (et (k50 d7)) ec g85) (dt (q70 p1)) (st (wnil (xl ?_))))
     replace hS:=hS.drop Rm.z
     exact ⟨n_1,_,_,rfl,(aK4 (aO1 (aK2 (aO2 (aK20 (aK20 (aK8 (aI (aO10 (aO4 aZ)))))))))),⟨_,i84,rfl,h,(le64.t (le78.t le82)),hS⟩,Nat.lt_succ_self _⟩
    ·replace h:=iF h65 h
     refine cexit ?_
     refine (fun h=>xe (xe (bh h))) ?_
     refine xl ?_
     exact ⟨_,_,rfl,(aK4 (aO1 (aK2 (aO2 (aK20 (aK10 (aK7 (aO20 (aO6 aZ))))))))),_,rfl,h,le64,hS⟩
   ·replace h:=iF h25 h
    refine cskip (xl ?_)
    exact ⟨_,_,rfl,(aK4 (aO1 (aK2 (aO2 (aK20 (aK10 (aK7 (aO20 (aO6 aZ))))))))),_,rfl,h,Le.r,hS⟩
  ·rintro _ t w9 ⟨μ7,rfl,h,le86,hS⟩
   unfold syn_def_j2 at h
   refine nrm (mK4 (mO1 (mK2 (mO2 (mK20 (mK10 (mK7 (mO20 (mO6 mz))))))))) (xn (cseq (nz ?_)))
   iterate 3 refine st ?_
   refine ld ((m11 _ ((le14.t (le20.t (le24.t le86))) _ hS.a)).one d0) (st (nw ?_))
   refine cifd (et (k70 d6)) (xT h) fun h87=>?_
   replace h:=iF h87 h
   refine cskip (xn (cseq (nz ?_)))
   iterate 3 refine st ?_
   refine ld ((m11 _ ((le14.t (le20.t (le24.t le86))) _ hS.a)).one d0) (st (nw ?_))
   refine ccutE ([4]++[10]++rg 90 8) (by decide) (fun m w=>∃ (μx:M) ,m=(yK4 (yO1 4 (yK5 (yO1 10 (yK50 (yK20 (yK9 (yO8 90 []))))))))∧syn_def_j3 fu p_2 r12 =some r∧Le μ7 μx∧Sq μx w0 w (.blk b1 149 [.int .i64 r12.2]::rsF)) (by rintro _ _ ⟨_,rfl,_⟩; rfl) ?_ ?_
   ·refine cifd (et (k80 d9)) (fun h88=>?_) (fun h88=>?_)
    ·replace h:=iT h88 h
     refine nz ?_
     iterate 3 refine st ?_
     refine lds ((m11 _ ((le14.t (le20.t (le24.t le86))) _ hS.a)).sb 2 2) rfl ?_
     obtain ⟨r89,g90,h⟩:=bI h
     refine ca (syn_typ_w (hg.t (le14.t (le20.t (le24.t le86)))) g90 hS) ?_
     rintro _ w10 ⟨μ8,rfl,le91,hS⟩
     refine po (st (nx ?_))
     iterate 2 refine st ?_
     refine nw ?_
     refine cifd (et (k90 d6)) (xT h) fun h92=>?_
     replace h:=iF h92 h
     refine cskip (xl ?_)
     exact ⟨_,_,rfl,(aK4 (aO1 (aK5 (aO1 (aK50 (aK20 (aK9 (aO8 aZ)))))))),_,rfl,h,le91,hS⟩
    ·replace h:=iF h88 h
     refine cskip (xl ?_)
     exact ⟨_,_,rfl,(aK4 (aO1 (aK5 (aO1 (aK50 (aK20 (aK9 (aO8 aZ)))))))),_,rfl,h,Le.r,hS⟩
   ·rintro _ t w11 ⟨μ9,rfl,h,le93,hS⟩
    unfold syn_def_j3 at h
    refine nrm (mK4 (mO1 (mK5 (mO1 (mK50 (mK20 (mK9 (mO8 mz)))))))) (xn (cseq (nz ?_)))
    iterate 3 refine st ?_
    refine ld ((m11 _ ((le14.t (le20.t (le24.t (le86.t le93)))) _ hS.a)).one d0) (st (nw ?_))
    refine cifd (et (k100 d2)) (fun h94=>?_) (fun h94=>?_)
    ·replace h:=iT h94 h
     refine nz ?_
     iterate 4 refine st ?_
     refine ld ((m11 _ ((le14.t (le20.t (le24.t (le86.t le93)))) _ hS.a)).one d8) ?_
     obtain ⟨r95,g96,h⟩:=bI h
     refine ca ((SynStat_sound fu).syn_stats (hg.t (le14.t (le20.t (le24.t (le86.t le93))))) (m10.up (le14.t (le20.t (le24.t (le86.t le93))))) g96 hS) ?_
     rintro _ w12 ⟨μ10,rfl,le97,hS⟩
     refine po (st (nw (cret (xr ?_))))
     obtain rfl:=oI h
     refine ret1 rfl d4 ?_
     exact ⟨_,rfl,(le14.t (le20.t (le24.t (le86.t (le93.t le97))))),hS⟩
    ·replace h:=iF h94 h
     refine cskip (xn (cseq (nz ?_)))
     iterate 3 refine st ?_
     refine ld ((m11 _ ((le14.t (le20.t (le24.t (le86.t le93)))) _ hS.a)).one d6) ?_
     iterate 2 refine st ?_
     refine wspd (k100 (k10 d4)) (q100 (q10 p4)) (q100 (q10 p4)) (xT h) fun h98=>?_
     replace h:=iF h98 h
     refine sy rfl (sy rfl (sy rfl (wy rfl (k100 (k10 d4)) (s_load ti3 (et (k100 (k10 d7))) ((m11 _ ((le14.t (le20.t (le24.t (le86.t le93)))) _ hS.a)).one d6) (dt (q100 (q10 p8))) (sy rfl (st (nw ?_)))))))
     refine cifd (et (k100 (k20 d0))) (xT h) fun h99=>?_
     replace h:=iF h99 h
     refine cskip (xn (nz (st (nw (cret ?_)))))
     obtain rfl:=oI h
     refine ret1 rfl d4 ?_
     exact ⟨_,rfl,(le14.t (le20.t (le24.t (le86.t le93)))),hS⟩
theorem syn_wrong_w (hg:Le Gm μ0) {p_1:List TDef} {r:TFault} (m3:Sl μ0 a1 c2 p_1) (h:syn_wrong fu p_1=some r) (hS:Sq μ0 w0 w (rsF)):CallsV prog 36 [.slice a1 p_1.length c2] w (fun v w'=>∃ (μ':M) ,v=.agg ⟨[.int .i64 r.Err,.int .i64 r.At]⟩∧Le μ0 μ'∧Sq μ' w0 w' (rsF)):=by
 unfold syn_wrong at h
 refine enter func36 rfl (frm:=_::u1 (u2 (u5 (u20 [])))) rfl (nz ?_)
 refine wl (s_alloc ti45 hS ?_); clear hS; intro b4 w1 hb5 hS; refine po ?_
 refine ny (nz (st (wl (su (u_lensl underlying43 (et d6)) (dt p7) (st (nw ?_))))))
 refine cifd (et d8) (xT h) fun h6=>?_
 replace h:=iF h6 h
 refine cskip (xn (nz (wl (s_build ti149 pl149 Fl.z (dt (q10 p0)) ?_))))
 refine wl (s_box (et (k10 d0)) rfl hS ?_); clear hS; intro b7 w2 hb8 hS; refine po ?_
 refine st (ny (nz (st (wl (su (u_lensl underlying43 (et (k10 d2))) (dt (q10 p3)) (st (nw (cblock ?_))))))))
 replace hS:=hS.bg Y1
 refine cloopE (rg 4 2++rg 15 13) (by decide) (fun n m w=>∃ μx i28 i29,m=(yK4 (yO2 4 (yK8 (.i (.int .i64 i28)::(yO10 15 (yO3 25 []))))))∧syn_wrong_l1 fu p_1 n i28 i29=some r∧Le μ0 μx∧Sq μx w0 w (.blk b4 45 [.int .i64 0,.int .i64 0]::.blk b7 149 [.int .i64 i29]::rsF)) (by rintro _ _ _ ⟨_,_,_,rfl,_⟩; rfl) _ _ (aK4 (aO2 (aK8 (aI (aO10 (aO3 aZ)))))) ⟨_,0,0,rfl,h,Le.r,hS⟩ ?_
 rintro n_1 _ t w3 ⟨μ1,i28,i29,rfl,h,le49,hS⟩
 cases n_1 with
 | zero=>cases h
 | succ n_1 =>
 unfold syn_wrong_l1 at h
 refine cnrm (mK4 (mO2 (mK8 (mi (mO10 (mO3 mz)))))) (nz (st (ny ?_)))
 refine cifd (et (k10 d5)) (fun h50=>?_) (fun h50=>?_)
 ·replace h:=iT h50 h
  refine cskip (xn (cseq (cblock (nz ?_))))
  iterate 2 refine st ?_
  refine nx ?_
  iterate 3 refine st ?_
  obtain ⟨x51,g52,h⟩:=bI h
  obtain ⟨b53,o54,cs55,e56,f57,m58⟩:=SlR.elem (m3.up le49) g52
  obtain ⟨a59,c60,a62,c63,rfl,m61,m64⟩:=m58
  refine wl (su (u_iax underlying43 ti91 (et (k10 d8)) (et (k10 d9)) e56) (dt (q20 p0)) ?_)
  obtain ⟨r65,g66,h⟩:=bI h
  replace hS:=hS.bg Y1
  refine ca (syn_def_w (hg.t le49) m61 m64 f57 g66 hS) ?_
  rintro _ w4 ⟨μ2,rfl,le67,hS⟩
  refine po (st (nx ?_))
  iterate 2 refine st ?_
  refine nw ?_
  refine cifd (et (k20 d3)) (xT h) fun h68=>?_
  replace h:=iF h68 h
  refine cskip ?_
  refine (fun h=>bn (xn h)) ?_
  refine creg ?_
  obtain ⟨i69,g70,h⟩:=bI h
  refine wl (su (u_addc (et (k10 d4)) ec g70) (dt (q20 p7)) (st (wnil (xl ?_))))
  replace hS:=hS.bg Y1
  exact ⟨n_1,_,_,rfl,(aK4 (aO2 (aK8 (aI (aO10 (aO3 aZ)))))),⟨_,i69,r65.2,rfl,h,(le49.t le67),hS⟩,Nat.lt_succ_self _⟩
 ·replace h:=iF h50 h
  refine cexit ?_
  refine (fun h=>xe (xe (bh h))) ?_
  refine xn (nz (wl (s_build ti45 pl45 Fl.z (dt (q20 p8)) (wl (s_storeA ti45 (et d2) (et (k20 d8)) rfl rfl hS d0 rfl p0 dn ?_)))))
  clear hS; intro w5 hS
  refine nw (cret ?_)
  obtain rfl:=oI h
  refine retN rfl (RVs.s (.a d2 ti45 (hS.blk d0).cells rfl) RVs.z) ?_
  replace hS:=(hS.drop Rm.z).drop Rm.z
  exact ⟨_,rfl,le49,hS⟩
end Go.Proofs.YtaenlbapejigbaaGreatDoor
set_option maxRecDepth 100000
set_option maxHeartbeats 20000000
namespace Go.Proofs.YtaenlbapejigbaaGreatDoor
open Go.Wk Go.Xt Go.Y Tryz
variable {b1 c4 c9 fu:Nat} {a3 a8:Option Addr} {μ0:M} {w0 w:World} {rsF:List Res}
theorem p_at_w (hg:Le Gm μ0) {left_2:List TToken} {end_6 deep_7 r:Int} (m5:Sl μ0 a3 c4 left_2) (h:p_at left_2 end_6 deep_7=some r) (hS:Sq μ0 w0 w (.blk b1 83 [.slice a3 left_2.length c4,.int .i64 end_6,.int .i64 deep_7]::rsF)):CallsV prog 34 [.pointer (some ⟨b1,0,none⟩)] w (fun v w'=>∃ (μ':M) ,v=.int .i64 r∧Le μ0 μ'∧Sq μ' w0 w' (.blk b1 83 [.slice a3 left_2.length c4,.int .i64 end_6,.int .i64 deep_7]::rsF)):=by
 unfold p_at at h
 refine enter func34 rfl (frm:=_::u2 (u2 (u5 (u10 [])))) rfl (nz (st (ny (nz ?_))))
 iterate 3 refine st ?_
 refine ld ((hS.blk d0).cell d0) (wl (su (u_lensl underlying76 (et d6)) (dt p7) (st (nw ?_))))
 refine cifd (et d8) (xT h) fun h8=>?_
 replace h:=iF h8 h
 refine cskip (xn (nz ?_))
 iterate 3 refine st ?_
 refine ld ((hS.blk d0).cell d0) ?_
 obtain ⟨x9,g10,h⟩:=bI h
 obtain ⟨b11,o12,cs13,e14,f15,m16⟩:=SlR.elem m5 g10
 obtain rfl:=m16
 refine wl (su (u_iax underlying76 ti133 (et (k10 d6)) ec e14) (dt (q10 p7)) (st (ld ((f15 _ hS.a).one d3) (st (nw (cret ?_))))))
 obtain rfl:=oI h
 refine ret1 rfl d2 ?_
 exact ⟨_,rfl,Le.r,hS⟩
theorem p_sees_w (hg:Le Gm μ0) {left_2:List TToken} {end_6 deep_7:Int} {p_2:List UInt8} {r:Bool} (m5:Sl μ0 a3 c4 left_2) (h:p_sees left_2 end_6 deep_7 p_2=some r) (hS:Sq μ0 w0 w (.blk b1 83 [.slice a3 left_2.length c4,.int .i64 end_6,.int .i64 deep_7]::rsF)):CallsV prog 100 [.pointer (some ⟨b1,0,none⟩),S p_2] w (fun v w'=>∃ (μ':M) ,v=.bool r∧Le μ0 μ'∧Sq μ' w0 w' (.blk b1 83 [.slice a3 left_2.length c4,.int .i64 end_6,.int .i64 deep_7]::rsF)):=by
 unfold p_sees at h
 refine enter func100 rfl (frm:=_::_::u20 []) rfl (nz (st (nx ?_)))
 iterate 3 refine st ?_
 refine ld ((hS.blk d0).cell d0) (wl (su (u_lensl underlying76 (et d8)) (dt p9) ?_))
 iterate 2 refine st ?_
 refine wspd (k10 d1) (q10 p1) (q10 p1) (fun h8=>?_) (xF h)
 replace h:=iT h8 h
 refine sy rfl (sy rfl (sy rfl (wy rfl (k10 d1) (s_load ti76 (et (k10 d4)) ((hS.blk d0).cell d0) (dt (q10 p5)) ?_))))
 obtain ⟨x9,g10,h⟩:=bI h
 obtain ⟨b11,o12,cs13,e14,f15,m16⟩:=SlR.elem m5 g10
 obtain rfl:=m16
 refine wy rfl (k10 d1) (su (u_iax underlying76 ti133 (et (k10 d5)) ec e14) (dt (q10 p6)) (sy rfl (wy rfl (k10 d1) (s_load ti9 (et (k10 d7)) ((f15 _ hS.a).one d1) (dt (q10 p8)) (sy rfl (wy rfl (k10 d1) (su (u_eqs (et (k10 d8)) (et (k10 d9))) (dt (q20 p0)) ?_)))))))
 iterate 2 refine st ?_
 refine nw (cret ?_)
 obtain rfl:=oI h
 refine ret1 rfl d4 ?_
 exact ⟨_,rfl,Le.r,hS⟩
theorem p_is_w (hg:Le Gm μ0) {left_2:List TToken} {end_6 deep_7:Int} {p_2:List UInt8} {r:Bool×List TToken×Int×Int} (m5:Sl μ0 a3 c4 left_2) (h:p_is left_2 end_6 deep_7 p_2=some r) (hS:Sq μ0 w0 w (.blk b1 83 [.slice a3 left_2.length c4,.int .i64 end_6,.int .i64 deep_7]::rsF)):CallsV prog 63 [.pointer (some ⟨b1,0,none⟩),S p_2] w (fun v w'=>∃ (μ':M) (a8:Option Addr) (c9:Nat),v=.bool r.1∧Le μ0 μ'∧Sq μ' w0 w' (.blk b1 83 [.slice a8 r.2.1.length c9,.int .i64 r.2.2.1,.int .i64 r.2.2.2]::rsF)∧Sl μ' a8 c9 r.2.1):=by
 unfold p_is at h
 refine enter func63 rfl (frm:=_::_::u5 (u10 [])) rfl (nz (st (ny (nz ?_))))
 iterate 2 refine st ?_
 obtain ⟨r11,g12,h⟩:=bI h
 refine ca (p_sees_w hg m5 g12 hS) ?_
 rintro _ w1 ⟨μ1,rfl,le13,hS⟩
 refine po (st (nw ?_))
 refine cifnb (et d8) (fun h14=>?_) (fun h14=>?_)
 ·replace h:=iF h14 h
  refine nz (st (nw (cret (xr ?_))))
  obtain rfl:=oI h
  refine ret1 rfl d4 ?_
  exact ⟨_,_,_,rfl,le13,hS,(m5.up le13)⟩
 ·replace h:=iT h14 h
  refine cskip (xn (nz ?_))
  iterate 4 refine st ?_
  refine ld ((hS.blk d0).cell d0) ?_
  obtain ⟨l15,g16,h⟩:=bI h
  obtain ⟨a17,c18,e19,m20⟩:=Sl.slc (i:=some 1) (j:=none) (m5.up le13) g16
  refine wl (su (u_slc underlying76 ti133 (et (k10 d3)) (.s ec) .n e19) (dt (q10 p4)) ?_)
  iterate 2 refine st ?_
  refine wl (s_store1 ti76 (et (k10 d6)) (et (k10 d4)) rfl hS d0 p0 rfl p0 dn ?_)
  clear hS; intro w2 hS
  refine nx (st (nw (cret ?_)))
  obtain rfl:=oI h
  refine ret1 rfl d4 ?_
  exact ⟨_,_,_,rfl,le13,hS,m20⟩
theorem p_need_w (hg:Le Gm μ0) {left_2:List TToken} {end_6 deep_7:Int} {p_2:List (List UInt8)} {r:List TToken×Int×Int} (m5:Sl μ0 a3 c4 left_2) (m10:Sl μ0 a8 c9 p_2) (h:p_need left_2 end_6 deep_7 p_2=some r) (hS:Sq μ0 w0 w (.blk b1 83 [.slice a3 left_2.length c4,.int .i64 end_6,.int .i64 deep_7]::rsF)):CallsV prog 67 [.pointer (some ⟨b1,0,none⟩),.slice a8 p_2.length c9] w (fun v w'=>∃ (μ':M) (a11:Option Addr) (c12:Nat),v=.tuple ⟨[]⟩∧Le μ0 μ'∧Sq μ' w0 w' (.blk b1 83 [.slice a11 r.1.length c12,.int .i64 r.2.1,.int .i64 r.2.2]::rsF)∧Sl μ' a11 c12 r.1):=by
 unfold p_need at h
 refine enter func67 rfl (frm:=_::_::u2 (u2 (u5 (u10 [])))) rfl (nz (st (wl (su (u_lensl underlying188 (et d6)) (dt p7) (st (nw (cblock ?_)))))))
 refine cloopE ([5]++rg 9 12) (by decide) (fun n m w=>∃ μx i30 l33 a31 c32 i35 i36,m=(yK5 (yO1 5 (yK2 (.i (.int .i64 i30)::(yO10 9 (yO2 19 []))))))∧p_need_l1 p_2 n i30 l33 i35 i36=some r∧Le μ0 μx∧Sq μx w0 w (.blk b1 83 [.slice a31 l33.length c32,.int .i64 i35,.int .i64 i36]::rsF)∧Sl μx a31 c32 l33) (by rintro _ _ _ ⟨_,_,_,_,_,_,_,rfl,_⟩; rfl) _ _ (aK5 (aO1 (aK2 (aI (aO10 (aO2 aZ)))))) ⟨_,0,left_2,a3,c4,end_6,deep_7,rfl,h,Le.r,hS,m5⟩ ?_
 rintro n_1 _ t w1 ⟨μ1,i30,l33,a31,c32,i35,i36,rfl,h,le53,hS,m54⟩
 cases n_1 with
 | zero=>cases h
 | succ n_1 =>
 unfold p_need_l1 at h
 refine cnrm (mK5 (mO1 (mK2 (mi (mO10 (mO2 mz)))))) (nz (st (ny ?_)))
 refine cifd (et d9) (fun h55=>?_) (fun h55=>?_)
 ·replace h:=iT h55 h
  refine cskip (xn (cseq (cblock (nz ?_))))
  obtain ⟨x56,g57,h⟩:=bI h
  obtain ⟨b58,o59,cs60,e61,f62,m63⟩:=SlR.elem (m10.up le53) g57
  obtain rfl:=m63
  refine wl (su (u_iax underlying188 ti9 (et d6) (et d8) e61) (dt (q10 p0)) (ld ((f62 _ hS.a).one d0) (st (nx ?_))))
  iterate 2 refine st ?_
  obtain ⟨r64,g65,h⟩:=bI h
  refine ca (p_is_w (hg.t le53) m54 g65 hS) ?_
  rintro _ w2 ⟨μ2,a67,c68,rfl,le66,hS,m69⟩
  refine po (st (nw ?_))
  refine cifnb (et (k10 d5)) (xF h) fun h70=>?_
  replace h:=iT h70 h
  refine cskip ?_
  refine (fun h=>bn (xn h)) ?_
  refine creg ?_
  obtain ⟨i71,g72,h⟩:=bI h
  refine wl (su (u_addc (et d8) ec g72) (dt (q20 p0)) (st (wnil (xl ?_))))
  exact ⟨n_1,_,_,rfl,(aK5 (aO1 (aK2 (aI (aO10 (aO2 aZ)))))),⟨_,i71,r64.2.1,a67,c68,r64.2.2.1,r64.2.2.2,rfl,h,(le53.t le66),hS,m69⟩,Nat.lt_succ_self _⟩
 ·replace h:=iF h55 h
  refine cexit ?_
  refine (fun h=>xe (xe (bh h))) ?_
  obtain rfl:=oI h
  refine end0 rfl ?_
  exact ⟨_,_,_,rfl,le53,hS,m54⟩
theorem p_name_w (hg:Le Gm μ0) {left_2:List TToken} {end_6 deep_7:Int} {r:List UInt8×List TToken×Int×Int} (m5:Sl μ0 a3 c4 left_2) (h:p_name fu left_2 end_6 deep_7=some r) (hS:Sq μ0 w0 w (.blk b1 83 [.slice a3 left_2.length c4,.int .i64 end_6,.int .i64 deep_7]::rsF)):CallsV prog 64 [.pointer (some ⟨b1,0,none⟩)] w (fun v w'=>∃ (μ':M) (a8:Option Addr) (c9:Nat),v=S r.1∧Le μ0 μ'∧Sq μ' w0 w' (.blk b1 83 [.slice a8 r.2.1.length c9,.int .i64 r.2.2.1,.int .i64 r.2.2.2]::rsF)∧Sl μ' a8 c9 r.2.1):=by
 unfold p_name at h
 refine enter func64 rfl (frm:=_::u1 (u5 (u20 (u20 [])))) rfl (nz (st (ny (nz ?_))))
 iterate 3 refine st ?_
 refine ld ((hS.blk d0).cell d0) (wl (su (u_lensl underlying76 (et d7)) (dt p8) ?_))
 iterate 2 refine st ?_
 refine wspd (k10 d0) (q10 p0) (q10 p0) (xT h) fun h11=>?_
 replace h:=iF h11 h
 refine sy rfl (sy rfl (sy rfl (wy rfl (k10 d0) (s_load ti76 (et (k10 d3)) ((hS.blk d0).cell d0) (dt (q10 p4)) ?_))))
 obtain ⟨x12,g13,h⟩:=bI h
 obtain ⟨b14,o15,cs16,e17,f18,m19⟩:=SlR.elem m5 g13
 obtain rfl:=m19
 refine wy rfl (k10 d0) (su (u_iax underlying76 ti133 (et (k10 d4)) ec e17) (dt (q10 p5)) (sy rfl (wy rfl (k10 d0) (s_load ti3 (et (k10 d6)) ((f18 _ hS.a).one d0) (dt (q10 p7)) (sy rfl (st (nw ?_)))))))
 refine cifd (et (k10 d9)) (xT h) fun h20=>?_
 replace h:=iF h20 h
 refine cskip (xn (nz ?_))
 iterate 3 refine st ?_
 refine ld ((hS.blk d0).cell d0) ?_
 obtain ⟨x21,g22,h⟩:=bI h
 obtain ⟨b23,o24,cs25,e26,f27,m28⟩:=SlR.elem m5 g22
 obtain rfl:=m28
 refine wl (su (u_iax underlying76 ti133 (et (k20 d7)) ec e26) (dt (q20 p8)) (st (ld ((f27 _ hS.a).one d1) (st (ny (nz (st ?_)))))))
 obtain ⟨r29,g30,h⟩:=bI h
 refine ca (lex_named_w hg g30 hS) ?_
 rintro _ w1 ⟨μ1,rfl,le31,hS⟩
 refine po (st (nw ?_))
 refine cifnb (et (k30 d3)) (xF h) fun h32=>?_
 replace h:=iT h32 h
 refine cskip (xn (nz ?_))
 iterate 4 refine st ?_
 refine ld ((hS.blk d0).cell d0) ?_
 obtain ⟨l33,g34,h⟩:=bI h
 obtain ⟨a35,c36,e37,m38⟩:=Sl.slc (i:=some 1) (j:=none) (m5.up le31) g34
 refine wl (su (u_slc underlying76 ti133 (et (k40 d2)) (.s ec) .n e37) (dt (q40 p3)) ?_)
 iterate 2 refine st ?_
 refine wl (s_store1 ti76 (et (k40 d5)) (et (k40 d3)) rfl hS d0 p0 rfl p0 dn ?_)
 clear hS; intro w2 hS
 refine nx ?_
 iterate 2 refine st ?_
 refine nw (cret ?_)
 obtain rfl:=oI h
 refine ret1 rfl d2 ?_
 exact ⟨_,_,_,rfl,le31,hS,m38⟩
theorem p_number_w (hg:Le Gm μ0) {left_2:List TToken} {end_6 deep_7:Int} {r:Int×List TToken×Int×Int} (m5:Sl μ0 a3 c4 left_2) (h:p_number left_2 end_6 deep_7=some r) (hS:Sq μ0 w0 w (.blk b1 83 [.slice a3 left_2.length c4,.int .i64 end_6,.int .i64 deep_7]::rsF)):CallsV prog 66 [.pointer (some ⟨b1,0,none⟩)] w (fun v w'=>∃ (μ':M) (a8:Option Addr) (c9:Nat),v=.int .i64 r.1∧Le μ0 μ'∧Sq μ' w0 w' (.blk b1 83 [.slice a8 r.2.1.length c9,.int .i64 r.2.2.1,.int .i64 r.2.2.2]::rsF)∧Sl μ' a8 c9 r.2.1):=by
 unfold p_number at h
 refine enter func66 rfl (frm:=_::u2 (u2 (u5 (u10 (u20 []))))) rfl (nz (st (ny (nz ?_))))
 iterate 3 refine st ?_
 refine ld ((hS.blk d0).cell d0) (wl (su (u_lensl underlying76 (et d7)) (dt p8) ?_))
 iterate 2 refine st ?_
 refine wspd (k10 d0) (q10 p0) (q10 p0) (xT h) fun h11=>?_
 replace h:=iF h11 h
 refine sy rfl (sy rfl (sy rfl (wy rfl (k10 d0) (s_load ti76 (et (k10 d3)) ((hS.blk d0).cell d0) (dt (q10 p4)) ?_))))
 obtain ⟨x12,g13,h⟩:=bI h
 obtain ⟨b14,o15,cs16,e17,f18,m19⟩:=SlR.elem m5 g13
 obtain rfl:=m19
 refine wy rfl (k10 d0) (su (u_iax underlying76 ti133 (et (k10 d4)) ec e17) (dt (q10 p5)) (sy rfl (wy rfl (k10 d0) (s_load ti3 (et (k10 d6)) ((f18 _ hS.a).one d0) (dt (q10 p7)) (sy rfl (st (nw ?_)))))))
 refine cifd (et (k10 d9)) (xT h) fun h20=>?_
 replace h:=iF h20 h
 refine cskip (xn (nz ?_))
 iterate 3 refine st ?_
 refine ld ((hS.blk d0).cell d0) ?_
 obtain ⟨x21,g22,h⟩:=bI h
 obtain ⟨b23,o24,cs25,e26,f27,m28⟩:=SlR.elem m5 g22
 obtain rfl:=m28
 refine wl (su (u_iax underlying76 ti133 (et (k20 d7)) ec e26) (dt (q20 p8)) (st (ld ((f27 _ hS.a).one d2) (st (nx ?_)))))
 iterate 4 refine st ?_
 refine ld ((hS.blk d0).cell d0) ?_
 obtain ⟨l29,g30,h⟩:=bI h
 obtain ⟨a31,c32,e33,m34⟩:=Sl.slc (i:=some 1) (j:=none) m5 g30
 refine wl (su (u_slc underlying76 ti133 (et (k30 d5)) (.s ec) .n e33) (dt (q30 p6)) ?_)
 iterate 2 refine st ?_
 refine wl (s_store1 ti76 (et (k30 d8)) (et (k30 d6)) rfl hS d0 p0 rfl p0 dn ?_)
 clear hS; intro w1 hS
 refine nx ?_
 iterate 2 refine st ?_
 refine nw (cret ?_)
 obtain rfl:=oI h
 refine ret1 rfl d2 ?_
 exact ⟨_,_,_,rfl,Le.r,hS,m34⟩
theorem p_typ_w (hg:Le Gm μ0) {left_2:List TToken} {end_6 deep_7:Int} {r:TType×List TToken×Int×Int} (m5:Sl μ0 a3 c4 left_2) (h:p_typ left_2 end_6 deep_7=some r) (hS:Sq μ0 w0 w (.blk b1 83 [.slice a3 left_2.length c4,.int .i64 end_6,.int .i64 deep_7]::rsF)):CallsV prog 65 [.pointer (some ⟨b1,0,none⟩)] w (fun v w'=>∃ (μ':M) (a8:Option Addr) (c9:Nat),v=.agg ⟨[.int .i64 r.1.Kind,S r.1.Gen]⟩∧Le μ0 μ'∧Sq μ' w0 w' (.blk b1 83 [.slice a8 r.2.1.length c9,.int .i64 r.2.2.1,.int .i64 r.2.2.2]::rsF)∧Sl μ' a8 c9 r.2.1):=by
 unfold p_typ at h
 refine enter func65 rfl (frm:=_::u1 (u2 (u10 []))) rfl (nz ?_)
 refine wl (s_alloc ti87 hS ?_); clear hS; intro b11 w1 hb12 hS; refine po ?_
 refine ny (cblock (nz (st ?_)))
 obtain ⟨r13,g14,h⟩:=bI h
 replace hS:=hS.bg Y1
 refine ca (p_is_w hg m5 g14 hS) ?_
 rintro _ w2 ⟨μ1,a16,c17,rfl,le15,hS,m18⟩
 refine po (st (nw ?_))
 refine cifb (et d3) (fun h19=>?_) (fun h19=>?_)
 ·replace h:=iT h19 h
  refine nz (wl (s_build ti87 pl87 (Fl.o rfl ec rfl rfl p0 Fl.z) (dt p6) (wl (s_storeA ti87 (et d2) (et d6) rfl rfl hS d1 rfl p1 dn ?_))))
  clear hS; intro w3 hS
  refine nw (cret ?_)
  refine (fun h=>br (xr h)) ?_
  obtain rfl:=oI h
  refine retN rfl (RVs.s (.a d2 ti87 (hS.blk d1).cells rfl) RVs.z) ?_
  replace hS:=hS.drop (Rm.s Rm.z)
  exact ⟨_,_,_,rfl,le15,hS,m18⟩
 ·replace h:=iF h19 h
  refine nz (st ?_)
  obtain ⟨r20,g21,h⟩:=bI h
  refine ca (p_is_w (hg.t le15) m18 g21 hS) ?_
  rintro _ w4 ⟨μ2,a23,c24,rfl,le22,hS,m25⟩
  refine po (st (nw ?_))
  refine cifb (et d7) (fun h26=>?_) (xF h)
  replace h:=iT h26 h
  refine nz (wl (s_build ti87 pl87 (Fl.o rfl ec rfl rfl p0 Fl.z) (dt (q10 p0)) (wl (s_storeA ti87 (et d2) (et (k10 d0)) rfl rfl hS d1 rfl p1 dn ?_))))
  clear hS; intro w5 hS
  refine nw (cret ?_)
  refine (fun h=>br (xr h)) ?_
  obtain rfl:=oI h
  refine retN rfl (RVs.s (.a d2 ti87 (hS.blk d1).cells rfl) RVs.z) ?_
  replace hS:=hS.drop (Rm.s Rm.z)
  exact ⟨_,_,_,rfl,(le15.t le22),hS,m25⟩
theorem p_params_w (hg:Le Gm μ0) {left_2:List TToken} {end_6 deep_7:Int} {r:List TParam×List TToken×Int×Int} (m5:Sl μ0 a3 c4 left_2) (h:p_params fu left_2 end_6 deep_7=some r) (hS:Sq μ0 w0 w (.blk b1 83 [.slice a3 left_2.length c4,.int .i64 end_6,.int .i64 deep_7]::rsF)):CallsV prog 68 [.pointer (some ⟨b1,0,none⟩)] w (fun v w'=>∃ (μ':M) (a8:Option Addr) (c9:Nat) (a11:Option Addr) (c12:Nat),v=.slice a8 r.1.length c9∧Le μ0 μ'∧Sq μ' w0 w' (.blk b1 83 [.slice a11 r.2.1.length c12,.int .i64 r.2.2.1,.int .i64 r.2.2.2]::rsF)∧Sl μ' a8 c9 r.1∧Sl μ' a11 c12 r.2.1):=by
 unfold p_params at h
 refine enter func68 rfl (frm:=_::u1 (u10 (u20 []))) rfl (nz (st (nx (st (ny (nz (st ?_)))))))
 refine wl (s_bsl underlying188 ti9 (Parts.s ec rfl Parts.z) rfl rfl hS ?_); clear hS; intro b14 w1 hb15 hS; refine po ?_
 obtain ⟨μ1,le17,m16,hS⟩:=Sep.frzBlk (l:=([[40]]:List (List UInt8))) hS (Rw.one (α:=List UInt8) rfl) (Nat.le_of_ble_eq_true rfl)
 obtain ⟨r18,g19,h⟩:=bI h
 refine ca (p_need_w (hg.t le17) (m5.up le17) m16 g19 hS) ?_
 rintro _ w2 ⟨μ2,a21,c22,rfl,le20,hS,m23⟩
 refine po (nw (cblock ?_))
 replace hS:=hS.nilRow 159 (Mo.sz TParam)
 replace hS:=hS.bg Y1
 refine cloopE (rg 7 24) (by decide +kernel) (fun n m w=>∃ μx l68 a66 c67 i70 i71 l74 v72 cs73,m=(yK3 (.i (v72)::(yK3 (yO20 7 (yO4 27 [])))))∧p_params_l1 fu n l68 i70 i71 l74=some r∧Le μ2 μx∧Sq μx w0 w (.blk b1 83 [.slice a66 l68.length c67,.int .i64 i70,.int .i64 i71]::.row v72 159 3 l74.length cs73::rsF)∧Sl μx a66 c67 l68∧Rw μx cs73 l74) (by rintro _ _ _ ⟨_,_,_,_,_,_,_,_,_,rfl,_⟩; rfl) _ _ (aK3 (aI (aK3 (aO20 (aO4 aZ))))) ⟨_,r18.1,a21,c22,r18.2.1,r18.2.2,[],(.slice none 0 0),[],rfl,h,Le.r,hS,m23,Rw.nil⟩ ?_
 rintro n_1 _ t w3 ⟨μ3,l68,a66,c67,i70,i71,l74,v72,cs73,rfl,h,le117,hS,m118,m119⟩
 cases n_1 with
 | zero=>cases h
 | succ n_1 =>
 unfold p_params_l1 at h
 refine cnrm (mK3 (mi (mK3 (mO20 (mO4 mz))))) (cseq (nz (st ?_)))
 obtain ⟨r120,g121,h⟩:=bI h
 refine ca (p_is_w (hg.t (le17.t (le20.t le117))) m118 g121 hS) ?_
 rintro _ w4 ⟨μ4,a123,c124,rfl,le122,hS,m125⟩
 refine po (st (nw ?_))
 refine cifnb (et d9) (fun h126=>?_) (fun h126=>?_)
 ·replace h:=iF h126 h
  refine cskip (xn (cblock (cseq (nz (st (wl (su (u_lenv underlying88 (et (k10 d0)) (hS.get d1).isSl) (dt (q10 p1)) (st (nw ?_)))))))))
  refine ccutE (rg 13 3) (by decide) (fun m w=>∃ μx l129 a127 c128 i131 i132,m=(yK10 (yK3 (yO3 13 [])))∧p_params_j1 fu l74 (p_params_l1 fu n_1) l129 i131 i132=some r∧Le μ4 μx∧Sq μx w0 w (.blk b1 83 [.slice a127 l129.length c128,.int .i64 i131,.int .i64 i132]::.row v72 159 3 l74.length cs73::rsF)∧Sl μx a127 c128 l129) (by rintro _ _ ⟨_,_,_,_,_,_,rfl,_⟩; rfl) ?_ ?_
  ·refine cifd (et (k10 d2)) (fun h133=>?_) (fun h133=>?_)
   ·replace h:=iT h133 h
    refine creg (st ?_)
    refine wl (s_bsl underlying188 ti9 (Parts.s ec rfl Parts.z) rfl rfl hS ?_); clear hS; intro b134 w5 hb135 hS; refine po ?_
    obtain ⟨μ5,le137,m136,hS⟩:=Sep.frzBlk (l:=([[44]]:List (List UInt8))) hS (Rw.one (α:=List UInt8) rfl) (Nat.le_of_ble_eq_true rfl)
    obtain ⟨r138,g139,h⟩:=bI h
    refine ca (p_need_w (hg.t (le17.t (le20.t (le117.t (le122.t le137))))) (m125.up le137) m136 g139 hS) ?_
    rintro _ w6 ⟨μ6,a141,c142,rfl,le140,hS,m143⟩
    refine po (wnil (xl ?_))
    exact ⟨_,_,rfl,(aK10 (aK3 (aO3 aZ))),_,r138.1,_,_,r138.2.1,r138.2.2,rfl,h,(le137.t le140),hS,m143⟩
   ·replace h:=iF h133 h
    refine cskip (xl ?_)
    exact ⟨_,_,rfl,(aK10 (aK3 (aO3 aZ))),_,r120.2.1,_,_,r120.2.2.1,r120.2.2.2,rfl,h,Le.r,hS,m125⟩
  ·rintro _ t w7 ⟨μ7,l129,a127,c128,i131,i132,rfl,h,le144,hS,m145⟩
   unfold p_params_j1 at h
   refine nrm (mK10 (mK3 (mO3 mz))) (xn (cseq (nz (st (wl (su (u_lenv underlying88 (et (k10 d6)) (hS.get d1).isSl) (dt (q10 p7)) (st (nw ?_))))))))
   refine cifd (et (k10 d8)) (xT h) fun h146=>?_
   replace h:=iF h146 h
   refine cskip (xn (creg ?_))
   iterate 2 refine st ?_
   obtain ⟨r147,g148,h⟩:=bI h
   refine ca (p_name_w (hg.t (le17.t (le20.t (le117.t (le122.t le144))))) m145 g148 hS) ?_
   rintro _ w8 ⟨μ8,a150,c151,rfl,le149,hS,m152⟩
   refine po (st ?_)
   obtain ⟨r153,g154,h⟩:=bI h
   refine ca (p_typ_w (hg.t (le17.t (le20.t (le117.t (le122.t (le144.t le149)))))) m152 g154 hS) ?_
   rintro _ w9 ⟨μ9,a156,c157,rfl,le155,hS,m158⟩
   refine po (wl (s_build ti159 pl159 (Fl.o rfl (et (k20 d5)) rfl rfl p0 (Fl.n rfl (et (k20 d7)) rfl rfl (Spl.s p1 (of_decide_eq_true rfl) (Spl.s p2 (of_decide_eq_true rfl) Spl.z)) Fl.z)) (dt (q20 p8)) ?_))
   refine wl (s_bsl1 underlying88 ti159 rfl (et (k20 d8)) rfl hS ?_); clear hS; intro b159 w10 hb160 hS; refine po ?_
   obtain ⟨l163,g164,h⟩:=bI h
   have m165:Rw μ9 [S r147.1,.int .i64 r153.1.Kind,S r153.1.Gen] [(TParam.mk r147.1 (TType.mk r153.1.Kind r153.1.Gen))]:=(Rw.one (α:=TParam) rfl)
   have m162:=Rw.app (m119.up (le122.t (le144.t (le149.t le155)))) m165 g164
   refine wl (s_app1 underlying88 ti159 rfl (et (k20 d3)) (et (k20 d9)) hS d2 (hS.blk d0).cells m165 rfl g164 (by decide) ?_); clear hS; intro v161 w11 rs_ hp_ hS; cases (show _=rs_ from hp_)
   replace hS:=Sep.reput hS p2; refine po ?_
   replace hS:=hS.drop Rm.z
   refine st (wnil ?_)
   refine (fun h=>bn (xl h)) ?_
   exact ⟨n_1,_,_,rfl,(aK3 (aI (aK3 (aO20 (aO4 aZ))))),⟨_,r153.2.1,a156,c157,r153.2.2.1,r153.2.2.2,l163,v161,(cs73++[S r147.1,.int .i64 r153.1.Kind,S r153.1.Gen]),rfl,h,(le117.t (le122.t (le144.t (le149.t le155)))),hS,m158,m162⟩,Nat.lt_succ_self _⟩
 ·replace h:=iT h126 h
  refine cexit ?_
  refine (fun h=>xe (xe (bh h))) ?_
  refine xn (nz ?_)
  iterate 2 refine st ?_
  refine nw (cret ?_)
  replace hS:=hS.bg Y1
  obtain ⟨μ10,a166,c167,e170,le169,m168,hq_⟩:=Sep.frzRow hS (m119.up le122) rfl; clear hS
  subst e170; have hS:=hq_; clear hq_
  obtain rfl:=oI h
  refine ret1 rfl d2 ?_
  exact ⟨_,_,_,_,_,rfl,(le17.t (le20.t (le117.t (le122.t le169)))),hS,m168,(m125.up le169)⟩
theorem p_levels_w (hg:Le Gm μ0)  {r:List TSynLevel}  (h:p_levels =some r) (hS:Sq μ0 w0 w (rsF)):CallsV prog 164 [] w (fun v w'=>∃ (μ':M) (a1:Option Addr) (c2:Nat),v=.slice a1 r.length c2∧Le μ0 μ'∧Sq μ' w0 w' (rsF)∧Sl μ' a1 c2 r):=by
 unfold p_levels at h
 refine enter func164 rfl (frm:=u2 (u5 (u10 []))) rfl (nz (st (nx ?_)))
 refine wl (s_mkmap hS ?_); clear hS; intro b4 w1 hb5 hS; refine po ?_
 refine wl (s_minsM (κ:=List UInt8) (β:=Int) (kk:=[111,114]) (xx:=18) underlying95 underlying9 (et d1) ec ec rfl hS d0 (Mq.nil (κ:=List UInt8) (β:=Int) (μ:=μ0) (c:=0)) dn ?_); clear hS; intro es6 c7 w2 rs_ m8 hp_ hS; cases (show _=rs_ from hp_)
 replace hS:=Sep.reput hS p0
 refine st (wl (s_build ti274 pl274 (Fl.o rfl (et d2) rfl rfl p0 (Fl.o rfl ec rfl rfl p1 Fl.z)) (dt p3) ?_))
 refine wl (s_mkmap hS ?_); clear hS; intro b9 w3 hb10 hS; refine po ?_
 refine wl (s_minsM (κ:=List UInt8) (β:=Int) (kk:=[97,110,100]) (xx:=17) underlying95 underlying9 (et d4) ec ec rfl hS d0 (Mq.nil (κ:=List UInt8) (β:=Int) (μ:=μ0) (c:=0)) dn ?_); clear hS; intro es11 c12 w4 rs_ m13 hp_ hS; cases (show _=rs_ from hp_)
 replace hS:=Sep.reput hS p0
 refine st (wl (s_build ti274 pl274 (Fl.o rfl (et d5) rfl rfl p0 (Fl.o rfl ec rfl rfl p1 Fl.z)) (dt p6) ?_))
 refine wl (s_mkmap hS ?_); clear hS; intro b14 w5 hb15 hS; refine po ?_
 refine wl (s_minsM (κ:=List UInt8) (β:=Int) (kk:=[61,61]) (xx:=11) underlying95 underlying9 (et d7) ec ec rfl hS d0 (Mq.nil (κ:=List UInt8) (β:=Int) (μ:=μ0) (c:=0)) dn ?_); clear hS; intro es16 c17 w6 rs_ m18 hp_ hS; cases (show _=rs_ from hp_)
 replace hS:=Sep.reput hS p0
 refine wl (s_minsM (κ:=List UInt8) (β:=Int) (kk:=[33,61]) (xx:=12) underlying95 underlying9 (et d7) ec ec rfl hS d0 m18 dn ?_); clear hS; intro es19 c20 w7 rs_ m21 hp_ hS; cases (show _=rs_ from hp_)
 replace hS:=Sep.reput hS p0
 refine wl (s_minsM (κ:=List UInt8) (β:=Int) (kk:=[60]) (xx:=13) underlying95 underlying9 (et d7) ec ec rfl hS d0 m21 dn ?_); clear hS; intro es22 c23 w8 rs_ m24 hp_ hS; cases (show _=rs_ from hp_)
 replace hS:=Sep.reput hS p0
 refine wl (s_minsM (κ:=List UInt8) (β:=Int) (kk:=[60,61]) (xx:=14) underlying95 underlying9 (et d7) ec ec rfl hS d0 m24 dn ?_); clear hS; intro es25 c26 w9 rs_ m27 hp_ hS; cases (show _=rs_ from hp_)
 replace hS:=Sep.reput hS p0
 refine wl (s_minsM (κ:=List UInt8) (β:=Int) (kk:=[62]) (xx:=15) underlying95 underlying9 (et d7) ec ec rfl hS d0 m27 dn ?_); clear hS; intro es28 c29 w10 rs_ m30 hp_ hS; cases (show _=rs_ from hp_)
 replace hS:=Sep.reput hS p0
 refine wl (s_minsM (κ:=List UInt8) (β:=Int) (kk:=[62,61]) (xx:=16) underlying95 underlying9 (et d7) ec ec rfl hS d0 m30 dn ?_); clear hS; intro es31 c32 w11 rs_ m33 hp_ hS; cases (show _=rs_ from hp_)
 replace hS:=Sep.reput hS p0
 refine st (wl (s_build ti274 pl274 (Fl.o rfl (et d8) rfl rfl p0 (Fl.o rfl ec rfl rfl p1 Fl.z)) (dt p9) ?_))
 refine wl (s_mkmap hS ?_); clear hS; intro b34 w12 hb35 hS; refine po ?_
 refine wl (s_minsM (κ:=List UInt8) (β:=Int) (kk:=[43]) (xx:=6) underlying95 underlying9 (et (k10 d0)) ec ec rfl hS d0 (Mq.nil (κ:=List UInt8) (β:=Int) (μ:=μ0) (c:=0)) dn ?_); clear hS; intro es36 c37 w13 rs_ m38 hp_ hS; cases (show _=rs_ from hp_)
 replace hS:=Sep.reput hS p0
 refine wl (s_minsM (κ:=List UInt8) (β:=Int) (kk:=[45]) (xx:=7) underlying95 underlying9 (et (k10 d0)) ec ec rfl hS d0 m38 dn ?_); clear hS; intro es39 c40 w14 rs_ m41 hp_ hS; cases (show _=rs_ from hp_)
 replace hS:=Sep.reput hS p0
 refine st (wl (s_build ti274 pl274 (Fl.o rfl (et (k10 d1)) rfl rfl p0 (Fl.o rfl ec rfl rfl p1 Fl.z)) (dt (q10 p2)) ?_))
 refine wl (s_mkmap hS ?_); clear hS; intro b42 w15 hb43 hS; refine po ?_
 refine wl (s_minsM (κ:=List UInt8) (β:=Int) (kk:=[42]) (xx:=8) underlying95 underlying9 (et (k10 d3)) ec ec rfl hS d0 (Mq.nil (κ:=List UInt8) (β:=Int) (μ:=μ0) (c:=0)) dn ?_); clear hS; intro es44 c45 w16 rs_ m46 hp_ hS; cases (show _=rs_ from hp_)
 replace hS:=Sep.reput hS p0
 refine wl (s_minsM (κ:=List UInt8) (β:=Int) (kk:=[47]) (xx:=9) underlying95 underlying9 (et (k10 d3)) ec ec rfl hS d0 m46 dn ?_); clear hS; intro es47 c48 w17 rs_ m49 hp_ hS; cases (show _=rs_ from hp_)
 replace hS:=Sep.reput hS p0
 refine wl (s_minsM (κ:=List UInt8) (β:=Int) (kk:=[37]) (xx:=10) underlying95 underlying9 (et (k10 d3)) ec ec rfl hS d0 m49 dn ?_); clear hS; intro es50 c51 w18 rs_ m52 hp_ hS; cases (show _=rs_ from hp_)
 replace hS:=Sep.reput hS p0
 refine st (wl (s_build ti274 pl274 (Fl.o rfl (et (k10 d4)) rfl rfl p0 (Fl.o rfl ec rfl rfl p1 Fl.z)) (dt (q10 p5)) ?_))
 replace hS:=hS.bg Y4
 obtain ⟨μ1,le54,m53,hS⟩:=Sep.frzMap hS m8
 replace hS:=hS.bg Y3
 obtain ⟨μ2,le56,m55,hS⟩:=Sep.frzMap hS (m13.up le54)
 replace hS:=hS.bg Y2
 obtain ⟨μ3,le58,m57,hS⟩:=Sep.frzMap hS (m33.up (le54.t le56))
 replace hS:=hS.bg Y1
 obtain ⟨μ4,le60,m59,hS⟩:=Sep.frzMap hS (m41.up (le54.t (le56.t le58)))
 obtain ⟨μ5,le62,m61,hS⟩:=Sep.frzMap hS (m52.up (le54.t (le56.t (le58.t le60))))
 refine wl (s_bslA underlying271 ti274 (by decide) (.s (et d3) rfl rfl (.s (et d6) rfl rfl (.s (et d9) rfl rfl (.s (et (k10 d2)) rfl rfl (.s (et (k10 d5)) rfl rfl .z))))) rfl hS ?_); clear hS; intro b63 w19 hb64 hS; refine po ?_
 refine st (nw (cret ?_))
 obtain ⟨μ6,le66,m65,hS⟩:=Sep.frzBlk (l:=([(TSynLevel.mk (mput ([]:List (List UInt8×Int)) [111,114] 18) false),(TSynLevel.mk (mput ([]:List (List UInt8×Int)) [97,110,100] 17) false),(TSynLevel.mk (mput (mput (mput (mput (mput (mput ([]:List (List UInt8×Int)) [61,61] 11) [33,61] 12) [60] 13) [60,61] 14) [62] 15) [62,61] 16) true),(TSynLevel.mk (mput (mput ([]:List (List UInt8×Int)) [43] 6) [45] 7) false),(TSynLevel.mk (mput (mput (mput ([]:List (List UInt8×Int)) [42] 8) [47] 9) [37] 10) false)]:List TSynLevel)) hS (Rw.cons (α:=TSynLevel) (cs:=[.map (some b4),.bool false]) (TSynLevel.i ⟨b4,rfl,(m53.up (le56.t (le58.t (le60.t le62))))⟩) (Rw.cons (α:=TSynLevel) (cs:=[.map (some b9),.bool false]) (TSynLevel.i ⟨b9,rfl,(m55.up (le58.t (le60.t le62)))⟩) (Rw.cons (α:=TSynLevel) (cs:=[.map (some b14),.bool true]) (TSynLevel.i ⟨b14,rfl,(m57.up (le60.t le62))⟩) (Rw.cons (α:=TSynLevel) (cs:=[.map (some b34),.bool false]) (TSynLevel.i ⟨b34,rfl,(m59.up le62)⟩) (Rw.cons (α:=TSynLevel) (cs:=[.map (some b42),.bool false]) (TSynLevel.i ⟨b42,rfl,m61⟩) Rw.nil))))) (Nat.le_of_ble_eq_true rfl)
 obtain rfl:=oI h
 refine ret1 rfl d0 ?_
 exact ⟨_,(some ⟨b63,0,none⟩),5,rfl,(le54.t (le56.t (le58.t (le60.t (le62.t le66))))),hS,m65⟩
theorem p_into_w (hg:Le Gm μ0) {left_2:List TToken} {end_6 deep_7:Int} {r:List TToken×Int×Int} (m5:Sl μ0 a3 c4 left_2) (h:p_into left_2 end_6 deep_7=some r) (hS:Sq μ0 w0 w (.blk b1 83 [.slice a3 left_2.length c4,.int .i64 end_6,.int .i64 deep_7]::rsF)):CallsV prog 102 [.pointer (some ⟨b1,0,none⟩)] w (fun v w'=>∃ (μ':M) (b8:Nat) (a9:Option Addr) (c10:Nat),v=.func (.func 135) ⟨[]⟩ ⟨[.pointer (some ⟨b8,0,none⟩)]⟩∧Le μ0 μ'∧Sq μ' w0 w' (.blk b8 81 [.pointer (some ⟨b1,0,none⟩)]::.blk b1 83 [.slice a9 r.1.length c10,.int .i64 r.2.1,.int .i64 r.2.2]::rsF)∧Sl μ' a9 c10 r.1):=by
 unfold p_into at h
 refine enter func102 rfl (frm:=_::u2 (u2 (u5 (u10 [])))) rfl (nz ?_)
 refine wl (s_box (et d0) rfl hS ?_); clear hS; intro b12 w1 hb13 hS; refine po ?_
 refine st (ny (nz (ld ((hS.blk d0).cell d0) ?_)))
 iterate 2 refine st ?_
 refine ld ((hS.blk d1).cell d2) ?_
 obtain ⟨i14,g15,h⟩:=bI h
 refine wl (su (u_addc (et d6) ec g15) (dt p7) ?_)
 iterate 2 refine st ?_
 refine wl (s_store1 ti3 (et d9) (et d7) rfl hS d1 p2 rfl p1 dn ?_)
 clear hS; intro w2 hS
 refine nx (ld ((hS.blk d0).cell d0) ?_)
 iterate 2 refine st ?_
 refine ld ((hS.blk d1).cell d2) (st (nw ?_))
 refine cifd (et (k10 d4)) (xT h) fun h16=>?_
 replace h:=iF h16 h
 refine cskip (xn (nz (wl (su (u_mkfn e0 (e1 (et d1) e0)) (dt (q10 p9)) (st (nw (cret ?_)))))))
 obtain rfl:=oI h
 refine ret1 rfl d2 ?_
 exact ⟨_,_,_,_,rfl,Le.r,hS,m5⟩
theorem p_out_w {μ0:M} {w0 w:World} {rsF:List Res} (hg:Le Gm μ0) {b1 b2:Nat} {left_3:List TToken} {a4:Option Addr} {c5:Nat} {end_7 deep_8:Int} {r:List TToken×Int×Int} (m6:Sl μ0 a4 c5 left_3) (h:p_out left_3 end_7 deep_8=some r) (hS:Sq μ0 w0 w (.blk b1 81 [.pointer (some ⟨b2,0,none⟩)]::.blk b2 83 [.slice a4 left_3.length c5,.int .i64 end_7,.int .i64 deep_8]::rsF)):CallsDV prog 135 [.pointer (some ⟨b1,0,none⟩)] w (fun v w'=>∃ (μ':M) (a9:Option Addr) (c10:Nat),v=.tuple ⟨[]⟩∧Le μ0 μ'∧Sq μ' w0 w' (.blk b1 81 [.pointer (some ⟨b2,0,none⟩)]::.blk b2 83 [.slice a9 r.1.length c10,.int .i64 r.2.1,.int .i64 r.2.2]::rsF)∧Sl μ' a9 c10 r.1):=by
 unfold p_out at h
 refine enterDD func135 rfl (frm:=[_,_,_,_,_,_,_,_]) rfl (creg (ld ((hS.blk d0).cell d0) ?_))
 iterate 2 refine st ?_
 refine ld ((hS.blk d1).cell d2) ?_
 obtain ⟨i12,g13,h⟩:=bI h
 refine wl (su (u_subc (et d4) ec g13) (dt p5) ?_)
 iterate 2 refine st ?_
 refine wl (s_store1 ti3 (et d7) (et d5) rfl hS d1 p2 rfl p1 dn ?_)
 clear hS; intro w1 hS
 refine wnil ?_
 obtain rfl:=oI h
 refine end0 rfl ?_
 exact ⟨_,_,_,rfl,Le.r,hS,m6⟩
end Go.Proofs.YtaenlbapejigbaaGreatDoor
set_option maxRecDepth 100000
set_option maxHeartbeats 20000000
namespace Go.Proofs.YtaenlbapejigbaaGreatDoor
open Go.Wk Go.Xt Go.Y Tryz
variable {b1 c4 fu:Nat} {a3:Option Addr} {μ0:M} {w0 w:World} {rsF:List Res}
structure ParESound (sf:ParE):Prop where
  p_expr:∀ {μ0:M} {w0 w:World} {rsF:List Res} (hg:Le Gm μ0) {b1:Nat} {left_2:List TToken} {a3:Option Addr} {c4:Nat} {end_6 deep_7:Int} {r:TExpr×List TToken×Int×Int} (m5:Sl μ0 a3 c4 left_2) (h:sf.p_expr left_2 end_6 deep_7=some r) (hS:Sq μ0 w0 w (.blk b1 83 [.slice a3 left_2.length c4,.int .i64 end_6,.int .i64 deep_7]::rsF)),CallsV prog 136 [.pointer (some ⟨b1,0,none⟩)] w (fun v w'=>∃ (μ':M) (a8:Option Addr) (c9:Nat) (a11:Option Addr) (c12:Nat),v=.agg ⟨[.int .i64 r.1.Kind,.int .i64 r.1.N,S r.1.Name,.slice a8 r.1.Kids.length c9]⟩∧Le μ0 μ'∧Sq μ' w0 w' (.blk b1 83 [.slice a11 r.2.1.length c12,.int .i64 r.2.2.1,.int .i64 r.2.2.2]::rsF)∧Sl μ' a8 c9 r.1.Kids∧Sl μ' a11 c12 r.2.1)
  p_level:∀ {μ0:M} {w0 w:World} {rsF:List Res} (hg:Le Gm μ0) {b1:Nat} {left_2:List TToken} {a3:Option Addr} {c4:Nat} {end_6 deep_7 p_2:Int} {r:TExpr×List TToken×Int×Int} (m5:Sl μ0 a3 c4 left_2) (h:sf.p_level left_2 end_6 deep_7 p_2=some r) (hS:Sq μ0 w0 w (.blk b1 83 [.slice a3 left_2.length c4,.int .i64 end_6,.int .i64 deep_7]::rsF)),CallsV prog 155 [.pointer (some ⟨b1,0,none⟩),.int .i64 p_2] w (fun v w'=>∃ (μ':M) (a8:Option Addr) (c9:Nat) (a11:Option Addr) (c12:Nat),v=.agg ⟨[.int .i64 r.1.Kind,.int .i64 r.1.N,S r.1.Name,.slice a8 r.1.Kids.length c9]⟩∧Le μ0 μ'∧Sq μ' w0 w' (.blk b1 83 [.slice a11 r.2.1.length c12,.int .i64 r.2.2.1,.int .i64 r.2.2.2]::rsF)∧Sl μ' a8 c9 r.1.Kids∧Sl μ' a11 c12 r.2.1)
  p_unary:∀ {μ0:M} {w0 w:World} {rsF:List Res} (hg:Le Gm μ0) {b1:Nat} {left_2:List TToken} {a3:Option Addr} {c4:Nat} {end_6 deep_7:Int} {r:TExpr×List TToken×Int×Int} (m5:Sl μ0 a3 c4 left_2) (h:sf.p_unary left_2 end_6 deep_7=some r) (hS:Sq μ0 w0 w (.blk b1 83 [.slice a3 left_2.length c4,.int .i64 end_6,.int .i64 deep_7]::rsF)),CallsV prog 165 [.pointer (some ⟨b1,0,none⟩)] w (fun v w'=>∃ (μ':M) (a8:Option Addr) (c9:Nat) (a11:Option Addr) (c12:Nat),v=.agg ⟨[.int .i64 r.1.Kind,.int .i64 r.1.N,S r.1.Name,.slice a8 r.1.Kids.length c9]⟩∧Le μ0 μ'∧Sq μ' w0 w' (.blk b1 83 [.slice a11 r.2.1.length c12,.int .i64 r.2.2.1,.int .i64 r.2.2.2]::rsF)∧Sl μ' a8 c9 r.1.Kids∧Sl μ' a11 c12 r.2.1)
  p_primary:∀ {μ0:M} {w0 w:World} {rsF:List Res} (hg:Le Gm μ0) {b1:Nat} {left_2:List TToken} {a3:Option Addr} {c4:Nat} {end_6 deep_7:Int} {r:TExpr×List TToken×Int×Int} (m5:Sl μ0 a3 c4 left_2) (h:sf.p_primary left_2 end_6 deep_7=some r) (hS:Sq μ0 w0 w (.blk b1 83 [.slice a3 left_2.length c4,.int .i64 end_6,.int .i64 deep_7]::rsF)),CallsV prog 175 [.pointer (some ⟨b1,0,none⟩)] w (fun v w'=>∃ (μ':M) (a8:Option Addr) (c9:Nat) (a11:Option Addr) (c12:Nat),v=.agg ⟨[.int .i64 r.1.Kind,.int .i64 r.1.N,S r.1.Name,.slice a8 r.1.Kids.length c9]⟩∧Le μ0 μ'∧Sq μ' w0 w' (.blk b1 83 [.slice a11 r.2.1.length c12,.int .i64 r.2.2.1,.int .i64 r.2.2.2]::rsF)∧Sl μ' a8 c9 r.1.Kids∧Sl μ' a11 c12 r.2.1)
  p_args:∀ {μ0:M} {w0 w:World} {rsF:List Res} (hg:Le Gm μ0) {b1:Nat} {left_2:List TToken} {a3:Option Addr} {c4:Nat} {end_6 deep_7:Int} {r:List TExpr×List TToken×Int×Int} (m5:Sl μ0 a3 c4 left_2) (h:sf.p_args left_2 end_6 deep_7=some r) (hS:Sq μ0 w0 w (.blk b1 83 [.slice a3 left_2.length c4,.int .i64 end_6,.int .i64 deep_7]::rsF)),CallsV prog 187 [.pointer (some ⟨b1,0,none⟩)] w (fun v w'=>∃ (μ':M) (a8:Option Addr) (c9:Nat) (a11:Option Addr) (c12:Nat),v=.slice a8 r.1.length c9∧Le μ0 μ'∧Sq μ' w0 w' (.blk b1 83 [.slice a11 r.2.1.length c12,.int .i64 r.2.2.1,.int .i64 r.2.2.2]::rsF)∧Sl μ' a8 c9 r.1∧Sl μ' a11 c12 r.2.1)
theorem p_expr_w {self:ParE} (IH:ParESound self) {μ0:M} {w0 w:World} {rsF:List Res} (hg:Le Gm μ0) {b1:Nat} {left_2:List TToken} {a3:Option Addr} {c4:Nat} {end_6 deep_7:Int} {r:TExpr×List TToken×Int×Int} (m5:Sl μ0 a3 c4 left_2) (h:p_expr self left_2 end_6 deep_7=some r) (hS:Sq μ0 w0 w (.blk b1 83 [.slice a3 left_2.length c4,.int .i64 end_6,.int .i64 deep_7]::rsF)):CallsV prog 136 [.pointer (some ⟨b1,0,none⟩)] w (fun v w'=>∃ (μ':M) (a8:Option Addr) (c9:Nat) (a11:Option Addr) (c12:Nat),v=.agg ⟨[.int .i64 r.1.Kind,.int .i64 r.1.N,S r.1.Name,.slice a8 r.1.Kids.length c9]⟩∧Le μ0 μ'∧Sq μ' w0 w' (.blk b1 83 [.slice a11 r.2.1.length c12,.int .i64 r.2.2.1,.int .i64 r.2.2.2]::rsF)∧Sl μ' a8 c9 r.1.Kids∧Sl μ' a11 c12 r.2.1):=by
 unfold p_expr at h
 refine enterF func136 rfl (frm:=_::u1 (u5 [])) rfl (nz ?_)
 refine wl (s_alloc ti193 hS ?_); clear hS; intro b14 w1 hb15 hS; refine po ?_
 refine nx (st ?_)
 obtain ⟨r16,g17,h⟩:=bI h
 replace hS:=hS.bg Y1
 refine ca (p_into_w hg m5 g17 hS) ?_
 rintro _ w2 ⟨μ1,b19,a20,c21,rfl,le18,hS,m22⟩
 refine po (wl (s_defer (et d4) e0 dn (nx (st ?_))))
 obtain ⟨r23,g24,h⟩:=bI h
 replace hS:=hS.bg Y1
 refine ca (IH.p_level (hg.t le18) m22 g24 hS) ?_
 rintro _ w3 ⟨μ2,a26,c27,a29,c30,rfl,le25,hS,m28,m31⟩
 refine po (wl (s_storeA ti193 (et d2) (et d6) rfl rfl hS d2 rfl p2 dn ?_))
 clear hS; intro w4 hS
 refine nw (cret ?_)
 obtain ⟨r32,g33,h⟩:=bI h
 replace hS:=hS.bg Y1
 refine retD isfn135 (p_out_w (hg.t (le18.t le25)) m31 g33 hS) ?_
 rintro _ w5 ⟨μ3,a35,c36,rfl,le34,hS,m37⟩
 obtain rfl:=oI h
 refine retDN rfl (RVs.s (.a d2 ti193 (hS.blk d2).cells rfl) RVs.z) ?_
 replace hS:=(hS.drop Rm.z).drop (Rm.s Rm.z)
 exact ⟨_,_,_,_,_,rfl,(le18.t (le25.t le34)),hS,(m28.up le34),m37⟩
theorem p_level_w {self:ParE} (IH:ParESound self) {fu:Nat} {μ0:M} {w0 w:World} {rsF:List Res} (hg:Le Gm μ0) {b1:Nat} {left_2:List TToken} {a3:Option Addr} {c4:Nat} {end_6 deep_7 p_2:Int} {r:TExpr×List TToken×Int×Int} (m5:Sl μ0 a3 c4 left_2) (h:p_level fu self left_2 end_6 deep_7 p_2=some r) (hS:Sq μ0 w0 w (.blk b1 83 [.slice a3 left_2.length c4,.int .i64 end_6,.int .i64 deep_7]::rsF)):CallsV prog 155 [.pointer (some ⟨b1,0,none⟩),.int .i64 p_2] w (fun v w'=>∃ (μ':M) (a8:Option Addr) (c9:Nat) (a11:Option Addr) (c12:Nat),v=.agg ⟨[.int .i64 r.1.Kind,.int .i64 r.1.N,S r.1.Name,.slice a8 r.1.Kids.length c9]⟩∧Le μ0 μ'∧Sq μ' w0 w' (.blk b1 83 [.slice a11 r.2.1.length c12,.int .i64 r.2.2.1,.int .i64 r.2.2.2]::rsF)∧Sl μ' a8 c9 r.1.Kids∧Sl μ' a11 c12 r.2.1):=by
 unfold p_level at h
 refine enter func155 rfl (frm:=_::_::u10 (u50 [])) rfl (nz ?_)
 refine wl (s_alloc ti193 hS ?_); clear hS; intro b14 w1 hb15 hS; refine po ?_
 refine nx ?_
 obtain ⟨r16,g17,h⟩:=bI h
 refine ca (p_levels_w hg g17 hS) ?_
 rintro _ w2 ⟨μ1,a19,c20,rfl,le18,hS,m21⟩
 refine po (st (ny (nz ?_)))
 iterate 2 refine st ?_
 refine wl (su (u_lensl underlying271 (et (k10 d0))) (dt (q10 p1)) (st (nw ?_)))
 refine cifd (et (k10 d2)) (fun h22=>?_) (fun h22=>?_)
 ·replace h:=iT h22 h
  refine nz (st ?_)
  obtain ⟨r23,g24,h⟩:=bI h
  replace hS:=hS.bg Y1
  refine ca (IH.p_unary (hg.t le18) (m5.up le18) g24 hS) ?_
  rintro _ w3 ⟨μ2,a26,c27,a29,c30,rfl,le25,hS,m28,m31⟩
  refine po (wl (s_storeA ti193 (et d4) (et (k10 d4)) rfl rfl hS d1 rfl p1 dn ?_))
  clear hS; intro w4 hS
  refine nw (cret (xr ?_))
  obtain rfl:=oI h
  refine retN rfl (RVs.s (.a d4 ti193 (hS.blk d1).cells rfl) RVs.z) ?_
  replace hS:=hS.drop (Rm.s Rm.z)
  exact ⟨_,_,_,_,_,rfl,(le18.t le25),hS,m28,m31⟩
 ·replace h:=iF h22 h
  refine cskip (xn (nz ?_))
  iterate 2 refine st ?_
  obtain ⟨i33,g34,h⟩:=bI h
  refine wl (su (u_addc (et (k10 d6)) ec g34) (dt (q10 p7)) ?_)
  obtain ⟨r35,g36,h⟩:=bI h
  replace hS:=hS.bg Y1
  refine ca (IH.p_level (hg.t le18) (m5.up le18) g36 hS) ?_
  rintro _ w5 ⟨μ3,a38,c39,a41,c42,rfl,le37,hS,m40,m43⟩
  refine po ?_
  refine wl (s_alloc ti193 hS ?_); clear hS; intro b44 w6 hb45 hS; refine po ?_
  refine wl (s_storeA ti193 (et d6) (et (k10 d8)) rfl rfl hS d0 rfl p0 dn ?_)
  clear hS; intro w7 hS
  refine ny ?_
  refine ccutE ([7]++rg 19 42) (by decide +kernel) (fun m w=>∃ μx l48 a46 c47 i50 i51 i52 i53 s54 l57 a55 c56,m=(yK7 (yO1 7 (yK10 (yK1 (yO20 19 (yO20 39 (yO2 59 [])))))))∧p_level_j1 l48 i50 i51 i52 i53 s54 l57=some r∧Le μ3 μx∧Sq μx w0 w (.blk b1 83 [.slice a46 l48.length c47,.int .i64 i50,.int .i64 i51]::.blk b14 193 [.int .i64 0,.int .i64 0,S [],.slice none 0 0]::.blk b44 193 [.int .i64 i52,.int .i64 i53,S s54,.slice a55 l57.length c56]::rsF)∧Sl μx a46 c47 l48∧Sl μx a55 c56 l57) (by rintro _ _ ⟨_,_,_,_,_,_,_,_,_,_,_,_,rfl,_⟩; rfl) ?_ ?_
  ·refine cblock ?_
   replace hS:=(hS.bg Y2).bg Y2
   refine cloopE ([7]++rg 19 42) (by decide +kernel) (fun n m w=>∃ μx l114 a112 c113 i116 i117 i118 i119 s120 l123 a121 c122,m=(yK7 (yO1 7 (yK10 (yK1 (yO20 19 (yO20 39 (yO2 59 [])))))))∧p_level_l1 self p_2 r16 n l114 i116 i117 i118 i119 s120 l123=some r∧Le μ3 μx∧Sq μx w0 w (.blk b1 83 [.slice a112 l114.length c113,.int .i64 i116,.int .i64 i117]::.blk b14 193 [.int .i64 0,.int .i64 0,S [],.slice none 0 0]::.blk b44 193 [.int .i64 i118,.int .i64 i119,S s120,.slice a121 l123.length c122]::rsF)∧Sl μx a112 c113 l114∧Sl μx a121 c122 l123) (by rintro _ _ _ ⟨_,_,_,_,_,_,_,_,_,_,_,_,rfl,_⟩; rfl) _ _ (aK7 (aO1 (aK10 (aK1 (aO20 (aO20 (aO2 aZ))))))) ⟨_,r35.2.1,a41,c42,r35.2.2.1,r35.2.2.2,r35.1.Kind,r35.1.N,r35.1.Name,r35.1.Kids,a38,c39,rfl,h,Le.r,hS,m43,m40⟩ ?_
   rintro n_1 _ t w8 ⟨μ4,l114,a112,c113,i116,i117,i118,i119,s120,l123,a121,c122,rfl,h,le178,hS,m179,m180⟩
   cases n_1 with
   | zero=>cases h
   | succ n_1 =>
   unfold p_level_l1 at h
   refine cnrm (mK7 (mO1 (mK10 (mK1 (mO20 (mO20 (mO2 mz))))))) (cseq (nz ?_))
   iterate 3 refine st ?_
   refine ld ((hS.blk d0).cell d0) (wl (su (u_lensl underlying76 (et (k20 d2))) (dt (q20 p3)) (st (nw ?_))))
   refine cifd (et (k20 d4)) (fun h181=>?_) (xF h)
   replace h:=iT h181 h
   refine cskip (xn (cblock (cseq ?_)))
   refine cdw hS ?_; clear hS; intro w9 hS
   refine sf_start (fpi 0 [0,2,3,4,12,13] rfl (fpi 1 [1,2,3,4,12,13] rfl ?_))
   obtain ⟨x182,g183,h⟩:=bI h
   obtain ⟨b184,o185,cs186,e187,f188,m189⟩:=SlR.elem (m21.up (le37.t le178)) g183
   obtain ⟨b190,rfl,m191⟩:=m189
   refine fp 2 [2,3,4,12,13] rfl (u_iax underlying271 ti274 (et (k20 d5)) (et (k20 d6)) e187) (q20 p7) (fpi 3 [3,4,12,13] rfl (fr_ 4 [4,12,13] rfl (u_load ti95 (et (k20 d8)) ((f188 _ hS.a).one d0)) (q20 p9) (fpi 5 [5,6,7,8,9,10,11,12,13] rfl (fpi 6 [6,7,8,9,10,11,12,13] rfl (fpi 7 [7,8,9,10,11,12,13] rfl (fr_ 8 [8,9,10,11,12,13] rfl (u_load ti76 (et (k30 d2)) ((hS.blk d0).cell d0)) (q30 p3) ?_))))))
   obtain ⟨x192,g193,h⟩:=bI h
   obtain ⟨b194,o195,cs196,e197,f198,m199⟩:=SlR.elem m179 g193
   obtain rfl:=m199
   refine fp 9 [9,10,11,12,13] rfl (u_iax underlying76 ti133 (et (k30 d3)) ec e197) (q30 p4) (fpi 10 [10,11,12,13] rfl (fr_ 11 [11,12,13] rfl (u_load ti9 (et (k30 d5)) ((f198 _ hS.a).one d1)) (q30 p6) ?_))
   obtain ⟨es200,c201,hb202,hq203⟩:=m191
   refine sf1 rfl rfl rfl rfl (wn0 rfl) (s_mget1 (κ:=List UInt8) (k:=x192.Text) (β:=Int) (zx:=0) underlying95 underlying9 (et (k20 d9)) (et (k30 d6)) zv3 rfl (hb202 _ hS.a) hq203 ?_); rintro _ rfl; refine po ?_
   refine ⟨Mons.z,?_⟩
   refine fpi 13 [13] rfl (sf_nil (xn (cseq (nz ?_))))
   iterate 2 refine st ?_
   refine nw ?_
   refine cifd (et (k30 d9)) (fun h206=>?_) (fun h206=>?_)
   ·replace h:=iT h206 h
    refine cexit ?_
    refine (fun h=>xe (bm rfl (xe (bh h)))) ?_
    refine xl ?_
    exact ⟨_,_,rfl,(aK7 (aO1 (aK10 (aK1 (aO20 (aO20 (aO2 aZ))))))),_,_,_,_,_,_,_,_,_,_,_,_,rfl,h,le178,hS,m179,m180⟩
   ·replace h:=iF h206 h
    refine cskip (xn (nz ?_))
    iterate 4 refine st ?_
    refine ld ((hS.blk d0).cell d0) ?_
    obtain ⟨l207,g208,h⟩:=bI h
    obtain ⟨a209,c210,e211,m212⟩:=Sl.slc (i:=some 1) (j:=none) m179 g208
    refine wl (su (u_slc underlying76 ti133 (et (k40 d4)) (.s ec) .n e211) (dt (q40 p5)) ?_)
    iterate 2 refine st ?_
    refine wl (s_store1 ti76 (et (k40 d7)) (et (k40 d5)) rfl hS d0 p0 rfl p0 dn ?_)
    clear hS; intro w10 hS
    refine ny ?_
    refine ccutE (rg 48 8) (by decide) (fun m w=>∃ μx l215 a213 c214 i217 i218 l221 a219 c220,m=(yK20 (yK20 (yK8 (yO8 48 []))))∧p_level_j2 p_2 r16 x182 x192 (p_level_l1 self p_2 r16 n_1) l215 i217 i218 l221=some r∧Le μ4 μx∧Sq μx w0 w (.blk b1 83 [.slice a213 l215.length c214,.int .i64 i217,.int .i64 i218]::.blk b14 193 [.int .i64 0,.int .i64 0,S [],.slice none 0 0]::.blk b44 193 [.int .i64 ((mget x182.signs x192.Text).getD 0),.int .i64 0,S [],.slice a219 l221.length c220]::rsF)∧Sl μx a213 c214 l215∧Sl μx a219 c220 l221) (by rintro _ _ ⟨_,_,_,_,_,_,_,_,_,rfl,_⟩; rfl) ?_ ?_
    ·refine cdw hS ?_; clear hS; intro w11 hS
     refine sf_start (fpi 0 [0,7,8] rfl (fr_ 1 [1,6,7,8] rfl (u_loads ti193 (et d6) (hS.blk d2).cells rfl) (q40 p9) (fpi 2 [2,5,6,7,8] rfl (fpi 3 [3,4,5,6,7,8] rfl ?_))))
     obtain ⟨i231,g232,h⟩:=bI h
     refine fp 4 [4,5,6,7,8] rfl (u_addc (et (k50 d1)) ec g232) (q50 p2) ?_
     obtain ⟨r233,g234,h⟩:=bI h
     refine sf1 rfl rfl rfl rfl (wn0 rfl) (s_callv isfn155 ef (e1 (et (k50 d0)) (e1 (et (k50 d2)) e0)) (IH.p_level (hg.t (le18.t (le37.t le178))) m212 g234 hS) ?_)
     rintro _ w12 ⟨μ5,a236,c237,a239,c240,rfl,le235,hS,m238,m241⟩
     refine po ?_
     refine ⟨(Mons.s (u_loads ti193 (et d6) (hS.blk d2).cells rfl) Mons.z),?_⟩
     refine sf1 rfl rfl rfl rfl (wn0 rfl) (s_bslA underlying191 ti193 (by decide) (.s (et (k40 d9)) rfl rfl (.s (et (k50 d3)) rfl rfl .z)) rfl hS ?_); clear hS; intro b242 w13 hb243 hS; refine po ?_
     refine ⟨Mons.z,?_⟩
     refine fp 7 [7,8] rfl (u_build ti193 pl193 (Fl.o rfl (et (k40 d8)) rfl rfl p0 (Fl.o rfl (et (k50 d4)) rfl rfl p3 Fl.z))) (q50 p5) (sf1 rfl rfl rfl rfl (wn0 rfl) (s_storeA ti193 (et d6) (et (k50 d5)) rfl rfl hS d3 rfl p3 dn ?_))
     clear hS; intro w14 hS
     refine ⟨Mons.z,?_⟩
     refine sf_nil (xl ?_)
     obtain ⟨μ6,le245,m244,hS⟩:=Sep.frzBlk (l:=([(TExpr.mk i118 i119 s120 l123),r233.1]:List TExpr)) hS (Rw.cons (α:=TExpr) (cs:=[.int .i64 i118,.int .i64 i119,S s120,.slice a121 l123.length c122]) (TExpr.i ⟨a121,c122,rfl,(m180.up le235)⟩) (Rw.cons (α:=TExpr) (cs:=[.int .i64 r233.1.Kind,.int .i64 r233.1.N,S r233.1.Name,.slice a236 r233.1.Kids.length c237]) (TExpr.i ⟨a236,c237,rfl,m238⟩) Rw.nil)) (Nat.le_of_ble_eq_true rfl)
     exact ⟨_,_,rfl,(aK20 (aK20 (aK8 (aO8 aZ)))),_,r233.2.1,_,_,r233.2.2.1,r233.2.2.2,[(TExpr.mk i118 i119 s120 l123),r233.1],(some ⟨b242,0,none⟩),2,rfl,h,(le235.t le245),hS,(m241.up le245),m244⟩
    ·rintro _ t w15 ⟨μ7,l215,a213,c214,i217,i218,l221,a219,c220,rfl,h,le246,hS,m247,m248⟩
     unfold p_level_j2 at h
     refine nrm (mK20 (mK20 (mK8 (mO8 mz)))) (xn (nz ?_))
     iterate 2 refine st ?_
     obtain ⟨x249,g250,h⟩:=bI h
     obtain ⟨b251,o252,cs253,e254,f255,m256⟩:=SlR.elem (m21.up (le37.t (le178.t le246))) g250
     obtain ⟨b257,rfl,m258⟩:=m256
     refine wl (su (u_iax underlying271 ti274 (et (k50 d6)) (et (k50 d7)) e254) (dt (q50 p8)) (st (ld ((f255 _ hS.a).one d1) (nw ?_))))
     refine cifb (et (k60 d0)) (fun h259=>?_) (fun h259=>?_)
     ·replace h:=iT h259 h
      refine cexit ?_
      refine (fun h=>bm rfl (xe (bh h))) ?_
      refine xl ?_
      exact ⟨_,_,rfl,(aK7 (aO1 (aK10 (aK1 (aO20 (aO20 (aO2 aZ))))))),_,_,_,_,_,_,((mget x182.signs x192.Text).getD 0),0,[],_,_,_,rfl,h,(le178.t le246),hS,m247,m248⟩
     ·replace h:=iF h259 h
      refine cskip ?_
      refine (fun h=>bn (xl h)) ?_
      exact ⟨n_1,_,_,rfl,(aK7 (aO1 (aK10 (aK1 (aO20 (aO20 (aO2 aZ))))))),⟨_,l215,a213,c214,i217,i218,((mget x182.signs x192.Text).getD 0),0,[],l221,a219,c220,rfl,h,(le178.t le246),hS,m247,m248⟩,Nat.lt_succ_self _⟩
  ·rintro _ t w16 ⟨μ8,l48,a46,c47,i50,i51,i52,i53,s54,l57,a55,c56,rfl,h,le260,hS,m261,m262⟩
   unfold p_level_j1 at h
   refine nrm (mK7 (mO1 (mK10 (mK1 (mO20 (mO20 (mO2 mz))))))) (xn (nz (lds (hS.blk d2).cells rfl (wl (s_storeA ti193 (et d4) (et (k60 d1)) rfl rfl hS d1 rfl p1 dn ?_)))))
   clear hS; intro w17 hS
   refine nw (cret ?_)
   obtain rfl:=oI h
   refine retN rfl (RVs.s (.a d4 ti193 (hS.blk d1).cells rfl) RVs.z) ?_
   replace hS:=(hS.drop (Rm.s Rm.z)).drop (Rm.s Rm.z)
   exact ⟨_,_,_,_,_,rfl,(le18.t (le37.t le260)),hS,m262,m261⟩
theorem p_unary_w {self:ParE} (IH:ParESound self) {μ0:M} {w0 w:World} {rsF:List Res} (hg:Le Gm μ0) {b1:Nat} {left_2:List TToken} {a3:Option Addr} {c4:Nat} {end_6 deep_7:Int} {r:TExpr×List TToken×Int×Int} (m5:Sl μ0 a3 c4 left_2) (h:p_unary self left_2 end_6 deep_7=some r) (hS:Sq μ0 w0 w (.blk b1 83 [.slice a3 left_2.length c4,.int .i64 end_6,.int .i64 deep_7]::rsF)):CallsV prog 165 [.pointer (some ⟨b1,0,none⟩)] w (fun v w'=>∃ (μ':M) (a8:Option Addr) (c9:Nat) (a11:Option Addr) (c12:Nat),v=.agg ⟨[.int .i64 r.1.Kind,.int .i64 r.1.N,S r.1.Name,.slice a8 r.1.Kids.length c9]⟩∧Le μ0 μ'∧Sq μ' w0 w' (.blk b1 83 [.slice a11 r.2.1.length c12,.int .i64 r.2.2.1,.int .i64 r.2.2.2]::rsF)∧Sl μ' a8 c9 r.1.Kids∧Sl μ' a11 c12 r.2.1):=by
 unfold p_unary at h
 refine enterF func165 rfl (frm:=_::u2 (u2 (u20 []))) rfl (nz ?_)
 refine wl (s_alloc ti193 hS ?_); clear hS; intro b14 w1 hb15 hS; refine po ?_
 refine ny (nz ?_)
 refine wl (s_mkmap hS ?_); clear hS; intro b16 w2 hb17 hS; refine po ?_
 refine wl (s_minsM (κ:=List UInt8) (β:=Int) (kk:=[45]) (xx:=4) underlying95 underlying9 (et d5) ec ec rfl hS d0 (Mq.nil (κ:=List UInt8) (β:=Int) (μ:=μ0) (c:=0)) dn ?_); clear hS; intro es18 c19 w3 rs_ m20 hp_ hS; cases (show _=rs_ from hp_)
 replace hS:=Sep.reput hS p0
 refine wl (s_minsM (κ:=List UInt8) (β:=Int) (kk:=[110,111,116]) (xx:=5) underlying95 underlying9 (et d5) ec ec rfl hS d0 m20 dn ?_); clear hS; intro es21 c22 w4 rs_ m23 hp_ hS; cases (show _=rs_ from hp_)
 replace hS:=Sep.reput hS p0
 refine st ?_
 obtain ⟨n26,n27,e28,h29,h30⟩:=Mq.two (k0:=[45]) (x0:=4) (k1:=[110,111,116]) (x1:=5) m23; subst e28
 refine wl (s_rangem underlying95 (et d6) hS d0 ?_); clear hS; intro b24 w5 hb25 hS; refine po ?_
 refine nw (cblock (cunroll 3 (crnd (nz ?_))))
 refine wl (s_next0 (et d7) hS d0 d1 h29 h30 ?_ ?_)
 ·clear hS; intro w6 rs_ hp_ hS; cases (show _=rs_ from hp_)
  replace hS:=Sep.reput hS p0; refine po ?_
  refine st (ny (cift (et d9) (cskip (xn (cblock (nz (wl (s_entry (e:=⟨S [45],.int .i64 4,n26⟩) (et d7) hS d0 d1 h29 rfl (.inl rfl) (dt (q10 p0)) ?_))))))))
  iterate 4 refine st ?_
  refine nx ?_
  iterate 2 refine st ?_
  obtain ⟨r31,g32,h⟩:=bI h
  replace hS:=hS.bg Y3
  refine ca (p_is_w hg m5 g32 hS) ?_
  rintro _ w7 ⟨μ1,a34,c35,rfl,le33,hS,m36⟩
  refine po (nw ?_)
  refine cifb (et (k10 d5)) (xT h) fun h37=>?_
  replace h:=iF h37 h
  refine cskip ?_
  refine (fun h=>bn (xl h)) (xrnd (crnd ?_))
  refine nz (wl (s_next1 (et d7) hS d1 d2 h29 h30 ?_))
  clear hS; intro w8 rs_ hp_ hS; cases (show _=rs_ from hp_)
  replace hS:=Sep.reput hS p1; refine po ?_
  refine st (ny (cift (et d9) (cskip (xn (cblock (nz (wl (s_entry (e:=⟨S [110,111,116],.int .i64 5,n27⟩) (et d7) hS d1 d2 h29 rfl (.inr rfl) (dt (q10 p0)) ?_))))))))
  iterate 4 refine st ?_
  refine nx ?_
  iterate 2 refine st ?_
  obtain ⟨r38,g39,h⟩:=bI h
  refine ca (p_is_w (hg.t le33) m36 g39 hS) ?_
  rintro _ w9 ⟨μ2,a41,c42,rfl,le40,hS,m43⟩
  refine po (nw ?_)
  refine cifb (et (k10 d5)) (xT h) fun h44=>?_
  replace h:=iF h44 h
  refine cskip ?_
  refine (fun h=>bn (xl h)) (xrnd (crnd ?_))
  refine nz (wl (s_next2 (et d7) hS d1 d2 h29 h30 (.inl ⟨rfl,rfl⟩) (dt p8) (st (ny (ciff (et d9) (cexit ?_))))))
  refine (fun h=>xe (xe (bh h))) ?_
  refine xn (nz (st ?_))
  obtain ⟨r45,g46,h⟩:=bI h
  refine ca (IH.p_primary (hg.t (le33.t le40)) m43 g46 hS) ?_
  rintro _ w10 ⟨μ3,a48,c49,a51,c52,rfl,le47,hS,m50,m53⟩
  refine po (wl (s_storeA ti193 (et d2) (et (k20 d4)) rfl rfl hS d3 rfl p3 dn ?_))
  clear hS; intro w11 hS
  refine nw (cret ?_)
  obtain rfl:=oI h
  refine retDN rfl (RVs.s (.a d2 ti193 (hS.blk d3).cells rfl) RVs.z) ?_
  replace hS:=((hS.drop (Rm.s Rm.z)).drop (Rm.s Rm.z)).drop (Rm.s Rm.z)
  exact ⟨_,_,_,_,_,rfl,(le33.t (le40.t le47)),hS,m50,m53⟩
 ·clear hS; intro w12 rs_ hp_ hS; cases (show _=rs_ from hp_)
  replace hS:=Sep.reput hS p0; refine po ?_
  replace h:=is_swap (by decide) h
  refine st (ny (cift (et d9) (cskip (xn (cblock (nz (wl (s_entry (e:=⟨S [110,111,116],.int .i64 5,n27⟩) (et d7) hS d0 d1 h29 rfl (.inr rfl) (dt (q10 p0)) ?_))))))))
  iterate 4 refine st ?_
  refine nx ?_
  iterate 2 refine st ?_
  obtain ⟨r54,g55,h⟩:=bI h
  replace hS:=hS.bg Y3
  refine ca (p_is_w hg m5 g55 hS) ?_
  rintro _ w13 ⟨μ4,a57,c58,rfl,le56,hS,m59⟩
  refine po (nw ?_)
  refine cifb (et (k10 d5)) (xT h) fun h60=>?_
  replace h:=iF h60 h
  refine cskip ?_
  refine (fun h=>bn (xl h)) (xrnd (crnd ?_))
  refine nz (wl (s_next1' (et d7) hS d1 d2 h29 h30 ?_))
  clear hS; intro w14 rs_ hp_ hS; cases (show _=rs_ from hp_)
  replace hS:=Sep.reput hS p1; refine po ?_
  refine st (ny (cift (et d9) (cskip (xn (cblock (nz (wl (s_entry (e:=⟨S [45],.int .i64 4,n26⟩) (et d7) hS d1 d2 h29 rfl (.inl rfl) (dt (q10 p0)) ?_))))))))
  iterate 4 refine st ?_
  refine nx ?_
  iterate 2 refine st ?_
  obtain ⟨r61,g62,h⟩:=bI h
  refine ca (p_is_w (hg.t le56) m59 g62 hS) ?_
  rintro _ w15 ⟨μ5,a64,c65,rfl,le63,hS,m66⟩
  refine po (nw ?_)
  refine cifb (et (k10 d5)) (xT h) fun h67=>?_
  replace h:=iF h67 h
  refine cskip ?_
  refine (fun h=>bn (xl h)) (xrnd (crnd ?_))
  refine nz (wl (s_next2 (et d7) hS d1 d2 h29 h30 (.inr ⟨rfl,rfl⟩) (dt p8) (st (ny (ciff (et d9) (cexit ?_))))))
  refine (fun h=>xe (xe (bh h))) ?_
  refine xn (nz (st ?_))
  obtain ⟨r68,g69,h⟩:=bI h
  refine ca (IH.p_primary (hg.t (le56.t le63)) m66 g69 hS) ?_
  rintro _ w16 ⟨μ6,a71,c72,a74,c75,rfl,le70,hS,m73,m76⟩
  refine po (wl (s_storeA ti193 (et d2) (et (k20 d4)) rfl rfl hS d3 rfl p3 dn ?_))
  clear hS; intro w17 hS
  refine nw (cret ?_)
  obtain rfl:=oI h
  refine retDN rfl (RVs.s (.a d2 ti193 (hS.blk d3).cells rfl) RVs.z) ?_
  replace hS:=((hS.drop (Rm.s Rm.z)).drop (Rm.s Rm.z)).drop (Rm.s Rm.z)
  exact ⟨_,_,_,_,_,rfl,(le56.t (le63.t le70)),hS,m73,m76⟩
theorem p_primary_w {self:ParE} (IH:ParESound self) {fu:Nat} {μ0:M} {w0 w:World} {rsF:List Res} (hg:Le Gm μ0) {b1:Nat} {left_2:List TToken} {a3:Option Addr} {c4:Nat} {end_6 deep_7:Int} {r:TExpr×List TToken×Int×Int} (m5:Sl μ0 a3 c4 left_2) (h:p_primary fu self left_2 end_6 deep_7=some r) (hS:Sq μ0 w0 w (.blk b1 83 [.slice a3 left_2.length c4,.int .i64 end_6,.int .i64 deep_7]::rsF)):CallsV prog 175 [.pointer (some ⟨b1,0,none⟩)] w (fun v w'=>∃ (μ':M) (a8:Option Addr) (c9:Nat) (a11:Option Addr) (c12:Nat),v=.agg ⟨[.int .i64 r.1.Kind,.int .i64 r.1.N,S r.1.Name,.slice a8 r.1.Kids.length c9]⟩∧Le μ0 μ'∧Sq μ' w0 w' (.blk b1 83 [.slice a11 r.2.1.length c12,.int .i64 r.2.2.1,.int .i64 r.2.2.2]::rsF)∧Sl μ' a8 c9 r.1.Kids∧Sl μ' a11 c12 r.2.1):=by
 unfold p_primary at h
 refine enter func175 rfl (frm:=_::u1 (u2 (u5 (u10 (u20 (u50 [])))))) rfl (nz ?_)
 refine wl (s_alloc ti193 hS ?_); clear hS; intro b14 w1 hb15 hS; refine po ?_
 refine ny (cblock (nz ?_))
 iterate 3 refine st ?_
 refine ld ((hS.blk d1).cell d0) (wl (su (u_lensl underlying76 (et (k10 d0))) (dt (q10 p1)) ?_))
 iterate 2 refine st ?_
 refine wspd (k10 d3) (q10 p3) (q10 p3) (fun h16=>?_) (xF h)
 replace h:=iT h16 h
 refine sy rfl (sy rfl (sy rfl (wy rfl (k10 d3) (s_load ti76 (et (k10 d6)) ((hS.blk d1).cell d0) (dt (q10 p7)) ?_))))
 obtain ⟨x17,g18,h⟩:=bI h
 obtain ⟨b19,o20,cs21,e22,f23,m24⟩:=SlR.elem m5 g18
 obtain rfl:=m24
 refine wy rfl (k10 d3) (su (u_iax underlying76 ti133 (et (k10 d7)) ec e22) (dt (q10 p8)) (sy rfl (wy rfl (k10 d3) (s_load ti3 (et (k10 d9)) ((f23 _ hS.a).one d0) (dt (q20 p0)) (sy rfl ?_)))))
 iterate 2 refine st ?_
 refine nw ?_
 refine cifd (et d6) (fun h25=>?_) (fun h25=>?_)
 ·replace h:=iT h25 h
  refine nz (st ?_)
  obtain ⟨r26,g27,h⟩:=bI h
  replace hS:=hS.bg Y1
  refine ca (p_number_w hg m5 g27 hS) ?_
  rintro _ w2 ⟨μ1,a29,c30,rfl,le28,hS,m31⟩
  refine po (wl (s_build ti193 pl193 (Fl.o rfl ec rfl rfl p0 (Fl.o rfl (et (k20 d4)) rfl rfl p1 Fl.z)) (dt (q20 p5)) (wl (s_storeA ti193 (et d2) (et (k20 d5)) rfl rfl hS d1 rfl p1 dn ?_))))
  clear hS; intro w3 hS
  refine nw (cret ?_)
  refine (fun h=>br (xr h)) ?_
  obtain rfl:=oI h
  refine retN rfl (RVs.s (.a d2 ti193 (hS.blk d1).cells rfl) RVs.z) ?_
  replace hS:=hS.drop (Rm.s Rm.z)
  exact ⟨_,none,0,_,_,rfl,le28,hS,Sl.nil,m31⟩
 ·replace h:=iF h25 h
  refine nz (st ?_)
  obtain ⟨r32,g33,h⟩:=bI h
  replace hS:=hS.bg Y1
  refine ca (p_is_w hg m5 g33 hS) ?_
  rintro _ w4 ⟨μ2,a35,c36,rfl,le34,hS,m37⟩
  refine po (st (nw ?_))
  refine cifb (et (k20 d6)) (fun h38=>?_) (fun h38=>?_)
  ·replace h:=iT h38 h
   refine nz (wl (s_build ti193 pl193 (Fl.o rfl ec rfl rfl p0 (Fl.o rfl ec rfl rfl p1 Fl.z)) (dt (q20 p9)) (wl (s_storeA ti193 (et d2) (et (k20 d9)) rfl rfl hS d1 rfl p1 dn ?_))))
   clear hS; intro w5 hS
   refine nw (cret ?_)
   refine (fun h=>br (xr h)) ?_
   obtain rfl:=oI h
   refine retN rfl (RVs.s (.a d2 ti193 (hS.blk d1).cells rfl) RVs.z) ?_
   replace hS:=hS.drop (Rm.s Rm.z)
   exact ⟨_,none,0,_,_,rfl,le34,hS,Sl.nil,m37⟩
  ·replace h:=iF h38 h
   refine nz (st ?_)
   obtain ⟨r39,g40,h⟩:=bI h
   refine ca (p_is_w (hg.t le34) m37 g40 hS) ?_
   rintro _ w6 ⟨μ3,a42,c43,rfl,le41,hS,m44⟩
   refine po (st (nw ?_))
   refine cifb (et (k30 d0)) (fun h45=>?_) (fun h45=>?_)
   ·replace h:=iT h45 h
    refine nz (wl (s_build ti193 pl193 (Fl.o rfl ec rfl rfl p0 Fl.z) (dt (q30 p3)) (wl (s_storeA ti193 (et d2) (et (k30 d3)) rfl rfl hS d1 rfl p1 dn ?_))))
    clear hS; intro w7 hS
    refine nw (cret ?_)
    refine (fun h=>br (xr h)) ?_
    obtain rfl:=oI h
    refine retN rfl (RVs.s (.a d2 ti193 (hS.blk d1).cells rfl) RVs.z) ?_
    replace hS:=hS.drop (Rm.s Rm.z)
    exact ⟨_,none,0,_,_,rfl,(le34.t le41),hS,Sl.nil,m44⟩
   ·replace h:=iF h45 h
    refine nz (st ?_)
    obtain ⟨r46,g47,h⟩:=bI h
    refine ca (p_is_w (hg.t (le34.t le41)) m44 g47 hS) ?_
    rintro _ w8 ⟨μ4,a49,c50,rfl,le48,hS,m51⟩
    refine po (st (nw ?_))
    refine cifb (et (k30 d4)) (xT h) fun h52=>?_
    replace h:=iF h52 h
    refine nz (st ?_)
    obtain ⟨r53,g54,h⟩:=bI h
    refine ca (p_is_w (hg.t (le34.t (le41.t le48))) m51 g54 hS) ?_
    rintro _ w9 ⟨μ5,a56,c57,rfl,le55,hS,m58⟩
    refine po (st (nw ?_))
    refine cifb (et (k40 d3)) (fun h59=>?_) (fun h59=>?_)
    ·replace h:=iT h59 h
     refine nz (st ?_)
     refine wl (s_bsl underlying188 ti9 (Parts.s ec rfl Parts.z) rfl rfl hS ?_); clear hS; intro b60 w10 hb61 hS; refine po ?_
     obtain ⟨μ6,le63,m62,hS⟩:=Sep.frzBlk (l:=([[40]]:List (List UInt8))) hS (Rw.one (α:=List UInt8) rfl) (Nat.le_of_ble_eq_true rfl)
     obtain ⟨r64,g65,h⟩:=bI h
     refine ca (p_need_w (hg.t (le34.t (le41.t (le48.t (le55.t le63))))) (m58.up le63) m62 g65 hS) ?_
     rintro _ w11 ⟨μ7,a67,c68,rfl,le66,hS,m69⟩
     refine po (nx (st ?_))
     obtain ⟨r70,g71,h⟩:=bI h
     refine ca (p_name_w (hg.t (le34.t (le41.t (le48.t (le55.t (le63.t le66)))))) m69 g71 hS) ?_
     rintro _ w12 ⟨μ8,a73,c74,rfl,le72,hS,m75⟩
     refine po (wl (s_build ti193 pl193 (Fl.o rfl ec rfl rfl p0 (Fl.o rfl (et (k50 d0)) rfl rfl p2 Fl.z)) (dt (q50 p1)) ?_))
     refine wl (s_alloc ti193 hS ?_); clear hS; intro b76 w13 hb77 hS; refine po ?_
     refine wl (s_storeA ti193 (et d4) (et (k50 d1)) rfl rfl hS d0 rfl p0 dn ?_)
     clear hS; intro w14 hS
     refine nx (st ?_)
     refine wl (s_bsl underlying188 ti9 (Parts.s ec rfl Parts.z) rfl rfl hS ?_); clear hS; intro b78 w15 hb79 hS; refine po ?_
     obtain ⟨μ9,le81,m80,hS⟩:=Sep.frzBlk (l:=([[41]]:List (List UInt8))) hS (Rw.one (α:=List UInt8) rfl) (Nat.le_of_ble_eq_true rfl)
     obtain ⟨r82,g83,h⟩:=bI h
     replace hS:=hS.bg Y1
     refine ca (p_need_w (hg.t (le34.t (le41.t (le48.t (le55.t (le63.t (le66.t (le72.t le81)))))))) (m75.up le81) m80 g83 hS) ?_
     rintro _ w16 ⟨μ10,a85,c86,rfl,le84,hS,m87⟩
     refine po (nx (lds (hS.blk d1).cells rfl (wl (s_storeA ti193 (et d2) (et (k50 d5)) rfl rfl hS d2 rfl p2 dn ?_))))
     clear hS; intro w17 hS
     refine nw (cret ?_)
     refine (fun h=>br (xr h)) ?_
     obtain rfl:=oI h
     refine retN rfl (RVs.s (.a d2 ti193 (hS.blk d2).cells rfl) RVs.z) ?_
     replace hS:=(hS.drop (Rm.s Rm.z)).drop (Rm.s Rm.z)
     exact ⟨_,none,0,_,_,rfl,(le34.t (le41.t (le48.t (le55.t (le63.t (le66.t (le72.t (le81.t le84)))))))),hS,Sl.nil,m87⟩
    ·replace h:=iF h59 h
     refine nz (st ?_)
     obtain ⟨r88,g89,h⟩:=bI h
     refine ca (p_is_w (hg.t (le34.t (le41.t (le48.t le55)))) m58 g89 hS) ?_
     rintro _ w18 ⟨μ11,a91,c92,rfl,le90,hS,m93⟩
     refine po (st (nw ?_))
     refine cifb (et (k50 d6)) (xT h) fun h94=>?_
     replace h:=iF h94 h
     refine nz (st ?_)
     obtain ⟨r95,g96,h⟩:=bI h
     refine ca (p_is_w (hg.t (le34.t (le41.t (le48.t (le55.t le90))))) m93 g96 hS) ?_
     rintro _ w19 ⟨μ12,a98,c99,rfl,le97,hS,m100⟩
     refine po (st (nw ?_))
     refine cifb (et (k60 d1)) (xT h) fun h101=>?_
     replace h:=iF h101 h
     refine nz (st ?_)
     obtain ⟨r102,g103,h⟩:=bI h
     refine ca (p_is_w (hg.t (le34.t (le41.t (le48.t (le55.t (le90.t le97)))))) m100 g103 hS) ?_
     rintro _ w20 ⟨μ13,a105,c106,rfl,le104,hS,m107⟩
     refine po (st (nw ?_))
     refine cifb (et (k60 d6)) (xT h) fun h108=>?_
     replace h:=iF h108 h
     refine nz (st ?_)
     obtain ⟨r109,g110,h⟩:=bI h
     refine ca (p_is_w (hg.t (le34.t (le41.t (le48.t (le55.t (le90.t (le97.t le104))))))) m107 g110 hS) ?_
     rintro _ w21 ⟨μ14,a112,c113,rfl,le111,hS,m114⟩
     refine po (st (nw ?_))
     refine cifb (et (k70 d1)) (xT h) fun h115=>?_
     replace h:=iF h115 h
     refine cskip ?_
     refine (fun h=>bn (xn h)) ?_
     refine nz (st ?_)
     obtain ⟨r116,g117,h⟩:=bI h
     refine ca (p_name_w (hg.t (le34.t (le41.t (le48.t (le55.t (le90.t (le97.t (le104.t le111)))))))) m114 g117 hS) ?_
     rintro _ w22 ⟨μ15,a119,c120,rfl,le118,hS,m121⟩
     refine po (st (ny (nz (st ?_))))
     obtain ⟨r122,g123,h⟩:=bI h
     refine ca (p_sees_w (hg.t (le34.t (le41.t (le48.t (le55.t (le90.t (le97.t (le104.t (le111.t le118))))))))) m121 g123 hS) ?_
     rintro _ w23 ⟨μ16,rfl,le124,hS⟩
     refine po (nw ?_)
     refine cifb (et (k80 d2)) (fun h125=>?_) (fun h125=>?_)
     ·replace h:=iT h125 h
      refine nz ?_
      iterate 2 refine st ?_
      obtain ⟨r126,g127,h⟩:=bI h
      refine ca (IH.p_args (hg.t (le34.t (le41.t (le48.t (le55.t (le90.t (le97.t (le104.t (le111.t (le118.t le124)))))))))) (m121.up le124) g127 hS) ?_
      rintro _ w24 ⟨μ17,a129,c130,a132,c133,rfl,le128,hS,m131,m134⟩
      refine po (wl (s_build ti193 pl193 (Fl.o rfl ec rfl rfl p0 (Fl.o rfl (et (k80 d3)) rfl rfl p2 (Fl.o rfl (et (k80 d5)) rfl rfl p3 Fl.z))) (dt (q80 p6)) (wl (s_storeA ti193 (et d2) (et (k80 d6)) rfl rfl hS d1 rfl p1 dn ?_))))
      clear hS; intro w25 hS
      refine nw (cret (xr ?_))
      obtain rfl:=oI h
      refine retN rfl (RVs.s (.a d2 ti193 (hS.blk d1).cells rfl) RVs.z) ?_
      replace hS:=hS.drop (Rm.s Rm.z)
      exact ⟨_,_,_,_,_,rfl,(le34.t (le41.t (le48.t (le55.t (le90.t (le97.t (le104.t (le111.t (le118.t (le124.t le128)))))))))),hS,m131,m134⟩
     ·replace h:=iF h125 h
      refine cskip (xn (nz (st (wl (s_build ti193 pl193 (Fl.o rfl ec rfl rfl p0 (Fl.o rfl (et (k80 d7)) rfl rfl p2 Fl.z)) (dt (q80 p8)) (wl (s_storeA ti193 (et d2) (et (k80 d8)) rfl rfl hS d1 rfl p1 dn ?_)))))))
      clear hS; intro w26 hS
      refine nw (cret ?_)
      obtain rfl:=oI h
      refine retN rfl (RVs.s (.a d2 ti193 (hS.blk d1).cells rfl) RVs.z) ?_
      replace hS:=hS.drop (Rm.s Rm.z)
      exact ⟨_,none,0,_,_,rfl,(le34.t (le41.t (le48.t (le55.t (le90.t (le97.t (le104.t (le111.t (le118.t le124))))))))),hS,Sl.nil,(m121.up le124)⟩
theorem p_args_w {self:ParE} (IH:ParESound self) {fu:Nat} {μ0:M} {w0 w:World} {rsF:List Res} (hg:Le Gm μ0) {b1:Nat} {left_2:List TToken} {a3:Option Addr} {c4:Nat} {end_6 deep_7:Int} {r:List TExpr×List TToken×Int×Int} (m5:Sl μ0 a3 c4 left_2) (h:p_args fu self left_2 end_6 deep_7=some r) (hS:Sq μ0 w0 w (.blk b1 83 [.slice a3 left_2.length c4,.int .i64 end_6,.int .i64 deep_7]::rsF)):CallsV prog 187 [.pointer (some ⟨b1,0,none⟩)] w (fun v w'=>∃ (μ':M) (a8:Option Addr) (c9:Nat) (a11:Option Addr) (c12:Nat),v=.slice a8 r.1.length c9∧Le μ0 μ'∧Sq μ' w0 w' (.blk b1 83 [.slice a11 r.2.1.length c12,.int .i64 r.2.2.1,.int .i64 r.2.2.2]::rsF)∧Sl μ' a8 c9 r.1∧Sl μ' a11 c12 r.2.1):=by
 unfold p_args at h
 refine enter func187 rfl (frm:=_::u1 (u2 (u5 (u20 [])))) rfl (nz (st (nx (st (ny (nz (st ?_)))))))
 refine wl (s_bsl underlying188 ti9 (Parts.s ec rfl Parts.z) rfl rfl hS ?_); clear hS; intro b14 w1 hb15 hS; refine po ?_
 obtain ⟨μ1,le17,m16,hS⟩:=Sep.frzBlk (l:=([[40]]:List (List UInt8))) hS (Rw.one (α:=List UInt8) rfl) (Nat.le_of_ble_eq_true rfl)
 obtain ⟨r18,g19,h⟩:=bI h
 refine ca (p_need_w (hg.t le17) (m5.up le17) m16 g19 hS) ?_
 rintro _ w2 ⟨μ2,a21,c22,rfl,le20,hS,m23⟩
 refine po (nw (cblock ?_))
 replace hS:=hS.nilRow 193 (Mo.sz TExpr)
 replace hS:=hS.bg Y1
 refine cloopE (rg 7 21) (by decide +kernel) (fun n m w=>∃ μx l65 a63 c64 i67 i68 l71 v69 cs70,m=(yK3 (.i (v69)::(yK3 (yO20 7 (yO1 27 [])))))∧p_args_l1 self n l65 i67 i68 l71=some r∧Le μ2 μx∧Sq μx w0 w (.blk b1 83 [.slice a63 l65.length c64,.int .i64 i67,.int .i64 i68]::.row v69 193 4 l71.length cs70::rsF)∧Sl μx a63 c64 l65∧Rw μx cs70 l71) (by rintro _ _ _ ⟨_,_,_,_,_,_,_,_,_,rfl,_⟩; rfl) _ _ (aK3 (aI (aK3 (aO20 (aO1 aZ))))) ⟨_,r18.1,a21,c22,r18.2.1,r18.2.2,[],(.slice none 0 0),[],rfl,h,Le.r,hS,m23,Rw.nil⟩ ?_
 rintro n_1 _ t w3 ⟨μ3,l65,a63,c64,i67,i68,l71,v69,cs70,rfl,h,le111,hS,m112,m113⟩
 cases n_1 with
 | zero=>cases h
 | succ n_1 =>
 unfold p_args_l1 at h
 refine cnrm (mK3 (mi (mK3 (mO20 (mO1 mz))))) (cseq (nz (st ?_)))
 obtain ⟨r114,g115,h⟩:=bI h
 refine ca (p_is_w (hg.t (le17.t (le20.t le111))) m112 g115 hS) ?_
 rintro _ w4 ⟨μ4,a117,c118,rfl,le116,hS,m119⟩
 refine po (st (nw ?_))
 refine cifnb (et d9) (fun h120=>?_) (fun h120=>?_)
 ·replace h:=iF h120 h
  refine cskip (xn (cblock (cseq (nz (st (wl (su (u_lenv underlying191 (et (k10 d0)) (hS.get d1).isSl) (dt (q10 p1)) (st (nw ?_)))))))))
  refine ccutE (rg 13 3) (by decide) (fun m w=>∃ μx l123 a121 c122 i125 i126,m=(yK10 (yK3 (yO3 13 [])))∧p_args_j1 self l71 (p_args_l1 self n_1) l123 i125 i126=some r∧Le μ4 μx∧Sq μx w0 w (.blk b1 83 [.slice a121 l123.length c122,.int .i64 i125,.int .i64 i126]::.row v69 193 4 l71.length cs70::rsF)∧Sl μx a121 c122 l123) (by rintro _ _ ⟨_,_,_,_,_,_,rfl,_⟩; rfl) ?_ ?_
  ·refine cifd (et (k10 d2)) (fun h127=>?_) (fun h127=>?_)
   ·replace h:=iT h127 h
    refine creg (st ?_)
    refine wl (s_bsl underlying188 ti9 (Parts.s ec rfl Parts.z) rfl rfl hS ?_); clear hS; intro b128 w5 hb129 hS; refine po ?_
    obtain ⟨μ5,le131,m130,hS⟩:=Sep.frzBlk (l:=([[44]]:List (List UInt8))) hS (Rw.one (α:=List UInt8) rfl) (Nat.le_of_ble_eq_true rfl)
    obtain ⟨r132,g133,h⟩:=bI h
    refine ca (p_need_w (hg.t (le17.t (le20.t (le111.t (le116.t le131))))) (m119.up le131) m130 g133 hS) ?_
    rintro _ w6 ⟨μ6,a135,c136,rfl,le134,hS,m137⟩
    refine po (wnil (xl ?_))
    exact ⟨_,_,rfl,(aK10 (aK3 (aO3 aZ))),_,r132.1,_,_,r132.2.1,r132.2.2,rfl,h,(le131.t le134),hS,m137⟩
   ·replace h:=iF h127 h
    refine cskip (xl ?_)
    exact ⟨_,_,rfl,(aK10 (aK3 (aO3 aZ))),_,r114.2.1,_,_,r114.2.2.1,r114.2.2.2,rfl,h,Le.r,hS,m119⟩
  ·rintro _ t w7 ⟨μ7,l123,a121,c122,i125,i126,rfl,h,le138,hS,m139⟩
   unfold p_args_j1 at h
   refine nrm (mK10 (mK3 (mO3 mz))) (xn (cseq (nz (st (wl (su (u_lenv underlying191 (et (k10 d6)) (hS.get d1).isSl) (dt (q10 p7)) (st (nw ?_))))))))
   refine cifd (et (k10 d8)) (xT h) fun h140=>?_
   replace h:=iF h140 h
   refine cskip (xn (creg ?_))
   iterate 2 refine st ?_
   obtain ⟨r141,g142,h⟩:=bI h
   refine ca (IH.p_expr (hg.t (le17.t (le20.t (le111.t (le116.t le138))))) m139 g142 hS) ?_
   rintro _ w8 ⟨μ8,a144,c145,a147,c148,rfl,le143,hS,m146,m149⟩
   refine po ?_
   refine wl (s_bsl1 underlying191 ti193 rfl (et (k20 d5)) rfl hS ?_); clear hS; intro b150 w9 hb151 hS; refine po ?_
   obtain ⟨l154,g155,h⟩:=bI h
   have m156:Rw μ8 [.int .i64 r141.1.Kind,.int .i64 r141.1.N,S r141.1.Name,.slice a144 r141.1.Kids.length c145] [r141.1]:=(Rw.one (α:=TExpr) (TExpr.i ⟨a144,c145,rfl,m146⟩))
   have m153:=Rw.app (m113.up (le116.t (le138.t le143))) m156 g155
   refine wl (s_app1 underlying191 ti193 rfl (et (k20 d3)) (et (k20 d6)) hS d2 (hS.blk d0).cells m156 rfl g155 (by decide) ?_); clear hS; intro v152 w10 rs_ hp_ hS; cases (show _=rs_ from hp_)
   replace hS:=Sep.reput hS p2; refine po ?_
   replace hS:=hS.drop Rm.z
   refine st (wnil ?_)
   refine (fun h=>bn (xl h)) ?_
   exact ⟨n_1,_,_,rfl,(aK3 (aI (aK3 (aO20 (aO1 aZ))))),⟨_,r141.2.1,a147,c148,r141.2.2.1,r141.2.2.2,l154,v152,(cs70++[.int .i64 r141.1.Kind,.int .i64 r141.1.N,S r141.1.Name,.slice a144 r141.1.Kids.length c145]),rfl,h,(le111.t (le116.t (le138.t le143))),hS,m149,m153⟩,Nat.lt_succ_self _⟩
 ·replace h:=iT h120 h
  refine cexit ?_
  refine (fun h=>xe (xe (bh h))) ?_
  refine xn (nz ?_)
  iterate 2 refine st ?_
  refine nw (cret ?_)
  replace hS:=hS.bg Y1
  obtain ⟨μ9,a157,c158,e161,le160,m159,hq_⟩:=Sep.frzRow hS (m113.up le116) rfl; clear hS
  subst e161; have hS:=hq_; clear hq_
  obtain rfl:=oI h
  refine ret1 rfl d2 ?_
  exact ⟨_,_,_,_,_,rfl,(le17.t (le20.t (le111.t (le116.t le160)))),hS,m159,(m119.up le160)⟩
theorem ParE_sound:∀ n,ParESound (ParE_run n)
  | 0=>⟨(by intros; rename_i h _; cases h),(by intros; rename_i h _; cases h),(by intros; rename_i h _; cases h),(by intros; rename_i h _; cases h),(by intros; rename_i h _; cases h)⟩
  | n+1=>⟨p_expr_w (ParE_sound n),p_level_w (ParE_sound n),p_unary_w (ParE_sound n),p_primary_w (ParE_sound n),p_args_w (ParE_sound n)⟩
structure ParSSound (sf:ParS):Prop where
  p_body:∀ {μ0:M} {w0 w:World} {rsF:List Res} (hg:Le Gm μ0) {b1:Nat} {left_2:List TToken} {a3:Option Addr} {c4:Nat} {end_6 deep_7:Int} {r:List TStat×List TToken×Int×Int} (m5:Sl μ0 a3 c4 left_2) (h:sf.p_body left_2 end_6 deep_7=some r) (hS:Sq μ0 w0 w (.blk b1 83 [.slice a3 left_2.length c4,.int .i64 end_6,.int .i64 deep_7]::rsF)),CallsV prog 69 [.pointer (some ⟨b1,0,none⟩)] w (fun v w'=>∃ (μ':M) (a8:Option Addr) (c9:Nat) (a11:Option Addr) (c12:Nat),v=.slice a8 r.1.length c9∧Le μ0 μ'∧Sq μ' w0 w' (.blk b1 83 [.slice a11 r.2.1.length c12,.int .i64 r.2.2.1,.int .i64 r.2.2.2]::rsF)∧Sl μ' a8 c9 r.1∧Sl μ' a11 c12 r.2.1)
  p_stat:∀ {μ0:M} {w0 w:World} {rsF:List Res} (hg:Le Gm μ0) {b1:Nat} {left_2:List TToken} {a3:Option Addr} {c4:Nat} {end_6 deep_7:Int} {r:TStat×List TToken×Int×Int} (m5:Sl μ0 a3 c4 left_2) (h:sf.p_stat left_2 end_6 deep_7=some r) (hS:Sq μ0 w0 w (.blk b1 83 [.slice a3 left_2.length c4,.int .i64 end_6,.int .i64 deep_7]::rsF)),CallsV prog 103 [.pointer (some ⟨b1,0,none⟩)] w (fun v w'=>∃ (μ':M) (a8:Option Addr) (c9:Nat) (a11:Option Addr) (c12:Nat) (a14:Option Addr) (c15:Nat) (a17:Option Addr) (c18:Nat),v=.agg ⟨[.int .i64 r.1.Kind,S r.1.Name,.int .i64 r.1.X.Kind,.int .i64 r.1.X.N,S r.1.X.Name,.slice a8 r.1.X.Kids.length c9,.slice a11 r.1.Body.length c12,.slice a14 r.1.Else.length c15]⟩∧Le μ0 μ'∧Sq μ' w0 w' (.blk b1 83 [.slice a17 r.2.1.length c18,.int .i64 r.2.2.1,.int .i64 r.2.2.2]::rsF)∧Sl μ' a8 c9 r.1.X.Kids∧Sl μ' a11 c12 r.1.Body∧Sl μ' a14 c15 r.1.Else∧Sl μ' a17 c18 r.2.1)
theorem p_body_w {self:ParS} (IH:ParSSound self) {fu:Nat} {μ0:M} {w0 w:World} {rsF:List Res} (hg:Le Gm μ0) {b1:Nat} {left_2:List TToken} {a3:Option Addr} {c4:Nat} {end_6 deep_7:Int} {r:List TStat×List TToken×Int×Int} (m5:Sl μ0 a3 c4 left_2) (h:p_body fu self left_2 end_6 deep_7=some r) (hS:Sq μ0 w0 w (.blk b1 83 [.slice a3 left_2.length c4,.int .i64 end_6,.int .i64 deep_7]::rsF)):CallsV prog 69 [.pointer (some ⟨b1,0,none⟩)] w (fun v w'=>∃ (μ':M) (a8:Option Addr) (c9:Nat) (a11:Option Addr) (c12:Nat),v=.slice a8 r.1.length c9∧Le μ0 μ'∧Sq μ' w0 w' (.blk b1 83 [.slice a11 r.2.1.length c12,.int .i64 r.2.2.1,.int .i64 r.2.2.2]::rsF)∧Sl μ' a8 c9 r.1∧Sl μ' a11 c12 r.2.1):=by
 unfold p_body at h
 refine enterF func69 rfl (frm:=_::u2 (u2 (u20 []))) rfl (nz (st (nx (st ?_))))
 obtain ⟨r14,g15,h⟩:=bI h
 refine ca (p_into_w hg m5 g15 hS) ?_
 rintro _ w1 ⟨μ1,b17,a18,c19,rfl,le16,hS,m20⟩
 refine po (wl (s_defer (et d5) e0 dn (nx (st (ny (nz (st ?_)))))))
 refine wl (s_bsl underlying188 ti9 (Parts.s ec rfl Parts.z) rfl rfl hS ?_); clear hS; intro b21 w2 hb22 hS; refine po ?_
 obtain ⟨μ2,le24,m23,hS⟩:=Sep.frzBlk (l:=([[123]]:List (List UInt8))) hS (Rw.one (α:=List UInt8) rfl) (Nat.le_of_ble_eq_true rfl)
 obtain ⟨r25,g26,h⟩:=bI h
 replace hS:=hS.bg Y1
 refine ca (p_need_w (hg.t (le16.t le24)) (m20.up le24) m23 g26 hS) ?_
 rintro _ w3 ⟨μ3,a28,c29,rfl,le27,hS,m30⟩
 refine po (nw (cblock ?_))
 replace hS:=hS.nilRow 195 (Mo.sz TStat)
 replace hS:=(hS.bg Y2).bg Y2
 refine cloopE (rg 9 15) (by decide) (fun n m w=>∃ μx l62 a60 c61 i65 i66 l69 v67 cs68,m=(yK3 (.i (v67)::(yK5 (yO10 9 (yO5 19 [])))))∧p_body_l1 self n l62 i65 i66 l69=some r∧Le μ3 μx∧Sq μx w0 w (.blk b1 83 [.slice a60 l62.length c61,.int .i64 i65,.int .i64 i66]::.blk b17 81 [.pointer (some ⟨b1,0,none⟩)]::.row v67 195 8 l69.length cs68::rsF)∧Sl μx a60 c61 l62∧Rw μx cs68 l69) (by rintro _ _ _ ⟨_,_,_,_,_,_,_,_,_,rfl,_⟩; rfl) _ _ (aK3 (aI (aK5 (aO10 (aO5 aZ))))) ⟨_,r25.1,a28,c29,r25.2.1,r25.2.2,[],(.slice none 0 0),[],rfl,h,Le.r,hS,m30,Rw.nil⟩ ?_
 rintro n_1 _ t w4 ⟨μ4,l62,a60,c61,i65,i66,l69,v67,cs68,rfl,h,le99,hS,m100,m101⟩
 cases n_1 with
 | zero=>cases h
 | succ n_1 =>
 unfold p_body_l1 at h
 refine cnrm (mK3 (mi (mK5 (mO10 (mO5 mz))))) (cseq (nz (st ?_)))
 obtain ⟨r102,g103,h⟩:=bI h
 refine ca (p_is_w (hg.t (le16.t (le24.t (le27.t le99)))) m100 g103 hS) ?_
 rintro _ w5 ⟨μ5,a105,c106,rfl,le104,hS,m107⟩
 refine po (st (nw ?_))
 refine cifnb (et (k10 d1)) (fun h108=>?_) (fun h108=>?_)
 ·replace h:=iF h108 h
  refine cskip (xn (cblock (cseq (nz (st (wl (su (u_lenv underlying89 (et (k10 d2)) (hS.get d2).isSl) (dt (q10 p3)) (st (nw ?_)))))))))
  refine cifd (et (k10 d4)) (xT h) fun h109=>?_
  replace h:=iF h109 h
  refine cskip (xn (creg ?_))
  iterate 2 refine st ?_
  obtain ⟨r110,g111,h⟩:=bI h
  refine ca (IH.p_stat (hg.t (le16.t (le24.t (le27.t (le99.t le104))))) m107 g111 hS) ?_
  rintro _ w6 ⟨μ6,a113,c114,a116,c117,a119,c120,a122,c123,rfl,le112,hS,m115,m118,m121,m124⟩
  refine po ?_
  refine wl (s_bsl1 underlying89 ti195 rfl (et (k20 d1)) rfl hS ?_); clear hS; intro b125 w7 hb126 hS; refine po ?_
  obtain ⟨l129,g130,h⟩:=bI h
  have m131:Rw μ6 [.int .i64 r110.1.Kind,S r110.1.Name,.int .i64 r110.1.X.Kind,.int .i64 r110.1.X.N,S r110.1.X.Name,.slice a113 r110.1.X.Kids.length c114,.slice a116 r110.1.Body.length c117,.slice a119 r110.1.Else.length c120] [r110.1]:=(Rw.one (α:=TStat) (TStat.i ⟨a113,c114,a116,c117,a119,c120,rfl,m115,m118,m121⟩))
  have m128:=Rw.app (m101.up (le104.t le112)) m131 g130
  refine wl (s_app1 underlying89 ti195 rfl (et (k10 d9)) (et (k20 d2)) hS d3 (hS.blk d0).cells m131 rfl g130 (by decide) ?_); clear hS; intro v127 w8 rs_ hp_ hS; cases (show _=rs_ from hp_)
  replace hS:=Sep.reput hS p3; refine po ?_
  replace hS:=hS.drop Rm.z
  refine st (wnil ?_)
  refine (fun h=>bn (xl h)) ?_
  exact ⟨n_1,_,_,rfl,(aK3 (aI (aK5 (aO10 (aO5 aZ))))),⟨_,r110.2.1,a122,c123,r110.2.2.1,r110.2.2.2,l129,v127,(cs68++[.int .i64 r110.1.Kind,S r110.1.Name,.int .i64 r110.1.X.Kind,.int .i64 r110.1.X.N,S r110.1.X.Name,.slice a113 r110.1.X.Kids.length c114,.slice a116 r110.1.Body.length c117,.slice a119 r110.1.Else.length c120]),rfl,h,(le99.t (le104.t le112)),hS,m124,m128⟩,Nat.lt_succ_self _⟩
 ·replace h:=iT h108 h
  refine cexit ?_
  refine (fun h=>xe (xe (bh h))) ?_
  refine xn (nz ?_)
  iterate 2 refine st ?_
  refine nw (cret ?_)
  obtain ⟨r132,g133,h⟩:=bI h
  replace hS:=hS.bg Y1
  refine retD isfn135 (p_out_w (hg.t (le16.t (le24.t (le27.t (le99.t le104))))) m107 g133 hS) ?_
  rintro _ w9 ⟨μ7,a135,c136,rfl,le134,hS,m137⟩
  replace hS:=hS.bg Y2
  obtain ⟨μ8,a138,c139,e142,le141,m140,hq_⟩:=Sep.frzRow hS (m101.up (le104.t le134)) rfl; clear hS
  subst e142; have hS:=hq_; clear hq_
  obtain rfl:=oI h
  refine retDN rfl (RVs.s (.t d2) RVs.z) ?_
  replace hS:=hS.drop Rm.z
  exact ⟨_,_,_,_,_,rfl,(le16.t (le24.t (le27.t (le99.t (le104.t (le134.t le141)))))),hS,m140,(m137.up le141)⟩
theorem p_stat_w {self:ParS} (IH:ParSSound self) {fu:Nat} {μ0:M} {w0 w:World} {rsF:List Res} (hg:Le Gm μ0) {b1:Nat} {left_2:List TToken} {a3:Option Addr} {c4:Nat} {end_6 deep_7:Int} {r:TStat×List TToken×Int×Int} (m5:Sl μ0 a3 c4 left_2) (h:p_stat fu self left_2 end_6 deep_7=some r) (hS:Sq μ0 w0 w (.blk b1 83 [.slice a3 left_2.length c4,.int .i64 end_6,.int .i64 deep_7]::rsF)):CallsV prog 103 [.pointer (some ⟨b1,0,none⟩)] w (fun v w'=>∃ (μ':M) (a8:Option Addr) (c9:Nat) (a11:Option Addr) (c12:Nat) (a14:Option Addr) (c15:Nat) (a17:Option Addr) (c18:Nat),v=.agg ⟨[.int .i64 r.1.Kind,S r.1.Name,.int .i64 r.1.X.Kind,.int .i64 r.1.X.N,S r.1.X.Name,.slice a8 r.1.X.Kids.length c9,.slice a11 r.1.Body.length c12,.slice a14 r.1.Else.length c15]⟩∧Le μ0 μ'∧Sq μ' w0 w' (.blk b1 83 [.slice a17 r.2.1.length c18,.int .i64 r.2.2.1,.int .i64 r.2.2.2]::rsF)∧Sl μ' a8 c9 r.1.X.Kids∧Sl μ' a11 c12 r.1.Body∧Sl μ' a14 c15 r.1.Else∧Sl μ' a17 c18 r.2.1):=by
 unfold p_stat at h
 refine enter func103 rfl (frm:=_::u1 (u10 (u20 (u50 [])))) rfl (nz ?_)
 refine wl (s_alloc ti195 hS ?_); clear hS; intro b20 w1 hb21 hS; refine po ?_
 refine nx (wl (s_build ti195 pl195 Fl.z (dt p4) ?_))
 refine wl (s_alloc ti195 hS ?_); clear hS; intro b22 w2 hb23 hS; refine po ?_
 refine wl (s_storeA ti195 (et d3) (et d4) rfl rfl hS d0 rfl p0 dn ?_)
 clear hS; intro w3 hS
 refine ny ?_
 refine ccutE (rg 5 73) (by decide +kernel) (fun m w=>∃ μx l26 a24 c25 i28 i29 i30 s31 i33 i34 s35 l38 a36 c37,m=(yK5 (yO50 5 (yO20 55 (yO3 75 []))))∧p_stat_j1 l26 i28 i29 i30 s31 i33 i34 s35 l38=some r∧Le μ0 μx∧Sq μx w0 w (.blk b1 83 [.slice a24 l26.length c25,.int .i64 i28,.int .i64 i29]::.blk b20 195 [.int .i64 0,S [],.int .i64 0,.int .i64 0,S [],.slice none 0 0,.slice none 0 0,.slice none 0 0]::.blk b22 195 [.int .i64 i30,S s31,.int .i64 i33,.int .i64 i34,S s35,.slice a36 l38.length c37,.slice none 0 0,.slice none 0 0]::rsF)∧Sl μx a24 c25 l26∧Sl μx a36 c37 l38) (by rintro _ _ ⟨_,_,_,_,_,_,_,_,_,_,_,_,_,_,rfl,_⟩; rfl) ?_ ?_
 ·refine cblock (nz (st ?_))
  obtain ⟨r40,g41,h⟩:=bI h
  replace hS:=hS.bg Y2
  refine ca (p_is_w hg m5 g41 hS) ?_
  rintro _ w4 ⟨μ1,a43,c44,rfl,le42,hS,m45⟩
  refine po (st (nw ?_))
  refine cifb (et (k10 d4)) (fun h46=>?_) (fun h46=>?_)
  ·replace h:=iT h46 h
   refine nz (st ?_)
   obtain ⟨r47,g48,h⟩:=bI h
   refine ca ((ParE_sound fu).p_expr (hg.t le42) m45 g48 hS) ?_
   rintro _ w5 ⟨μ2,a50,c51,a53,c54,rfl,le49,hS,m52,m55⟩
   refine po (st ?_)
   obtain ⟨r56,g57,h⟩:=bI h
   refine ca (IH.p_body (hg.t (le42.t le49)) m55 g57 hS) ?_
   rintro _ w6 ⟨μ3,a59,c60,a62,c63,rfl,le58,hS,m61,m64⟩
   refine po (wl (s_build ti195 pl195 (Fl.o rfl ec rfl rfl p0 (Fl.n rfl (et (k10 d8)) rfl rfl (Spl.s p2 (of_decide_eq_true rfl) (Spl.s p3 (of_decide_eq_true rfl) (Spl.s p4 (of_decide_eq_true rfl) (Spl.s p5 (of_decide_eq_true rfl) Spl.z)))) (Fl.o rfl (et (k20 d0)) rfl rfl p6 Fl.z))) (dt (q20 p1)) (wl (s_storeA ti195 (et d3) (et (k20 d1)) rfl rfl hS d1 rfl p1 dn ?_))))
   clear hS; intro w7 hS
   refine ny (nz (st ?_))
   obtain ⟨r65,g66,h⟩:=bI h
   refine ca (p_is_w (hg.t (le42.t (le49.t le58))) m64 g66 hS) ?_
   rintro _ w8 ⟨μ4,a68,c69,rfl,le67,hS,m70⟩
   refine po (nw ?_)
   refine ccutE (rg 24 3) (by decide) (fun m w=>∃ μx l73 a71 c72 i75 i76 l79 a77 c78,m=(yK20 (yK4 (yO3 24 [])))∧p_stat_j2 r47 r56 l73 i75 i76 l79=some r∧Le μ4 μx∧Sq μx w0 w (.blk b1 83 [.slice a71 l73.length c72,.int .i64 i75,.int .i64 i76]::.blk b20 195 [.int .i64 0,S [],.int .i64 0,.int .i64 0,S [],.slice none 0 0,.slice none 0 0,.slice none 0 0]::.blk b22 195 [.int .i64 3,S [],.int .i64 r47.1.Kind,.int .i64 r47.1.N,S r47.1.Name,.slice a50 r47.1.Kids.length c51,.slice a59 r56.1.length c60,.slice a77 l79.length c78]::rsF)∧Sl μx a71 c72 l73∧Sl μx a77 c78 l79) (by rintro _ _ ⟨_,_,_,_,_,_,_,_,_,rfl,_⟩; rfl) ?_ ?_
   ·refine cifb (et (k20 d3)) (fun h81=>?_) (fun h81=>?_)
    ·replace h:=iT h81 h
     refine creg (st ?_)
     obtain ⟨r82,g83,h⟩:=bI h
     refine ca (IH.p_body (hg.t (le42.t (le49.t (le58.t le67)))) m70 g83 hS) ?_
     rintro _ w9 ⟨μ5,a85,c86,a88,c89,rfl,le84,hS,m87,m90⟩
     refine po (st (wl (s_store1 ti89 (et (k20 d6)) (et (k20 d5)) rfl hS d1 p7 rfl p1 dn ?_)))
     clear hS; intro w10 hS
     refine wnil (xl ?_)
     replace hS:=((hS.bg Y1).bg Y2).bg Y2
     exact ⟨_,_,rfl,(aK20 (aK4 (aO3 aZ))),_,r82.2.1,_,_,r82.2.2.1,r82.2.2.2,r82.1,_,_,rfl,h,le84,hS,m90,m87⟩
    ·replace h:=iF h81 h
     refine cskip (xl ?_)
     replace hS:=((hS.bg Y1).bg Y2).bg Y2
     exact ⟨_,_,rfl,(aK20 (aK4 (aO3 aZ))),_,r65.2.1,_,_,r65.2.2.1,r65.2.2.2,[],none,0,rfl,h,Le.r,hS,m70,Sl.nil⟩
   ·rintro _ t w11 ⟨μ6,l73,a71,c72,i75,i76,l79,a77,c78,rfl,h,le91,hS,m92,m93⟩
    unfold p_stat_j2 at h
    refine nrm (mK20 (mK4 (mO3 mz))) (xn (nz (lds (hS.blk d2).cells rfl (wl (s_storeA ti195 (et d2) (et (k20 d7)) rfl rfl hS d1 rfl p1 dn ?_)))))
    clear hS; intro w12 hS
    refine nw (cret ?_)
    refine (fun h=>br (xr (xr h))) ?_
    obtain rfl:=oI h
    refine retN rfl (RVs.s (.a d2 ti195 (hS.blk d1).cells rfl) RVs.z) ?_
    replace hS:=(hS.drop (Rm.s Rm.z)).drop (Rm.s Rm.z)
    exact ⟨_,_,_,_,_,_,_,_,_,rfl,(le42.t (le49.t (le58.t (le67.t le91)))),hS,(m52.up (le58.t (le67.t le91))),(m61.up (le67.t le91)),m93,m92⟩
  ·replace h:=iF h46 h
   refine nz (st ?_)
   obtain ⟨r94,g95,h⟩:=bI h
   refine ca (p_is_w (hg.t le42) m45 g95 hS) ?_
   rintro _ w13 ⟨μ7,a97,c98,rfl,le96,hS,m99⟩
   refine po (st (nw ?_))
   refine cifb (et (k20 d8)) (fun h100=>?_) (fun h100=>?_)
   ·replace h:=iT h100 h
    refine nz (st ?_)
    obtain ⟨r101,g102,h⟩:=bI h
    refine ca ((ParE_sound fu).p_expr (hg.t (le42.t le96)) m99 g102 hS) ?_
    rintro _ w14 ⟨μ8,a104,c105,a107,c108,rfl,le103,hS,m106,m109⟩
    refine po (st ?_)
    obtain ⟨r110,g111,h⟩:=bI h
    refine ca (IH.p_body (hg.t (le42.t (le96.t le103))) m109 g111 hS) ?_
    rintro _ w15 ⟨μ9,a113,c114,a116,c117,rfl,le112,hS,m115,m118⟩
    refine po (wl (s_build ti195 pl195 (Fl.o rfl ec rfl rfl p0 (Fl.n rfl (et (k30 d2)) rfl rfl (Spl.s p2 (of_decide_eq_true rfl) (Spl.s p3 (of_decide_eq_true rfl) (Spl.s p4 (of_decide_eq_true rfl) (Spl.s p5 (of_decide_eq_true rfl) Spl.z)))) (Fl.o rfl (et (k30 d4)) rfl rfl p6 Fl.z))) (dt (q30 p5)) (wl (s_storeA ti195 (et d2) (et (k30 d5)) rfl rfl hS d2 rfl p2 dn ?_))))
    clear hS; intro w16 hS
    refine nw (cret ?_)
    refine (fun h=>br (xr (xr h))) ?_
    obtain rfl:=oI h
    refine retN rfl (RVs.s (.a d2 ti195 (hS.blk d2).cells rfl) RVs.z) ?_
    replace hS:=(hS.drop (Rm.s Rm.z)).drop (Rm.s Rm.z)
    exact ⟨_,_,_,_,_,none,0,_,_,rfl,(le42.t (le96.t (le103.t le112))),hS,(m106.up le112),m115,Sl.nil,m118⟩
   ·replace h:=iF h100 h
    refine nz (st ?_)
    obtain ⟨r119,g120,h⟩:=bI h
    refine ca (p_is_w (hg.t (le42.t le96)) m99 g120 hS) ?_
    rintro _ w17 ⟨μ10,a122,c123,rfl,le121,hS,m124⟩
    refine po (st (nw ?_))
    refine cifb (et (k30 d6)) (fun h125=>?_) (fun h125=>?_)
    ·replace h:=iT h125 h
     refine nz (st ?_)
     obtain ⟨r126,g127,h⟩:=bI h
     refine ca (p_name_w (hg.t (le42.t (le96.t le121))) m124 g127 hS) ?_
     rintro _ w18 ⟨μ11,a129,c130,rfl,le128,hS,m131⟩
     refine po (wl (s_build ti195 pl195 (Fl.o rfl ec rfl rfl p0 (Fl.o rfl (et (k40 d0)) rfl rfl p1 Fl.z)) (dt (q40 p1)) (wl (s_storeA ti195 (et d3) (et (k40 d1)) rfl rfl hS d1 rfl p1 dn ?_))))
     clear hS; intro w19 hS
     refine nx (st ?_)
     refine wl (s_bsl underlying188 ti9 (Parts.s ec rfl Parts.z) rfl rfl hS ?_); clear hS; intro b132 w20 hb133 hS; refine po ?_
     obtain ⟨μ12,le135,m134,hS⟩:=Sep.frzBlk (l:=([[61]]:List (List UInt8))) hS (Rw.one (α:=List UInt8) rfl) (Nat.le_of_ble_eq_true rfl)
     obtain ⟨r136,g137,h⟩:=bI h
     refine ca (p_need_w (hg.t (le42.t (le96.t (le121.t (le128.t le135))))) (m131.up le135) m134 g137 hS) ?_
     rintro _ w21 ⟨μ13,a139,c140,rfl,le138,hS,m141⟩
     refine po (nw (creg (st ?_)))
     obtain ⟨r142,g143,h⟩:=bI h
     refine ca ((ParE_sound fu).p_expr (hg.t (le42.t (le96.t (le121.t (le128.t (le135.t le138)))))) m141 g143 hS) ?_
     rintro _ w22 ⟨μ14,a145,c146,a148,c149,rfl,le144,hS,m147,m150⟩
     refine po (st (wl (s_store ti193 (et (k40 d7)) (et (k40 d6)) rfl rfl rfl hS d1 (Spl.s p2 (of_decide_eq_true rfl) (Spl.s p3 (of_decide_eq_true rfl) (Spl.s p4 (of_decide_eq_true rfl) (Spl.s p5 (of_decide_eq_true rfl) Spl.z)))) rfl p1 dn ?_)))
     clear hS; intro w23 hS
     refine wnil ?_
     refine (fun h=>bn (xl h)) ?_
     replace hS:=((hS.bg Y1).bg Y2).bg Y2
     exact ⟨_,_,rfl,(aK5 (aO50 (aO20 (aO3 aZ)))),_,r142.2.1,_,_,r142.2.2.1,r142.2.2.2,1,r126.1,r142.1.Kind,r142.1.N,r142.1.Name,r142.1.Kids,_,_,rfl,h,(le42.t (le96.t (le121.t (le128.t (le135.t (le138.t le144)))))),hS,m150,m147⟩
    ·replace h:=iF h125 h
     refine nz (st ?_)
     obtain ⟨r151,g152,h⟩:=bI h
     refine ca (p_is_w (hg.t (le42.t (le96.t le121))) m124 g152 hS) ?_
     rintro _ w24 ⟨μ15,a154,c155,rfl,le153,hS,m156⟩
     refine po (st (nw ?_))
     refine cifb (et (k40 d8)) (fun h157=>?_) (fun h157=>?_)
     ·replace h:=iT h157 h
      refine creg (st ?_)
      obtain ⟨r158,g159,h⟩:=bI h
      refine ca ((ParE_sound fu).p_expr (hg.t (le42.t (le96.t (le121.t le153)))) m156 g159 hS) ?_
      rintro _ w25 ⟨μ16,a161,c162,a164,c165,rfl,le160,hS,m163,m166⟩
      refine po (wl (s_build ti195 pl195 (Fl.o rfl ec rfl rfl p0 (Fl.n rfl (et (k50 d2)) rfl rfl (Spl.s p2 (of_decide_eq_true rfl) (Spl.s p3 (of_decide_eq_true rfl) (Spl.s p4 (of_decide_eq_true rfl) (Spl.s p5 (of_decide_eq_true rfl) Spl.z)))) Fl.z)) (dt (q50 p3)) (wl (s_storeA ti195 (et d3) (et (k50 d3)) rfl rfl hS d1 rfl p1 dn ?_))))
      clear hS; intro w26 hS
      refine wnil ?_
      refine (fun h=>bn (xl h)) ?_
      replace hS:=((hS.bg Y1).bg Y2).bg Y2
      exact ⟨_,_,rfl,(aK5 (aO50 (aO20 (aO3 aZ)))),_,r158.2.1,_,_,r158.2.2.1,r158.2.2.2,5,[],r158.1.Kind,r158.1.N,r158.1.Name,r158.1.Kids,_,_,rfl,h,(le42.t (le96.t (le121.t (le153.t le160)))),hS,m166,m163⟩
     ·replace h:=iF h157 h
      refine nz (st ?_)
      obtain ⟨r167,g168,h⟩:=bI h
      refine ca (p_is_w (hg.t (le42.t (le96.t (le121.t le153)))) m156 g168 hS) ?_
      rintro _ w27 ⟨μ17,a170,c171,rfl,le169,hS,m172⟩
      refine po (st (nw ?_))
      refine cifb (et (k50 d4)) (xT h) fun h173=>?_
      replace h:=iF h173 h
      refine nz (st ?_)
      obtain ⟨r174,g175,h⟩:=bI h
      refine ca (p_is_w (hg.t (le42.t (le96.t (le121.t (le153.t le169))))) m172 g175 hS) ?_
      rintro _ w28 ⟨μ18,a177,c178,rfl,le176,hS,m179⟩
      refine po (st (nw ?_))
      refine cifb (et (k50 d8)) (xT h) fun h180=>?_
      replace h:=iF h180 h
      refine nz (st ?_)
      obtain ⟨r181,g182,h⟩:=bI h
      refine ca (p_is_w (hg.t (le42.t (le96.t (le121.t (le153.t (le169.t le176)))))) m179 g182 hS) ?_
      rintro _ w29 ⟨μ19,a184,c185,rfl,le183,hS,m186⟩
      refine po (st (nw ?_))
      refine cifb (et (k60 d6)) (fun h187=>?_) (fun h187=>?_)
      ·replace h:=iT h187 h
       refine creg (st ?_)
       obtain ⟨r188,g189,h⟩:=bI h
       refine ca ((ParE_sound fu).p_expr (hg.t (le42.t (le96.t (le121.t (le153.t (le169.t (le176.t le183))))))) m186 g189 hS) ?_
       rintro _ w30 ⟨μ20,a191,c192,a194,c195,rfl,le190,hS,m193,m196⟩
       refine po (wl (s_build ti195 pl195 (Fl.o rfl ec rfl rfl p0 (Fl.n rfl (et (k70 d0)) rfl rfl (Spl.s p2 (of_decide_eq_true rfl) (Spl.s p3 (of_decide_eq_true rfl) (Spl.s p4 (of_decide_eq_true rfl) (Spl.s p5 (of_decide_eq_true rfl) Spl.z)))) Fl.z)) (dt (q70 p1)) (wl (s_storeA ti195 (et d3) (et (k70 d1)) rfl rfl hS d1 rfl p1 dn ?_))))
       clear hS; intro w31 hS
       refine wnil ?_
       refine (fun h=>bn (xl h)) ?_
       replace hS:=((hS.bg Y1).bg Y2).bg Y2
       exact ⟨_,_,rfl,(aK5 (aO50 (aO20 (aO3 aZ)))),_,r188.2.1,_,_,r188.2.2.1,r188.2.2.2,8,[],r188.1.Kind,r188.1.N,r188.1.Name,r188.1.Kids,_,_,rfl,h,(le42.t (le96.t (le121.t (le153.t (le169.t (le176.t (le183.t le190))))))),hS,m196,m193⟩
      ·replace h:=iF h187 h
       refine nz (st ?_)
       obtain ⟨r197,g198,h⟩:=bI h
       refine ca (p_is_w (hg.t (le42.t (le96.t (le121.t (le153.t (le169.t (le176.t le183))))))) m186 g198 hS) ?_
       rintro _ w32 ⟨μ21,a200,c201,rfl,le199,hS,m202⟩
       refine po (st (nw ?_))
       refine cifb (et (k70 d2)) (xT h) fun h203=>?_
       replace h:=iF h203 h
       refine nz (st ?_)
       obtain ⟨r204,g205,h⟩:=bI h
       refine ca (p_name_w (hg.t (le42.t (le96.t (le121.t (le153.t (le169.t (le176.t (le183.t le199)))))))) m202 g205 hS) ?_
       rintro _ w33 ⟨μ22,a207,c208,rfl,le206,hS,m209⟩
       refine po (wl (s_build ti195 pl195 (Fl.o rfl ec rfl rfl p0 (Fl.o rfl (et d6) rfl rfl p1 Fl.z)) (dt p7) (wl (s_storeA ti195 (et d3) (et d7) rfl rfl hS d1 rfl p1 dn ?_))))
       clear hS; intro w34 hS
       refine nx (st ?_)
       refine wl (s_bsl underlying188 ti9 (Parts.s ec rfl Parts.z) rfl rfl hS ?_); clear hS; intro b210 w35 hb211 hS; refine po ?_
       obtain ⟨μ23,le213,m212,hS⟩:=Sep.frzBlk (l:=([[61]]:List (List UInt8))) hS (Rw.one (α:=List UInt8) rfl) (Nat.le_of_ble_eq_true rfl)
       obtain ⟨r214,g215,h⟩:=bI h
       refine ca (p_need_w (hg.t (le42.t (le96.t (le121.t (le153.t (le169.t (le176.t (le183.t (le199.t (le206.t le213)))))))))) (m209.up le213) m212 g215 hS) ?_
       rintro _ w36 ⟨μ24,a217,c218,rfl,le216,hS,m219⟩
       refine po (nw (creg (st ?_)))
       obtain ⟨r220,g221,h⟩:=bI h
       refine ca ((ParE_sound fu).p_expr (hg.t (le42.t (le96.t (le121.t (le153.t (le169.t (le176.t (le183.t (le199.t (le206.t (le213.t le216))))))))))) m219 g221 hS) ?_
       rintro _ w37 ⟨μ25,a223,c224,a226,c227,rfl,le222,hS,m225,m228⟩
       refine po (st (wl (s_store ti193 (et (k10 d3)) (et (k10 d2)) rfl rfl rfl hS d1 (Spl.s p2 (of_decide_eq_true rfl) (Spl.s p3 (of_decide_eq_true rfl) (Spl.s p4 (of_decide_eq_true rfl) (Spl.s p5 (of_decide_eq_true rfl) Spl.z)))) rfl p1 dn ?_)))
       clear hS; intro w38 hS
       refine wnil ?_
       refine (fun h=>bn (xl h)) ?_
       replace hS:=((hS.bg Y1).bg Y2).bg Y2
       exact ⟨_,_,rfl,(aK5 (aO50 (aO20 (aO3 aZ)))),_,r220.2.1,_,_,r220.2.2.1,r220.2.2.2,2,r204.1,r220.1.Kind,r220.1.N,r220.1.Name,r220.1.Kids,_,_,rfl,h,(le42.t (le96.t (le121.t (le153.t (le169.t (le176.t (le183.t (le199.t (le206.t (le213.t (le216.t le222))))))))))),hS,m228,m225⟩
 ·rintro _ t w39 ⟨μ26,l26,a24,c25,i28,i29,i30,s31,i33,i34,s35,l38,a36,c37,rfl,h,le229,hS,m230,m231⟩
  unfold p_stat_j1 at h
  refine nrm (mK5 (mO50 (mO20 (mO3 mz)))) (xn (nz (st ?_)))
  refine wl (s_bsl underlying188 ti9 (Parts.s ec rfl Parts.z) rfl rfl hS ?_); clear hS; intro b232 w40 hb233 hS; refine po ?_
  obtain ⟨μ27,le235,m234,hS⟩:=Sep.frzBlk (l:=([[59]]:List (List UInt8))) hS (Rw.one (α:=List UInt8) rfl) (Nat.le_of_ble_eq_true rfl)
  obtain ⟨r236,g237,h⟩:=bI h
  refine ca (p_need_w (hg.t (le229.t le235)) (m230.up le235) m234 g237 hS) ?_
  rintro _ w41 ⟨μ28,a239,c240,rfl,le238,hS,m241⟩
  refine po (nx (lds (hS.blk d2).cells rfl (wl (s_storeA ti195 (et d2) (et (k80 d1)) rfl rfl hS d1 rfl p1 dn ?_))))
  clear hS; intro w42 hS
  refine nw (cret ?_)
  obtain rfl:=oI h
  refine retN rfl (RVs.s (.a d2 ti195 (hS.blk d1).cells rfl) RVs.z) ?_
  replace hS:=(hS.drop (Rm.s Rm.z)).drop (Rm.s Rm.z)
  exact ⟨_,_,_,none,0,none,0,_,_,rfl,(le229.t (le235.t le238)),hS,(m231.up (le235.t le238)),Sl.nil,Sl.nil,m241⟩
theorem ParS_sound:∀ n,ParSSound (ParS_run n)
  | 0=>⟨(by intros; rename_i h _; cases h),(by intros; rename_i h _; cases h)⟩
  | n+1=>⟨p_body_w (ParS_sound n),p_stat_w (ParS_sound n)⟩
theorem p_def_w (hg:Le Gm μ0) {left_2:List TToken} {end_6 deep_7:Int} {r:TDef×List TToken×Int×Int} (m5:Sl μ0 a3 c4 left_2) (h:p_def fu left_2 end_6 deep_7=some r) (hS:Sq μ0 w0 w (.blk b1 83 [.slice a3 left_2.length c4,.int .i64 end_6,.int .i64 deep_7]::rsF)):CallsV prog 35 [.pointer (some ⟨b1,0,none⟩)] w (fun v w'=>∃ (μ':M) (a8:Option Addr) (c9:Nat) (a11:Option Addr) (c12:Nat) (a14:Option Addr) (c15:Nat),v=.agg ⟨[.int .i64 r.1.Kind,S r.1.Name,.int .i64 r.1.Typ.Kind,S r.1.Typ.Gen,.int .i64 r.1.Takes.Kind,S r.1.Takes.Gen,.int .i64 r.1.Cap,.slice a8 r.1.Params.length c9,.slice a11 r.1.Body.length c12]⟩∧Le μ0 μ'∧Sq μ' w0 w' (.blk b1 83 [.slice a14 r.2.1.length c15,.int .i64 r.2.2.1,.int .i64 r.2.2.2]::rsF)∧Sl μ' a8 c9 r.1.Params∧Sl μ' a11 c12 r.1.Body∧Sl μ' a14 c15 r.2.1):=by
 unfold p_def at h
 refine enter func35 rfl (frm:=_::u2 (u5 (u10 (u20 (u50 []))))) rfl (nz ?_)
 refine wl (s_alloc ti91 hS ?_); clear hS; intro b17 w1 hb18 hS; refine po ?_
 refine nx (st ?_)
 obtain ⟨r19,g20,h⟩:=bI h
 replace hS:=hS.bg Y1
 refine ca (p_at_w hg m5 g20 hS) ?_
 rintro _ w2 ⟨μ1,rfl,le21,hS⟩
 refine po (st (ny (cblock (nz (st ?_)))))
 obtain ⟨r22,g23,h⟩:=bI h
 refine ca (p_is_w (hg.t le21) (m5.up le21) g23 hS) ?_
 rintro _ w3 ⟨μ2,a25,c26,rfl,le24,hS,m27⟩
 refine po (st (nw ?_))
 refine cifb (et (k10 d0)) (fun h28=>?_) (fun h28=>?_)
 ·replace h:=iT h28 h
  refine nz (st ?_)
  obtain ⟨r29,g30,h⟩:=bI h
  refine ca (p_name_w (hg.t (le21.t le24)) m27 g30 hS) ?_
  rintro _ w4 ⟨μ3,a32,c33,rfl,le31,hS,m34⟩
  refine po (st ?_)
  obtain ⟨r35,g36,h⟩:=bI h
  refine ca (p_typ_w (hg.t (le21.t (le24.t le31))) m34 g36 hS) ?_
  rintro _ w5 ⟨μ4,a38,c39,rfl,le37,hS,m40⟩
  refine po (wl (s_build ti91 pl91 (Fl.o rfl ec rfl rfl p0 (Fl.o rfl (et (k10 d4)) rfl rfl p1 (Fl.n rfl (et (k10 d6)) rfl rfl (Spl.s p2 (of_decide_eq_true rfl) (Spl.s p3 (of_decide_eq_true rfl) Spl.z)) Fl.z))) (dt (q10 p7)) ?_))
  refine wl (s_alloc ti91 hS ?_); clear hS; intro b41 w6 hb42 hS; refine po ?_
  refine wl (s_storeA ti91 (et d4) (et (k10 d7)) rfl rfl hS d0 rfl p0 dn ?_)
  clear hS; intro w7 hS
  refine nx (st ?_)
  obtain ⟨r43,g44,h⟩:=bI h
  replace hS:=hS.bg Y1
  refine ca (p_at_w (hg.t (le21.t (le24.t (le31.t le37)))) m40 g44 hS) ?_
  rintro _ w8 ⟨μ5,rfl,le45,hS⟩
  refine po (st (nx (st ?_)))
  obtain ⟨r46,g47,h⟩:=bI h
  refine ca (p_number_w (hg.t (le21.t (le24.t (le31.t (le37.t le45))))) (m40.up le45) g47 hS) ?_
  rintro _ w9 ⟨μ6,a49,c50,rfl,le48,hS,m51⟩
  refine po (st (ny (nz ?_)))
  iterate 3 refine st ?_
  refine wspd (k20 d4) (q20 p4) (q20 p4) (xT h) fun h52=>?_
  replace h:=iF h52 h
  refine sy rfl (sy rfl (st (nw ?_)))
  refine cifd (et (k20 d7)) (xT h) fun h53=>?_
  replace h:=iF h53 h
  refine cskip (xn (nz ?_))
  iterate 2 refine st ?_
  refine wl (s_store1 ti3 (et (k30 d2)) (et (k30 d1)) rfl hS d1 p6 rfl p1 dn ?_)
  clear hS; intro w10 hS
  refine nx (st ?_)
  refine wl (s_bsl underlying188 ti9 (Parts.s ec rfl Parts.z) rfl rfl hS ?_); clear hS; intro b54 w11 hb55 hS; refine po ?_
  obtain ⟨μ7,le57,m56,hS⟩:=Sep.frzBlk (l:=([[59]]:List (List UInt8))) hS (Rw.one (α:=List UInt8) rfl) (Nat.le_of_ble_eq_true rfl)
  obtain ⟨r58,g59,h⟩:=bI h
  refine ca (p_need_w (hg.t (le21.t (le24.t (le31.t (le37.t (le45.t (le48.t le57))))))) (m51.up le57) m56 g59 hS) ?_
  rintro _ w12 ⟨μ8,a61,c62,rfl,le60,hS,m63⟩
  refine po (nx (lds (hS.blk d1).cells rfl (wl (s_storeA ti91 (et d2) (et (k30 d6)) rfl rfl hS d2 rfl p2 dn ?_))))
  clear hS; intro w13 hS
  refine nw (cret ?_)
  refine (fun h=>br (xr h)) ?_
  obtain rfl:=oI h
  refine retN rfl (RVs.s (.a d2 ti91 (hS.blk d2).cells rfl) RVs.z) ?_
  replace hS:=(hS.drop (Rm.s Rm.z)).drop (Rm.s Rm.z)
  exact ⟨_,none,0,none,0,_,_,rfl,(le21.t (le24.t (le31.t (le37.t (le45.t (le48.t (le57.t le60))))))),hS,Sl.nil,Sl.nil,m63⟩
 ·replace h:=iF h28 h
  refine nz (st ?_)
  obtain ⟨r64,g65,h⟩:=bI h
  refine ca (p_is_w (hg.t (le21.t le24)) m27 g65 hS) ?_
  rintro _ w14 ⟨μ9,a67,c68,rfl,le66,hS,m69⟩
  refine po (st (nw ?_))
  refine cifb (et (k30 d7)) (fun h70=>?_) (fun h70=>?_)
  ·replace h:=iT h70 h
   refine nz (st ?_)
   obtain ⟨r71,g72,h⟩:=bI h
   refine ca (p_name_w (hg.t (le21.t (le24.t le66))) m69 g72 hS) ?_
   rintro _ w15 ⟨μ10,a74,c75,rfl,le73,hS,m76⟩
   refine po (st ?_)
   obtain ⟨r77,g78,h⟩:=bI h
   refine ca (p_params_w (hg.t (le21.t (le24.t (le66.t le73)))) m76 g78 hS) ?_
   rintro _ w16 ⟨μ11,a80,c81,a83,c84,rfl,le79,hS,m82,m85⟩
   refine po (wl (s_build ti91 pl91 (Fl.o rfl ec rfl rfl p0 (Fl.o rfl (et (k40 d1)) rfl rfl p1 (Fl.o rfl (et (k40 d3)) rfl rfl p7 Fl.z))) (dt (q40 p4)) ?_))
   refine wl (s_alloc ti91 hS ?_); clear hS; intro b86 w17 hb87 hS; refine po ?_
   refine wl (s_storeA ti91 (et d6) (et (k40 d4)) rfl rfl hS d0 rfl p0 dn ?_)
   clear hS; intro w18 hS
   refine nx (st ?_)
   obtain ⟨r88,g89,h⟩:=bI h
   replace hS:=hS.bg Y1
   refine ca (p_typ_w (hg.t (le21.t (le24.t (le66.t (le73.t le79))))) m85 g89 hS) ?_
   rintro _ w19 ⟨μ12,a91,c92,rfl,le90,hS,m93⟩
   refine po (st (wl (s_store ti87 (et (k40 d7)) (et (k40 d6)) rfl rfl rfl hS d1 (Spl.s p2 (of_decide_eq_true rfl) (Spl.s p3 (of_decide_eq_true rfl) Spl.z)) rfl p1 dn ?_)))
   clear hS; intro w20 hS
   refine nx (st ?_)
   obtain ⟨r94,g95,h⟩:=bI h
   refine ca ((ParS_sound fu).p_body (hg.t (le21.t (le24.t (le66.t (le73.t (le79.t le90)))))) m93 g95 hS) ?_
   rintro _ w21 ⟨μ13,a97,c98,a100,c101,rfl,le96,hS,m99,m102⟩
   refine po (st (wl (s_store1 ti89 (et (k50 d0)) (et (k40 d9)) rfl hS d1 p8 rfl p1 dn ?_)))
   clear hS; intro w22 hS
   refine nx (lds (hS.blk d1).cells rfl (wl (s_storeA ti91 (et d2) (et (k50 d1)) rfl rfl hS d2 rfl p2 dn ?_)))
   clear hS; intro w23 hS
   refine nw (cret ?_)
   refine (fun h=>br (xr h)) ?_
   obtain rfl:=oI h
   refine retN rfl (RVs.s (.a d2 ti91 (hS.blk d2).cells rfl) RVs.z) ?_
   replace hS:=(hS.drop (Rm.s Rm.z)).drop (Rm.s Rm.z)
   exact ⟨_,_,_,_,_,_,_,rfl,(le21.t (le24.t (le66.t (le73.t (le79.t (le90.t le96)))))),hS,(m82.up (le90.t le96)),m99,m102⟩
  ·replace h:=iF h70 h
   refine nz (st ?_)
   obtain ⟨r103,g104,h⟩:=bI h
   refine ca (p_is_w (hg.t (le21.t (le24.t le66))) m69 g104 hS) ?_
   rintro _ w24 ⟨μ14,a106,c107,rfl,le105,hS,m108⟩
   refine po (st (nw ?_))
   refine cifb (et (k50 d2)) (xT h) fun h109=>?_
   replace h:=iF h109 h
   refine nz (st ?_)
   obtain ⟨r110,g111,h⟩:=bI h
   refine ca (p_is_w (hg.t (le21.t (le24.t (le66.t le105)))) m108 g111 hS) ?_
   rintro _ w25 ⟨μ15,a113,c114,rfl,le112,hS,m115⟩
   refine po (st (nw ?_))
   refine cifb (et (k70 d6)) (fun h116=>?_) (xF h)
   replace h:=iT h116 h
   refine nz (st ?_)
   obtain ⟨r117,g118,h⟩:=bI h
   refine ca (p_name_w (hg.t (le21.t (le24.t (le66.t (le105.t le112))))) m115 g118 hS) ?_
   rintro _ w26 ⟨μ16,a120,c121,rfl,le119,hS,m122⟩
   refine po (st ?_)
   obtain ⟨r123,g124,h⟩:=bI h
   refine ca ((ParS_sound fu).p_body (hg.t (le21.t (le24.t (le66.t (le105.t (le112.t le119)))))) m122 g124 hS) ?_
   rintro _ w27 ⟨μ17,a126,c127,a129,c130,rfl,le125,hS,m128,m131⟩
   refine po (wl (s_build ti91 pl91 (Fl.o rfl ec rfl rfl p0 (Fl.o rfl (et (k80 d0)) rfl rfl p1 (Fl.o rfl (et (k80 d2)) rfl rfl p8 Fl.z))) (dt (q80 p3)) (wl (s_storeA ti91 (et d2) (et (k80 d3)) rfl rfl hS d1 rfl p1 dn ?_))))
   clear hS; intro w28 hS
   refine nw (cret ?_)
   refine (fun h=>br (xr h)) ?_
   obtain rfl:=oI h
   refine retN rfl (RVs.s (.a d2 ti91 (hS.blk d1).cells rfl) RVs.z) ?_
   replace hS:=hS.drop (Rm.s Rm.z)
   exact ⟨_,none,0,_,_,_,_,rfl,(le21.t (le24.t (le66.t (le105.t (le112.t (le119.t le125)))))),hS,Sl.nil,m128,m131⟩
end Go.Proofs.YtaenlbapejigbaaGreatDoor
set_option maxRecDepth 100000
namespace Go.Proofs.YtaenlbapejigbaaGreatDoor
open Go.Wk Go.Xt Go.Y Go.RowKit
theorem p_done_ret (v0 v1:Value) (w:World) :
    CallsD Tryz.prog 32 #[v0,v1] .returning w fun e u' w'=>e=.returned (.tuple #[])∧u'=.returning∧w'=w:=by
  refine callsD_of_wpS Tryz.func32 rfl fun c₀ cs hu=>?_
  apply wpS_seq
  apply wpS_region
  simp [wpOpsS,go_sem,recoverD,hu,Tryz.ntmps32,Exit.thenS]
  refine wpS_of_wp (CW.out (fr:=[v0,v1,undef,undef,undef,.nilIface,undef,undef,undef,undef,undef,undef,undef]) (ds:=[]) ?_)
  refine cblock ?_
  refine cseq ?_
  refine creg ?_
  refine wl (s_eqni Tryz.underlying20 (et d5) (.inl ⟨rfl,rfl⟩) (dt p7) ?_)
  refine wnil ?_
  refine xn ?_
  refine cift (et d7) ?_
  refine creg ?_
  refine wl (s_assign (et d5) (dt p2) ?_)
  refine wnil ?_
  refine bn ?_
  cases c₀
  simp_all [F,bodyPostS,results,Tryz.results32]
theorem p_done_w {μ0:M} {w0 w:World} {rsF:List Res} {v0 v1:Value} {r:Unit} (hg:Le Gm μ0) (h:p_done=some r) (hS:Sq μ0 w0 w rsF):CallsDR Tryz.prog 32 [v0,v1] w (fun v w'=>∃ μ':M,v=.tuple ⟨[]⟩∧Le μ0 μ'∧Sq μ' w0 w' rsF) :=
  ⟨(p_done_ret v0 v1 w).mono fun e u' w' he=>by
    obtain ⟨rfl,rfl,rfl⟩:=he
    exact ⟨rfl,_,rfl,Le.r,hS⟩⟩
end Go.Proofs.YtaenlbapejigbaaGreatDoor
set_option maxRecDepth 100000
set_option maxHeartbeats 20000000
namespace Go.Proofs.YtaenlbapejigbaaGreatDoor
open Go.Wk Go.Xt Go.Y Tryz
variable {fu:Nat} {μ0:M} {w0 w:World} {rsF:List Res}
theorem syn_read_w (hg:Le Gm μ0) {p_1:List UInt8} {r:List TDef×TFault}  (h:syn_read fu p_1=some r) (hS:Sq μ0 w0 w (rsF)):CallsV prog 21 [S p_1] w (fun v w'=>∃ (μ':M) (a1:Option Addr) (c2:Nat),v=.tuple ⟨[.slice a1 r.1.length c2,.agg ⟨[.int .i64 r.2.Err,.int .i64 r.2.At]⟩]⟩∧Le μ0 μ'∧Sq μ' w0 w' (rsF)∧Sl μ' a1 c2 r.1):=by
 unfold syn_read at h
 refine enterF func21 rfl (frm:=_::u2 (u2 (u5 (u20 (u20 []))))) rfl (nz ?_)
 refine wl (s_alloc ti43 hS ?_); clear hS; intro b4 w1 hb5 hS; refine po ?_
 refine wl (s_alloc ti45 hS ?_); clear hS; intro b6 w2 hb7 hS; refine po ?_
 refine nx (st ?_)
 obtain ⟨r8,g9,h⟩:=bI h
 refine ca (lex_tokens_w hg g9 hS) ?_
 rintro _ w3 ⟨μ1,a11,c12,rfl,le10,hS,m13⟩
 refine po ?_
 iterate 4 refine st ?_
 refine wl (s_storeA ti45 (et d3) (et (k10 d1)) rfl rfl hS d0 rfl p0 dn ?_)
 clear hS; intro w4 hS
 refine ny (nz (st (ld ((hS.blk d0).cell d0) (st (nw ?_)))))
 refine cifd (et (k10 d4)) (xT h) fun h14=>?_
 replace h:=iF h14 h
 refine cskip (xn (nz (wl (su (u_mkfn e0 (e1 (et d2) (e1 (et d3) e0))) (dt (q10 p6)) (wl (s_defer (et (k10 d6)) e0 dn (nx ?_)))))))
 iterate 2 refine st ?_
 refine wl (su (u_lens underlying9 (et (k10 d8))) (dt (q10 p9)) (wl (s_build ti83 pl83 (Fl.o rfl (et (k10 d7)) rfl rfl p0 (Fl.o rfl (et (k10 d9)) rfl rfl p1 Fl.z)) (dt (q20 p0)) ?_)))
 refine wl (s_box (et (k20 d0)) rfl hS ?_); clear hS; intro b15 w5 hb16 hS; refine po ?_
 refine st (ny (cblock ?_))
 replace hS:=hS.nilRow 91 (Mo.sz TDef)
 replace hS:=((hS.bg Y1).bg Y2).bg Y3
 refine cloopE (rg 22 18) (by decide) (fun n m w=>∃ μx l39 a37 c38 i41 i42 l45 v43 cs44,m=(yK20 (yK2 (yO10 22 (yO8 32 []))))∧syn_read_l1 fu r8 n l39 i41 i42 l45=some r∧Le μ1 μx∧Sq μx w0 w (.blk b4 43 [v43]::.blk b6 45 [.int .i64 r8.2.Err,.int .i64 r8.2.At]::.blk b15 83 [.slice a37 l39.length c38,.int .i64 i41,.int .i64 i42]::.row v43 91 9 l45.length cs44::rsF)∧Sl μx a37 c38 l39∧Rw μx cs44 l45) (by rintro _ _ _ ⟨_,_,_,_,_,_,_,_,_,rfl,_⟩; rfl) _ _ (aK20 (aK2 (aO10 (aO8 aZ)))) ⟨_,r8.1,a11,c12,(p_1.length:Int),0,[],(.slice none 0 0),[],rfl,h,Le.r,hS,m13,Rw.nil⟩ ?_
 rintro n_1 _ t w6 ⟨μ2,l39,a37,c38,i41,i42,l45,v43,cs44,rfl,h,le66,hS,m67,m68⟩
 cases n_1 with
 | zero=>cases h
 | succ n_1 =>
 unfold syn_read_l1 at h
 refine cnrm (mK20 (mK2 (mO10 (mO8 mz)))) (cseq (nz ?_))
 iterate 3 refine st ?_
 refine ld ((hS.blk d2).cell d0) (wl (su (u_lensl underlying76 (et (k20 d5))) (dt (q20 p6)) (st (nw ?_))))
 refine cifd (et (k20 d7)) (fun h69=>?_) (fun h69=>?_)
 ·replace h:=iT h69 h
  refine cskip (xn (cblock (cseq (nz (ld ((hS.blk d0).cell d0) (wl (su (u_lenv underlying43 (et (k20 d8)) (hS.get d3).isSl) (dt (q20 p9)) (st (nw ?_)))))))))
  refine cifd (et (k30 d0)) (xT h) fun h70=>?_
  replace h:=iF h70 h
  refine cskip (xn ?_)
  refine ccutE (rg 35 5) (by decide) (fun m w=>∃ μx l73 a71 c72 i75 i76 l79 v77 cs78,m=(yK20 (yK10 (yK5 (yO5 35 []))))∧syn_read_j1 (syn_read_l1 fu r8 n_1) l73 i75 i76 l79=some r∧Le μ2 μx∧Sq μx w0 w (.blk b4 43 [v77]::.blk b6 45 [.int .i64 r8.2.Err,.int .i64 r8.2.At]::.blk b15 83 [.slice a71 l73.length c72,.int .i64 i75,.int .i64 i76]::.row v77 91 9 l79.length cs78::rsF)∧Sl μx a71 c72 l73∧Rw μx cs78 l79) (by rintro _ _ ⟨_,_,_,_,_,_,_,_,_,rfl,_⟩; rfl) ?_ ?_
  ·refine cdw hS ?_; clear hS; intro w7 hS
   refine sf_start (fr_ 0 [0,4,5] rfl (u_load ti43 (et d2) ((hS.blk d0).cell d0)) (q30 p5) (fpi 1 [1,2,3,4,5] rfl ?_))
   obtain ⟨r81,g82,h⟩:=bI h
   replace hS:=hS.bg Y2
   refine sf1 rfl rfl rfl rfl (wn0 rfl) (s_callv isfn35 ef (e1 (et (k30 d6)) e0) (p_def_w (hg.t (le10.t le66)) m67 g82 hS) ?_)
   rintro _ w8 ⟨μ3,a84,c85,a87,c88,a90,c91,rfl,le83,hS,m86,m89,m92⟩
   refine po ?_
   refine ⟨(Mons.s (u_load ti43 (et d2) ((hS.blk d1).cell d0)) Mons.z),?_⟩
   refine sf1 rfl rfl rfl rfl (wn0 rfl) (s_bsl1 underlying43 ti91 rfl (et (k30 d7)) rfl hS ?_); clear hS; intro b93 w9 hb94 hS; refine po ?_
   refine ⟨(Mons.s (u_load ti43 (et d2) ((hS.blk d2).cell d0)) Mons.z),?_⟩
   obtain ⟨l97,g98,h⟩:=bI h
   have m99:Rw μ3 [.int .i64 r81.1.Kind,S r81.1.Name,.int .i64 r81.1.Typ.Kind,S r81.1.Typ.Gen,.int .i64 r81.1.Takes.Kind,S r81.1.Takes.Gen,.int .i64 r81.1.Cap,.slice a84 r81.1.Params.length c85,.slice a87 r81.1.Body.length c88] [r81.1]:=(Rw.one (α:=TDef) (TDef.i ⟨a84,c85,a87,c88,rfl,m86,m89⟩))
   have m96:=Rw.app (m68.up le83) m99 g98
   refine sf1 rfl rfl rfl rfl (wn0 rfl) (s_app1 underlying43 ti91 rfl (et (k30 d5)) (et (k30 d8)) hS d4 (hS.blk d0).cells m99 rfl g98 (by decide) ?_); clear hS; intro v95 w10 rs_ hp_ hS; cases (show _=rs_ from hp_)
   replace hS:=Sep.reput hS p4; refine po ?_
   replace hS:=hS.drop Rm.z
   refine ⟨Mons.z,?_⟩
   refine sf1 rfl rfl rfl rfl (wn0 rfl) (s_store1 ti43 (et d2) (et (k30 d9)) (hS.get d3).cellV hS d1 p0 rfl p1 dn ?_)
   clear hS; intro w11 hS
   refine ⟨Mons.z,?_⟩
   refine sf_nil (xl ?_)
   replace hS:=(((hS.bg Y3).bg Y1).bg Y3).bg Y3
   exact ⟨_,_,rfl,(aK20 (aK10 (aK5 (aO5 aZ)))),_,r81.2.1,_,_,r81.2.2.1,r81.2.2.2,_,_,(cs44++[.int .i64 r81.1.Kind,S r81.1.Name,.int .i64 r81.1.Typ.Kind,S r81.1.Typ.Gen,.int .i64 r81.1.Takes.Kind,S r81.1.Takes.Gen,.int .i64 r81.1.Cap,.slice a84 r81.1.Params.length c85,.slice a87 r81.1.Body.length c88]),rfl,h,le83,hS,m92,m96⟩
  ·rintro _ t w12 ⟨μ4,l73,a71,c72,i75,i76,l79,v77,cs78,rfl,h,le100,hS,m101,m102⟩
   unfold syn_read_j1 at h
   refine nrm (mK20 (mK10 (mK5 (mO5 mz)))) ?_
   refine (fun h=>bn (xl h)) ?_
   exact ⟨n_1,_,_,rfl,(aK20 (aK2 (aO10 (aO8 aZ)))),⟨_,l73,a71,c72,i75,i76,l79,v77,cs78,rfl,h,(le66.t le100),hS,m101,m102⟩,Nat.lt_succ_self _⟩
 ·replace h:=iF h69 h
  refine cexit ?_
  refine (fun h=>xe (xe (bh h))) ?_
  refine xn (cseq (nz (ld ((hS.blk d0).cell d0) ?_)))
  replace hS:=hS.bg Y3
  obtain ⟨μ5,a103,c104,e107,le106,m105,hq_⟩:=Sep.frzRow hS m68 rfl; clear hS
  subst e107; have hS:=hq_; clear hq_
  obtain ⟨r108,g109,h⟩:=bI h
  refine ca (syn_wrong_w (hg.t (le10.t (le66.t le106))) m105 g109 hS) ?_
  rintro _ w13 ⟨μ6,rfl,le110,hS⟩
  refine po ?_
  refine wl (s_alloc ti45 hS ?_); clear hS; intro b111 w14 hb112 hS; refine po ?_
  refine wl (s_storeA ti45 (et d6) (et (k40 d1)) rfl rfl hS d0 rfl p0 dn ?_)
  clear hS; intro w15 hS
  refine nx (st (ld ((hS.blk d0).cell d0) (st (nw ?_))))
  refine cifd (et (k40 d4)) (xT h) fun h113=>?_
  replace h:=iF h113 h
  refine cskip (xn (cseq ?_))
  refine ccutE (rg 48 2) (by decide) (fun m w=>∃ (μx:M) ,m=(yK20 (yK20 (yK8 (yO2 48 []))))∧syn_read_j2 r8 l45 =some r∧Le μ6 μx∧Sq μx w0 w (.blk b4 43 [.slice a103 l45.length c104]::.blk b6 45 [.int .i64 r8.2.Err,.int .i64 r8.2.At]::rsF)) (by rintro _ _ ⟨_,rfl,_⟩; rfl) ?_ ?_
  ·refine cdw hS ?_; clear hS; intro w16 hS
   refine sf_start (fr_ 0 [0,2,3] rfl (u_load ti43 (et d2) ((hS.blk d1).cell d0)) (q40 p8) (fr_ 1 [1,3] rfl (u_loads ti45 (et d3) (hS.blk d2).cells rfl) (q40 p9) (sf1 rfl rfl rfl rfl (wn0 rfl) (s_store1 ti43 (et d2) (et (k40 d8)) rfl hS d1 p0 rfl p1 dn ?_))))
   clear hS; intro w17 hS
   refine ⟨(Mons.s (u_loads ti45 (et d3) (hS.blk d2).cells rfl) Mons.z),?_⟩
   refine sf1 rfl rfl rfl rfl (wn0 rfl) (s_storeA ti45 (et d3) (et (k40 d9)) rfl rfl hS d2 rfl p2 dn ?_)
   clear hS; intro w18 hS
   refine ⟨Mons.z,?_⟩
   refine sf_nil (xl ?_)
   replace hS:=(hS.drop Rm.z).drop (Rm.s (Rm.s Rm.z))
   exact ⟨_,_,rfl,(aK20 (aK20 (aK8 (aO2 aZ)))),_,rfl,h,Le.r,hS⟩
  ·rintro _ t w19 ⟨μ7,rfl,h,le114,hS⟩
   unfold syn_read_j2 at h
   refine nrm (mK20 (mK20 (mK8 (mO2 mz)))) (xn (cret ?_))
   obtain ⟨r115,g116,h⟩:=bI h
   refine retDr isfn32 (p_done_w (hg.t (le10.t (le66.t (le106.t (le110.t le114))))) g116 hS) ?_
   rintro _ w20 ⟨μ8,rfl,le117,hS⟩
   obtain rfl:=oI h
   refine retDN rfl (RVs.s (.c d2 ti43 ((hS.blk d0).cell d0)) (RVs.s (.a d3 ti45 (hS.blk d1).cells rfl) RVs.z)) ?_
   replace hS:=(hS.drop Rm.z).drop Rm.z
   exact ⟨_,_,_,rfl,(le10.t (le66.t (le106.t (le110.t (le114.t le117))))),hS,(m105.up (le110.t (le114.t le117)))⟩
end Go.Proofs.YtaenlbapejigbaaGreatDoor
set_option maxRecDepth 100000
set_option maxHeartbeats 20000000
namespace Go.Proofs.YtaenlbapejigbaaGreatDoor
open Go.Wk Go.Xt Go.Y Tryz
variable {b1 b3 b6 b8 b12 c4 c6 c15 c18 fu o2 o4 o13:Nat} {a3 a5 a14 a17:Option Addr} {v22:Value} {ms23:List (Nat×List MapEntry×Nat)} {μ0:M} {w0 w:World} {rsF:List Res}
theorem sema_plain_w (hg:Le Gm μ0) {p_1:TType} {r:Bool}  (h:sema_plain p_1=some r) (hS:Sq μ0 w0 w (rsF)):CallsV prog 158 [.agg ⟨[.int .i64 p_1.Kind,S p_1.Gen]⟩] w (fun v w'=>∃ (μ':M) ,v=.bool r∧Le μ0 μ'∧Sq μ' w0 w' (rsF)):=by
 unfold sema_plain at h
 refine enter func158 rfl (frm:=_::u5 []) rfl (nz ?_)
 refine wl (s_box (et d0) rfl hS ?_); clear hS; intro b1 w1 hb2 hS; refine po ?_
 refine st (nx (st (ld ((hS.blk d0).cell d0) ?_)))
 iterate 2 refine st ?_
 refine nw (cret ?_)
 obtain rfl:=oI h
 refine ret1 rfl d2 ?_
 replace hS:=hS.drop Rm.z
 exact ⟨_,rfl,Le.r,hS⟩
theorem sema_find_w (hg:Le Gm μ0) {p_1:TSp} {p_2:Int} {p_3:List UInt8} {r:Option TDef×Bool} (m5:Sl μ0 a3 c4 p_1.defs) (m7:Mr μ0 b6 p_1.named) (m8:At μ0 b1 o2 [.slice a3 p_1.defs.length c4,.map (some b6)]) (h:sema_find p_1 p_2 p_3=some r) (hS:Sq μ0 w0 w (rsF)):CallsV prog 167 [.pointer (some ⟨b1,o2,none⟩),.int .i64 p_2,S p_3] w (fun v w'=>∃ (μ':M) (v9:Value),v=.tuple ⟨[v9,.bool r.2]⟩∧Le μ0 μ'∧Sq μ' w0 w' (rsF)∧Np μ' v9 r.1):=by
 unfold sema_find at h
 refine enter func167 rfl (frm:=_::_::_::u1 (u5 (u20 []))) rfl (nz ?_)
 iterate 2 refine st ?_
 refine nx ?_
 iterate 3 refine st ?_
 refine ld ((m8 _ hS.a).one d1) (st ?_)
 obtain ⟨es11,c12,hb13,hq14⟩:=m7
 refine wl (s_mgetP2 (κ:=List UInt8) (k:=p_3) (hrv:=fun _ _ h=>h) underlying96 underlying9 (et (k10 d4)) (et (k10 d5)) zv99 (hb13 _ hS.a) hq14 ?_); intro v15 hv16; refine po ?_
 iterate 5 refine st ?_
 refine ny ?_
 refine cdw hS ?_; clear hS; intro w1 hS
 refine cpi 0 rfl (cpi 1 rfl (cpi 2 rfl (cpi 10 rfl ?_)))
 refine scs (k20 d1) (q20 p1) (q20 p1) (fun h17=>?_) (xF h)
 replace h:=iT h17 h
 refine cpY 3 rfl rfl (k20 d1) (u_move (et d8)) (q20 p2) ?_
 obtain ⟨x18,g19,h⟩:=bI h
 obtain ⟨b20,o21,cs22,rfl,f23,m24⟩:=Np.get hv16 g19
 obtain ⟨a25,c26,a28,c29,rfl,m27,m30⟩:=m24
 refine cpY 4 rfl rfl (k20 d1) (u_nilck (et (k20 d2))) (q20 p3) (cpY 5 rfl rfl (k20 d1) (u_fa fa91_0 (et (k20 d3)) rfl) (q20 p4) (crY 6 [6,8,9,11] rfl rfl (k20 d1) (u_load ti3 (et (k20 d4)) ((f23 _ hS.a).one d0)) (q20 p5) (cpY 7 rfl rfl (k20 d1) (u_move (et d1)) (q20 p6) (cpY 8 rfl rfl (k20 d1) (u_eqi (et (k20 d5)) (et (k20 d6))) (q20 p7) (cpi 9 rfl (cpi 11 rfl (nu (cret ?_))))))))
 obtain rfl:=oI h
 refine ret2 rfl d6 d7 ?_
 exact ⟨_,(.pointer (some ⟨b20,o21,none⟩)),rfl,Le.r,hS,hv16⟩
theorem sema_typ_w (hg:Le Gm μ0) {p_1:TSp} {p_2:TType} {r:Int} (m5:Sl μ0 a3 c4 p_1.defs) (m7:Mr μ0 b6 p_1.named) (m8:At μ0 b1 o2 [.slice a3 p_1.defs.length c4,.map (some b6)]) (h:sema_typ p_1 p_2=some r) (hS:Sq μ0 w0 w (rsF)):CallsV prog 157 [.pointer (some ⟨b1,o2,none⟩),.agg ⟨[.int .i64 p_2.Kind,S p_2.Gen]⟩] w (fun v w'=>∃ (μ':M) ,v=.int .i64 r∧Le μ0 μ'∧Sq μ' w0 w' (rsF)):=by
 unfold sema_typ at h
 refine enter func157 rfl (frm:=_::_::u1 (u5 (u10 []))) rfl (nz ?_)
 refine wl (s_box (et d1) rfl hS ?_); clear hS; intro b9 w1 hb10 hS; refine po ?_
 refine st (ny (nz (lds (hS.blk d0).cells rfl ?_)))
 obtain ⟨r11,g12,h⟩:=bI h
 refine ca (sema_plain_w hg g12 hS) ?_
 rintro _ w2 ⟨μ1,rfl,le13,hS⟩
 refine po (nw ?_)
 refine cifb (et d8) (fun h14=>?_) (xF h)
 replace h:=iT h14 h
 refine nz (st (nw (cret (xr ?_))))
 obtain rfl:=oI h
 refine ret1 rfl d4 ?_
 replace hS:=hS.drop Rm.z
 exact ⟨_,rfl,le13,hS⟩
theorem sema_bare_w (hg:Le Gm μ0) {p_1 r:TType}  (h:sema_bare p_1=some r) (hS:Sq μ0 w0 w (rsF)):CallsV prog 159 [.agg ⟨[.int .i64 p_1.Kind,S p_1.Gen]⟩] w (fun v w'=>∃ (μ':M) ,v=.agg ⟨[.int .i64 r.Kind,S r.Gen]⟩∧Le μ0 μ'∧Sq μ' w0 w' (rsF)):=by
 unfold sema_bare at h
 refine enter func159 rfl (frm:=_::u1 (u5 [])) rfl (nz ?_)
 refine wl (s_box (et d0) rfl hS ?_); clear hS; intro b1 w1 hb2 hS; refine po ?_
 refine wl (s_alloc ti87 hS ?_); clear hS; intro b3 w2 hb4 hS; refine po ?_
 refine ny (nz (lds (hS.blk d1).cells rfl ?_))
 obtain ⟨r5,g6,h⟩:=bI h
 refine ca (sema_plain_w hg g6 hS) ?_
 rintro _ w3 ⟨μ1,rfl,le7,hS⟩
 refine po (nw ?_)
 refine cifb (et d4) (fun h8=>?_) (xF h)
 replace h:=iT h8 h
 refine creg (st (wl (s_store1 ti9 (et d5) ec rfl hS d1 p1 rfl p1 dn ?_)))
 clear hS; intro w4 hS
 refine nx (lds (hS.blk d1).cells rfl (wl (s_storeA ti87 (et d2) (et d6) rfl rfl hS d0 rfl p0 dn ?_)))
 clear hS; intro w5 hS
 refine nw (cret ?_)
 obtain rfl:=oI h
 refine retN rfl (RVs.s (.a d2 ti87 (hS.blk d0).cells rfl) RVs.z) ?_
 replace hS:=(hS.drop Rm.z).drop Rm.z
 exact ⟨_,rfl,le7,hS⟩
theorem sema_num_w (hg:Le Gm μ0)  {r:TType}  (h:sema_num =some r) (hS:Sq μ0 w0 w (rsF)):CallsV prog 188 [] w (fun v w'=>∃ (μ':M) ,v=.agg ⟨[.int .i64 r.Kind,S r.Gen]⟩∧Le μ0 μ'∧Sq μ' w0 w' (rsF)):=by
 unfold sema_num at h
 refine enter func188 rfl (frm:=u2 []) rfl (nz ?_)
 refine wl (s_alloc ti87 hS ?_); clear hS; intro b1 w1 hb2 hS; refine po ?_
 refine nx (wl (s_build ti87 pl87 (Fl.o rfl ec rfl rfl p0 Fl.z) (dt p1) (wl (s_storeA ti87 (et d0) (et d1) rfl rfl hS d0 rfl p0 dn ?_))))
 clear hS; intro w2 hS
 refine nw (cret ?_)
 obtain rfl:=oI h
 refine retN rfl (RVs.s (.a d0 ti87 (hS.blk d0).cells rfl) RVs.z) ?_
 replace hS:=hS.drop Rm.z
 exact ⟨_,rfl,Le.r,hS⟩
theorem sema_boolean_w (hg:Le Gm μ0)  {r:TType}  (h:sema_boolean =some r) (hS:Sq μ0 w0 w (rsF)):CallsV prog 179 [] w (fun v w'=>∃ (μ':M) ,v=.agg ⟨[.int .i64 r.Kind,S r.Gen]⟩∧Le μ0 μ'∧Sq μ' w0 w' (rsF)):=by
 unfold sema_boolean at h
 refine enter func179 rfl (frm:=u2 []) rfl (nz ?_)
 refine wl (s_alloc ti87 hS ?_); clear hS; intro b1 w1 hb2 hS; refine po ?_
 refine nx (wl (s_build ti87 pl87 (Fl.o rfl ec rfl rfl p0 Fl.z) (dt p1) (wl (s_storeA ti87 (et d0) (et d1) rfl rfl hS d0 rfl p0 dn ?_))))
 clear hS; intro w2 hS
 refine nw (cret ?_)
 obtain rfl:=oI h
 refine retN rfl (RVs.s (.a d0 ti87 (hS.blk d0).cells rfl) RVs.z) ?_
 replace hS:=hS.drop Rm.z
 exact ⟨_,rfl,Le.r,hS⟩
theorem sema_look_w (hg:Le Gm μ0) {prog_2:TSp} {def_11:TDef} {bloc_21:List (List (List UInt8×TType))} {p_2:List UInt8} {r:TType×Bool} (m7:Sl μ0 a5 c6 prog_2.defs) (m9:Mr μ0 b8 prog_2.named) (m10:At μ0 b3 o4 [.slice a5 prog_2.defs.length c6,.map (some b8)]) (m16:Sl μ0 a14 c15 def_11.Params) (m19:Sl μ0 a17 c18 def_11.Body) (m20:At μ0 b12 o13 [.int .i64 def_11.Kind,S def_11.Name,.int .i64 def_11.Typ.Kind,S def_11.Typ.Gen,.int .i64 def_11.Takes.Kind,S def_11.Takes.Gen,.int .i64 def_11.Cap,.slice a14 def_11.Params.length c15,.slice a17 def_11.Body.length c18]) (m24:Ms μ0 ms23 bloc_21) (h:sema_look fu prog_2 def_11 bloc_21 p_2=some r) (hS:Sq μ0 w0 w (.blk b1 261 [.pointer (some ⟨b3,o4,none⟩),.pointer (some ⟨b12,o13,none⟩),v22]::.row v22 258 1 bloc_21.length (cOf ms23)::(mRs ms23++rsF))):CallsV prog 177 [.pointer (some ⟨b1,0,none⟩),S p_2] w (fun v w'=>∃ (μ':M) ,v=.tuple ⟨[.agg ⟨[.int .i64 r.1.Kind,S r.1.Gen]⟩,.bool r.2]⟩∧Le μ0 μ'∧Sq μ' w0 w' (.blk b1 261 [.pointer (some ⟨b3,o4,none⟩),.pointer (some ⟨b12,o13,none⟩),v22]::.row v22 258 1 bloc_21.length (cOf ms23)::(mRs ms23++rsF))):=by
 unfold sema_look at h
 refine enter func177 rfl (frm:=_::_::u2 (u10 (u20 []))) rfl (nz ?_)
 refine wl (s_alloc ti87 hS ?_); clear hS; intro b25 w1 hb26 hS; refine po ?_
 refine st (ny (nz ?_))
 iterate 3 refine st ?_
 refine ld ((hS.blk d1).cell d2) (wl (su (u_lenv underlying259 (et (k10 d2)) (hS.get d2).isSl) (dt (q10 p3)) ?_))
 obtain ⟨i27,g28,h⟩:=bI h
 refine wl (su (u_subc (et (k10 d3)) ec g28) (dt (q10 p4)) (st (nw (cblock ?_))))
 replace hS:=(hS.bg Y2).bg Y2
 refine cloopE ([5]++rg 7 2++rg 15 18) (by decide +kernel) (fun n m w=>∃ μx i48,m=(yK5 (yO1 5 (.i (.int .i64 i48)::(yO2 7 (yK6 (yO10 15 (yO8 25 [])))))))∧sema_look_l1 p_2 bloc_21 n i48=some r∧Le μ0 μx∧Sq μx w0 w (.blk b1 261 [.pointer (some ⟨b3,o4,none⟩),.pointer (some ⟨b12,o13,none⟩),v22]::.row v22 258 1 bloc_21.length (cOf ms23)::.blk b25 87 [.int .i64 0,S []]::(mRs ms23++rsF))) (by rintro _ _ _ ⟨_,_,rfl,_⟩; rfl) _ _ (aK5 (aO1 (aI (aO2 (aK6 (aO10 (aO8 aZ))))))) ⟨_,i27,rfl,h,Le.r,hS⟩ ?_
 rintro n_1 _ t w2 ⟨μ1,i48,rfl,h,le68,hS⟩
 cases n_1 with
 | zero=>cases h
 | succ n_1 =>
 unfold sema_look_l1 at h
 refine cnrm (mK5 (mO1 (mi (mO2 (mK6 (mO10 (mO8 mz))))))) (cseq (nz ?_))
 iterate 2 refine st ?_
 refine nw ?_
 refine cifd (et (k10 d6)) (fun h69=>?_) (fun h69=>?_)
 ·replace h:=iT h69 h
  refine cskip (xn (cseq (cblock (nz ?_))))
  iterate 3 refine st ?_
  refine ld ((hS.blk d0).cell d2) (st ?_)
  obtain ⟨x70,g71,h⟩:=bI h
  obtain ⟨b72,o73,b74,es75,c76,e77,f78,hms79,mq80⟩:=Row.mapElem (hS.get d1) (m24.up le68) g71
  refine wl (su (u_iax underlying259 ti258 (et (k20 d3)) (et (k20 d4)) e77) (dt (q20 p5)) (ld ((f78 _ _ (hS.get d1)).one d0) (st ?_)))
  refine wl (s_mget2 (κ:=List UInt8) (k:=p_2) (β:=TType) (zx:=(TType.mk 0 [])) underlying258 underlying9 (et (k20 d6)) (et (k20 d7)) zv87 ⟨_,rfl,rfl⟩ (hS.mapAt (pre:=[_,_,_]) hms79) mq80 ?_); rintro _ ⟨_,rfl,rfl⟩; refine po ?_
  iterate 3 refine st ?_
  refine wl (s_alloc ti87 hS ?_); clear hS; intro b85 w3 hb86 hS; refine po ?_
  refine wl (s_storeA ti87 (et d7) (et (k20 d9)) rfl rfl hS d0 rfl p0 dn ?_)
  clear hS; intro w4 hS
  refine st (nx (st (nw ?_)))
  refine cifb (et (k30 d1)) (fun h87=>?_) (fun h87=>?_)
  ·replace h:=iT h87 h
   refine nz (lds (hS.blk d0).cells rfl (wl (s_storeA ti87 (et d4) (et (k30 d2)) rfl rfl hS d3 rfl p3 dn ?_)))
   clear hS; intro w5 hS
   refine st (nw (cret ?_))
   refine (fun h=>br (xr (xr (br (xr h))))) ?_
   obtain rfl:=oI h
   refine retN rfl (RVs.s (.a d4 ti87 (hS.blk d3).cells rfl) (RVs.s (.t d5) RVs.z)) ?_
   replace hS:=(hS.drop Rm.z).drop (Rm.s (Rm.s Rm.z))
   replace hS:Sq μ1 w0 _ (.blk b1 261 [.pointer (some ⟨b3,o4,none⟩),.pointer (some ⟨b12,o13,none⟩),v22]::.row v22 258 1 bloc_21.length (cOf ms23)::(mRs ms23++rsF)):=hS
   exact ⟨_,rfl,le68,hS⟩
  ·replace h:=iF h87 h
   refine cskip ?_
   refine (fun h=>bn (xn h)) ?_
   refine creg (st ?_)
   obtain ⟨i88,g89,h⟩:=bI h
   refine wl (su (u_subc (et (k10 d7)) ec g89) (dt (q10 p8)) (st (wnil (xl ?_))))
   replace hS:=hS.drop Rm.z
   exact ⟨n_1,_,_,rfl,(aK5 (aO1 (aI (aO2 (aK6 (aO10 (aO8 aZ))))))),⟨_,i88,rfl,h,le68,hS⟩,Nat.lt_succ_self _⟩
 ·replace h:=iF h69 h
  refine cexit ?_
  refine (fun h=>xe (xe (bh h))) ?_
  refine xn (nz (wl (s_build ti87 pl87 Fl.z (dt (q30 p3)) (wl (s_storeA ti87 (et d4) (et (k30 d3)) rfl rfl hS d2 rfl p2 dn ?_)))))
  clear hS; intro w6 hS
  refine st (nw (cret ?_))
  obtain rfl:=oI h
  refine retN rfl (RVs.s (.a d4 ti87 (hS.blk d2).cells rfl) (RVs.s (.t d5) RVs.z)) ?_
  replace hS:=hS.drop (Rm.s (Rm.s Rm.z))
  replace hS:Sq μ1 w0 _ (.blk b1 261 [.pointer (some ⟨b3,o4,none⟩),.pointer (some ⟨b12,o13,none⟩),v22]::.row v22 258 1 bloc_21.length (cOf ms23)::(mRs ms23++rsF)):=hS
  exact ⟨_,rfl,le68,hS⟩
structure SemaESound (sf:SemaE):Prop where
  sema_typed:∀ {μ0:M} {w0 w:World} {rsF:List Res} (hg:Le Gm μ0) {b1:Nat} {prog_2:TSp} {b3 o4:Nat} {a5:Option Addr} {c6 b8:Nat} {def_11:TDef} {b12 o13:Nat} {a14:Option Addr} {c15:Nat} {a17:Option Addr} {c18:Nat} {bloc_21:List (List (List UInt8×TType))} {v22:Value} {ms23:List (Nat×List MapEntry×Nat)} {p_2:TExpr} {b25 o26:Nat} {a27:Option Addr} {c28:Nat} {p_3:TType} {r:Int} (m7:Sl μ0 a5 c6 prog_2.defs) (m9:Mr μ0 b8 prog_2.named) (m10:At μ0 b3 o4 [.slice a5 prog_2.defs.length c6,.map (some b8)]) (m16:Sl μ0 a14 c15 def_11.Params) (m19:Sl μ0 a17 c18 def_11.Body) (m20:At μ0 b12 o13 [.int .i64 def_11.Kind,S def_11.Name,.int .i64 def_11.Typ.Kind,S def_11.Typ.Gen,.int .i64 def_11.Takes.Kind,S def_11.Takes.Gen,.int .i64 def_11.Cap,.slice a14 def_11.Params.length c15,.slice a17 def_11.Body.length c18]) (m24:Ms μ0 ms23 bloc_21) (m29:Sl μ0 a27 c28 p_2.Kids) (m30:At μ0 b25 o26 [.int .i64 p_2.Kind,.int .i64 p_2.N,S p_2.Name,.slice a27 p_2.Kids.length c28]) (h:sf.sema_typed prog_2 def_11 bloc_21 p_2 p_3=some r) (hS:Sq μ0 w0 w (.blk b1 261 [.pointer (some ⟨b3,o4,none⟩),.pointer (some ⟨b12,o13,none⟩),v22]::.row v22 258 1 bloc_21.length (cOf ms23)::(mRs ms23++rsF))),CallsV prog 178 [.pointer (some ⟨b1,0,none⟩),.pointer (some ⟨b25,o26,none⟩),.agg ⟨[.int .i64 p_3.Kind,S p_3.Gen]⟩] w (fun v w'=>∃ (μ':M) ,v=.int .i64 r∧Le μ0 μ'∧Sq μ' w0 w' (.blk b1 261 [.pointer (some ⟨b3,o4,none⟩),.pointer (some ⟨b12,o13,none⟩),v22]::.row v22 258 1 bloc_21.length (cOf ms23)::(mRs ms23++rsF)))
  sema_args:∀ {μ0:M} {w0 w:World} {rsF:List Res} (hg:Le Gm μ0) {b1:Nat} {prog_2:TSp} {b3 o4:Nat} {a5:Option Addr} {c6 b8:Nat} {def_11:TDef} {b12 o13:Nat} {a14:Option Addr} {c15:Nat} {a17:Option Addr} {c18:Nat} {bloc_21:List (List (List UInt8×TType))} {v22:Value} {ms23:List (Nat×List MapEntry×Nat)} {p_2:TExpr} {b25 o26:Nat} {a27:Option Addr} {c28:Nat} {p_3:Int} {r:Option TDef×Int} (m7:Sl μ0 a5 c6 prog_2.defs) (m9:Mr μ0 b8 prog_2.named) (m10:At μ0 b3 o4 [.slice a5 prog_2.defs.length c6,.map (some b8)]) (m16:Sl μ0 a14 c15 def_11.Params) (m19:Sl μ0 a17 c18 def_11.Body) (m20:At μ0 b12 o13 [.int .i64 def_11.Kind,S def_11.Name,.int .i64 def_11.Typ.Kind,S def_11.Typ.Gen,.int .i64 def_11.Takes.Kind,S def_11.Takes.Gen,.int .i64 def_11.Cap,.slice a14 def_11.Params.length c15,.slice a17 def_11.Body.length c18]) (m24:Ms μ0 ms23 bloc_21) (m29:Sl μ0 a27 c28 p_2.Kids) (m30:At μ0 b25 o26 [.int .i64 p_2.Kind,.int .i64 p_2.N,S p_2.Name,.slice a27 p_2.Kids.length c28]) (h:sf.sema_args prog_2 def_11 bloc_21 p_2 p_3=some r) (hS:Sq μ0 w0 w (.blk b1 261 [.pointer (some ⟨b3,o4,none⟩),.pointer (some ⟨b12,o13,none⟩),v22]::.row v22 258 1 bloc_21.length (cOf ms23)::(mRs ms23++rsF))),CallsV prog 190 [.pointer (some ⟨b1,0,none⟩),.pointer (some ⟨b25,o26,none⟩),.int .i64 p_3] w (fun v w'=>∃ (μ':M) (v31:Value),v=.tuple ⟨[v31,.int .i64 r.2]⟩∧Le μ0 μ'∧Sq μ' w0 w' (.blk b1 261 [.pointer (some ⟨b3,o4,none⟩),.pointer (some ⟨b12,o13,none⟩),v22]::.row v22 258 1 bloc_21.length (cOf ms23)::(mRs ms23++rsF))∧Np μ' v31 r.1)
  sema_both:∀ {μ0:M} {w0 w:World} {rsF:List Res} (hg:Le Gm μ0) {b1:Nat} {prog_2:TSp} {b3 o4:Nat} {a5:Option Addr} {c6 b8:Nat} {def_11:TDef} {b12 o13:Nat} {a14:Option Addr} {c15:Nat} {a17:Option Addr} {c18:Nat} {bloc_21:List (List (List UInt8×TType))} {v22:Value} {ms23:List (Nat×List MapEntry×Nat)} {p_2:TExpr} {b25 o26:Nat} {a27:Option Addr} {c28:Nat} {r:TType×Int} (m7:Sl μ0 a5 c6 prog_2.defs) (m9:Mr μ0 b8 prog_2.named) (m10:At μ0 b3 o4 [.slice a5 prog_2.defs.length c6,.map (some b8)]) (m16:Sl μ0 a14 c15 def_11.Params) (m19:Sl μ0 a17 c18 def_11.Body) (m20:At μ0 b12 o13 [.int .i64 def_11.Kind,S def_11.Name,.int .i64 def_11.Typ.Kind,S def_11.Typ.Gen,.int .i64 def_11.Takes.Kind,S def_11.Takes.Gen,.int .i64 def_11.Cap,.slice a14 def_11.Params.length c15,.slice a17 def_11.Body.length c18]) (m24:Ms μ0 ms23 bloc_21) (m29:Sl μ0 a27 c28 p_2.Kids) (m30:At μ0 b25 o26 [.int .i64 p_2.Kind,.int .i64 p_2.N,S p_2.Name,.slice a27 p_2.Kids.length c28]) (h:sf.sema_both prog_2 def_11 bloc_21 p_2=some r) (hS:Sq μ0 w0 w (.blk b1 261 [.pointer (some ⟨b3,o4,none⟩),.pointer (some ⟨b12,o13,none⟩),v22]::.row v22 258 1 bloc_21.length (cOf ms23)::(mRs ms23++rsF))),CallsV prog 189 [.pointer (some ⟨b1,0,none⟩),.pointer (some ⟨b25,o26,none⟩)] w (fun v w'=>∃ (μ':M) ,v=.tuple ⟨[.agg ⟨[.int .i64 r.1.Kind,S r.1.Gen]⟩,.int .i64 r.2]⟩∧Le μ0 μ'∧Sq μ' w0 w' (.blk b1 261 [.pointer (some ⟨b3,o4,none⟩),.pointer (some ⟨b12,o13,none⟩),v22]::.row v22 258 1 bloc_21.length (cOf ms23)::(mRs ms23++rsF)))
  sema_expr:∀ {μ0:M} {w0 w:World} {rsF:List Res} (hg:Le Gm μ0) {b1:Nat} {prog_2:TSp} {b3 o4:Nat} {a5:Option Addr} {c6 b8:Nat} {def_11:TDef} {b12 o13:Nat} {a14:Option Addr} {c15:Nat} {a17:Option Addr} {c18:Nat} {bloc_21:List (List (List UInt8×TType))} {v22:Value} {ms23:List (Nat×List MapEntry×Nat)} {p_2:TExpr} {b25 o26:Nat} {a27:Option Addr} {c28:Nat} {r:TType×Int} (m7:Sl μ0 a5 c6 prog_2.defs) (m9:Mr μ0 b8 prog_2.named) (m10:At μ0 b3 o4 [.slice a5 prog_2.defs.length c6,.map (some b8)]) (m16:Sl μ0 a14 c15 def_11.Params) (m19:Sl μ0 a17 c18 def_11.Body) (m20:At μ0 b12 o13 [.int .i64 def_11.Kind,S def_11.Name,.int .i64 def_11.Typ.Kind,S def_11.Typ.Gen,.int .i64 def_11.Takes.Kind,S def_11.Takes.Gen,.int .i64 def_11.Cap,.slice a14 def_11.Params.length c15,.slice a17 def_11.Body.length c18]) (m24:Ms μ0 ms23 bloc_21) (m29:Sl μ0 a27 c28 p_2.Kids) (m30:At μ0 b25 o26 [.int .i64 p_2.Kind,.int .i64 p_2.N,S p_2.Name,.slice a27 p_2.Kids.length c28]) (h:sf.sema_expr prog_2 def_11 bloc_21 p_2=some r) (hS:Sq μ0 w0 w (.blk b1 261 [.pointer (some ⟨b3,o4,none⟩),.pointer (some ⟨b12,o13,none⟩),v22]::.row v22 258 1 bloc_21.length (cOf ms23)::(mRs ms23++rsF))),CallsV prog 176 [.pointer (some ⟨b1,0,none⟩),.pointer (some ⟨b25,o26,none⟩)] w (fun v w'=>∃ (μ':M) ,v=.tuple ⟨[.agg ⟨[.int .i64 r.1.Kind,S r.1.Gen]⟩,.int .i64 r.2]⟩∧Le μ0 μ'∧Sq μ' w0 w' (.blk b1 261 [.pointer (some ⟨b3,o4,none⟩),.pointer (some ⟨b12,o13,none⟩),v22]::.row v22 258 1 bloc_21.length (cOf ms23)::(mRs ms23++rsF)))
theorem sema_typed_w {self:SemaE} (IH:SemaESound self) {μ0:M} {w0 w:World} {rsF:List Res} (hg:Le Gm μ0) {b1:Nat} {prog_2:TSp} {b3 o4:Nat} {a5:Option Addr} {c6 b8:Nat} {def_11:TDef} {b12 o13:Nat} {a14:Option Addr} {c15:Nat} {a17:Option Addr} {c18:Nat} {bloc_21:List (List (List UInt8×TType))} {v22:Value} {ms23:List (Nat×List MapEntry×Nat)} {p_2:TExpr} {b25 o26:Nat} {a27:Option Addr} {c28:Nat} {p_3:TType} {r:Int} (m7:Sl μ0 a5 c6 prog_2.defs) (m9:Mr μ0 b8 prog_2.named) (m10:At μ0 b3 o4 [.slice a5 prog_2.defs.length c6,.map (some b8)]) (m16:Sl μ0 a14 c15 def_11.Params) (m19:Sl μ0 a17 c18 def_11.Body) (m20:At μ0 b12 o13 [.int .i64 def_11.Kind,S def_11.Name,.int .i64 def_11.Typ.Kind,S def_11.Typ.Gen,.int .i64 def_11.Takes.Kind,S def_11.Takes.Gen,.int .i64 def_11.Cap,.slice a14 def_11.Params.length c15,.slice a17 def_11.Body.length c18]) (m24:Ms μ0 ms23 bloc_21) (m29:Sl μ0 a27 c28 p_2.Kids) (m30:At μ0 b25 o26 [.int .i64 p_2.Kind,.int .i64 p_2.N,S p_2.Name,.slice a27 p_2.Kids.length c28]) (h:sema_typed self prog_2 def_11 bloc_21 p_2 p_3=some r) (hS:Sq μ0 w0 w (.blk b1 261 [.pointer (some ⟨b3,o4,none⟩),.pointer (some ⟨b12,o13,none⟩),v22]::.row v22 258 1 bloc_21.length (cOf ms23)::(mRs ms23++rsF))):CallsV prog 178 [.pointer (some ⟨b1,0,none⟩),.pointer (some ⟨b25,o26,none⟩),.agg ⟨[.int .i64 p_3.Kind,S p_3.Gen]⟩] w (fun v w'=>∃ (μ':M) ,v=.int .i64 r∧Le μ0 μ'∧Sq μ' w0 w' (.blk b1 261 [.pointer (some ⟨b3,o4,none⟩),.pointer (some ⟨b12,o13,none⟩),v22]::.row v22 258 1 bloc_21.length (cOf ms23)::(mRs ms23++rsF))):=by
 unfold sema_typed at h
 refine enter func178 rfl (frm:=_::_::_::u1 (u20 [])) rfl (nz ?_)
 refine wl (s_box (et d2) rfl hS ?_); clear hS; intro b31 w1 hb32 hS; refine po ?_
 refine st (nx ?_)
 iterate 2 refine st ?_
 obtain ⟨r33,g34,h⟩:=bI h
 replace hS:=(hS.bg Y2).bg Y2
 replace hS:=Sep.mOut (a:=[_,_]) (p:=[_]) (M:=mRs ms23) (R:=rsF) hS
 refine ca (IH.sema_expr hg m7 m9 m10 m16 m19 m20 m24 m29 m30 g34 hS) ?_
 rintro _ w2 ⟨μ1,rfl,le35,hS⟩
 replace hS:=Sep.mOut (a:=[_,_]) (p:=mRs ms23) (M:=[_]) (R:=rsF) hS
 refine po ?_
 iterate 3 refine st ?_
 refine wl (s_alloc ti87 hS ?_); clear hS; intro b36 w3 hb37 hS; refine po ?_
 refine wl (s_storeA ti87 (et d7) (et (k10 d3)) rfl rfl hS d0 rfl p0 dn ?_)
 clear hS; intro w4 hS
 refine st (ny (cseq ?_))
 refine cdw hS ?_; clear hS; intro w5 hS
 refine sf_start (fpi 0 [0,1,2,3,4,5,6,7] rfl (fpi 1 [1,2,3,4,5,6,7] rfl (fpi 2 [2,3,4,5,6,7] rfl ?_)))
 refine sfsd (k10 d7) (q10 p7) (q10 p7) (fun h38=>?_) (xF h)
 replace h:=iT h38 h
 refine fr_Y 3 [3,6,7] rfl rfl (k10 d7) (u_loads ti87 (et d7) (hS.blk d0).cells rfl) (q10 p8) (fr_Y 4 [4,5,6,7] rfl rfl (k10 d7) (u_loads ti87 (et d5) (hS.blk d3).cells rfl) (q10 p9) ?_)
 obtain ⟨r39,g40,h⟩:=bI h
 refine sf1 rfl rfl rfl rfl (wanted_t rfl rfl (k10 d7)) (s_callv isfn159 ef (e1 (et (k10 d9)) e0) (sema_bare_w (hg.t le35) g40 hS) ?_)
 rintro _ w6 ⟨μ2,rfl,le41,hS⟩
 refine po ?_
 refine ⟨(Mons.s (u_loads ti87 (et d7) (hS.blk d0).cells rfl) Mons.z),?_⟩
 refine fpY 6 [6,7] rfl rfl (k10 d7) (u_nea (ES.mk underlying87 eh87 eg87) (et (k10 d8)) (et (k20 d0)) (EqFs.o rfl rfl rfl ti3 d0 d0 (eq_int underlying3) (EqFs.o rfl rfl rfl ti9 d1 d1 (eq_str underlying9) EqFs.z)) rfl) (q20 p1) (fpi 7 [7] rfl (sf_nil (xn ?_)))
 refine cifnb (et (k20 d2)) (xF h) fun h42=>?_
 replace h:=iT h42 h
 refine cskip (xn (nz ?_))
 iterate 2 refine st ?_
 refine nw (cret ?_)
 obtain rfl:=oI h
 refine ret1 rfl d6 ?_
 replace hS:=(hS.drop Rm.z).drop (Rm.s (Rm.s Rm.z))
 replace hS:Sq μ2 w0 _ (.blk b1 261 [.pointer (some ⟨b3,o4,none⟩),.pointer (some ⟨b12,o13,none⟩),v22]::.row v22 258 1 bloc_21.length (cOf ms23)::(mRs ms23++rsF)):=hS
 exact ⟨_,rfl,(le35.t le41),hS⟩
theorem sema_args_w {self:SemaE} (IH:SemaESound self) {μ0:M} {w0 w:World} {rsF:List Res} (hg:Le Gm μ0) {b1:Nat} {prog_2:TSp} {b3 o4:Nat} {a5:Option Addr} {c6 b8:Nat} {def_11:TDef} {b12 o13:Nat} {a14:Option Addr} {c15:Nat} {a17:Option Addr} {c18:Nat} {bloc_21:List (List (List UInt8×TType))} {v22:Value} {ms23:List (Nat×List MapEntry×Nat)} {p_2:TExpr} {b25 o26:Nat} {a27:Option Addr} {c28:Nat} {p_3:Int} {r:Option TDef×Int} (m7:Sl μ0 a5 c6 prog_2.defs) (m9:Mr μ0 b8 prog_2.named) (m10:At μ0 b3 o4 [.slice a5 prog_2.defs.length c6,.map (some b8)]) (m16:Sl μ0 a14 c15 def_11.Params) (m19:Sl μ0 a17 c18 def_11.Body) (m20:At μ0 b12 o13 [.int .i64 def_11.Kind,S def_11.Name,.int .i64 def_11.Typ.Kind,S def_11.Typ.Gen,.int .i64 def_11.Takes.Kind,S def_11.Takes.Gen,.int .i64 def_11.Cap,.slice a14 def_11.Params.length c15,.slice a17 def_11.Body.length c18]) (m24:Ms μ0 ms23 bloc_21) (m29:Sl μ0 a27 c28 p_2.Kids) (m30:At μ0 b25 o26 [.int .i64 p_2.Kind,.int .i64 p_2.N,S p_2.Name,.slice a27 p_2.Kids.length c28]) (h:sema_args self prog_2 def_11 bloc_21 p_2 p_3=some r) (hS:Sq μ0 w0 w (.blk b1 261 [.pointer (some ⟨b3,o4,none⟩),.pointer (some ⟨b12,o13,none⟩),v22]::.row v22 258 1 bloc_21.length (cOf ms23)::(mRs ms23++rsF))):CallsV prog 190 [.pointer (some ⟨b1,0,none⟩),.pointer (some ⟨b25,o26,none⟩),.int .i64 p_3] w (fun v w'=>∃ (μ':M) (v31:Value),v=.tuple ⟨[v31,.int .i64 r.2]⟩∧Le μ0 μ'∧Sq μ' w0 w' (.blk b1 261 [.pointer (some ⟨b3,o4,none⟩),.pointer (some ⟨b12,o13,none⟩),v22]::.row v22 258 1 bloc_21.length (cOf ms23)::(mRs ms23++rsF))∧Np μ' v31 r.1):=by
 unfold sema_args at h
 refine enter func190 rfl (frm:=_::_::_::u1 (u2 (u10 (u50 [])))) rfl (nz ?_)
 iterate 2 refine st ?_
 refine ny ?_
 refine cdw hS ?_; clear hS; intro w1 hS
 refine cpi 0 rfl (cpi 1 rfl (cpi 2 rfl (cpi 4 rfl (cpi 5 rfl (cpi 6 rfl (cpi 7 rfl (cr 3 [3,9,10,11,12,13,14] rfl (u_load ti200 (et (k10 d6)) ((hS.blk d0).cell d0)) (q10 p7) (cr 8 [8,9,10,11,12,13,14] rfl (u_load ti9 (et (k20 d1)) ((m30 _ hS.a).one d2)) (q20 p2) ?_))))))))
 obtain ⟨r33,g34,h⟩:=bI h
 refine sc1 rfl rfl rfl (s_callv isfn167 ef (e1 (et (k10 d7)) (e1 (et (k10 d8)) (e1 (et (k20 d2)) e0))) (sema_find_w hg m7 m9 m10 g34 hS) ?_)
 rintro _ w2 ⟨μ1,v36,rfl,le35,hS,m37⟩
 refine po (cpi 10 rfl (cpi 11 rfl (cpi 12 rfl (cpi 13 rfl (cpi 14 rfl (nu (cseq (cblock (nz ?_)))))))))
 iterate 3 refine st ?_
 refine nw ?_
 refine cifnb (et (k20 d6)) (xF h) fun h38=>?_
 replace h:=iT h38 h
 refine cseq ?_
 refine ccutE (rg 30 11) (by decide) (fun m w=>∃ μx b49,m=(yK20 (yK9 (.i (.bool b49)::(yO10 30 (yO1 40 [])))))∧sema_args_j1 self p_2 prog_2 def_11 bloc_21 r33 b49=some r∧Le μ1 μx∧Sq μx w0 w (.blk b1 261 [.pointer (some ⟨b3,o4,none⟩),.pointer (some ⟨b12,o13,none⟩),v22]::.row v22 258 1 bloc_21.length (cOf ms23)::(mRs ms23++rsF))) (by rintro _ _ ⟨_,_,rfl,_⟩; rfl) ?_ ?_
 ·refine cdw hS ?_; clear hS; intro w3 hS
  refine cpi 0 rfl ?_
  obtain ⟨x50,g51,h⟩:=bI h
  obtain ⟨b52,o53,cs54,rfl,f55,m56⟩:=Np.get m37 g51
  obtain ⟨a57,c58,a60,c61,rfl,m59,m62⟩:=m56
  refine cpi 1 rfl (cpi 2 rfl (cpi 5 rfl (cpi 6 rfl (cpi 7 rfl ?_))))
  refine sc2G (i:=3) (j:=8) rfl rfl rfl rfl rfl (wn0 rfl) (wn0 rfl) ?_ ?_
  ·refine id (s_load ti88 (et (k30 d2)) ((f55 _ hS.a).one d7) (dt (q30 p3)) (cp 4 rfl (u_lensl underlying88 (et (k30 d3))) (q30 p4) (cr 8 [8,9,10,11] rfl (u_load ti191 (et (k30 d7)) ((m30 _ (le35 _ hS.a)).one d3)) (q30 p8) (cp 9 rfl (u_lensl underlying191 (et (k30 d8))) (q30 p9) (cpi 10 rfl (cpi 11 rfl (sc_nil (xl ?_))))))))
   exact ⟨_,_,rfl,(aK20 (aK9 (aI (aO10 (aO1 aZ))))),_,(decide ((x50.Params.length:Int)≠(p_2.Kids.length:Int))),rfl,h,Le.r,hS⟩
  ·refine id (s_load ti191 (et (k30 d7)) ((m30 _ (le35 _ hS.a)).one d3) (dt (q30 p8)) (cp 9 rfl (u_lensl underlying191 (et (k30 d8))) (q30 p9) (cr 3 [3,4,10,11] rfl (u_load ti88 (et (k30 d2)) ((f55 _ hS.a).one d7)) (q30 p3) (cp 4 rfl (u_lensl underlying88 (et (k30 d3))) (q30 p4) (cpi 10 rfl (cpi 11 rfl (sc_nil (xl ?_))))))))
   exact ⟨_,_,rfl,(aK20 (aK9 (aI (aO10 (aO1 aZ))))),_,(decide ((x50.Params.length:Int)≠(p_2.Kids.length:Int))),rfl,h,Le.r,hS⟩
 ·rintro _ t w4 ⟨μ2,b49,rfl,h,le63,hS⟩
  unfold sema_args_j1 at h
  refine nrm (mK20 (mK9 (mi (mO10 (mO1 mz))))) (xn ?_)
  refine cifb (et (k20 d9)) (xT h) fun h64=>?_
  replace h:=iF h64 h
  refine cskip ?_
  refine (fun h=>bn (xn h)) ?_
  refine cseq (nz (st ?_))
  obtain ⟨x65,g66,h⟩:=bI h
  obtain ⟨b67,o68,cs69,rfl,f70,m71⟩:=Np.get (m37.up le63) g66
  obtain ⟨a72,c73,a75,c76,rfl,m74,m77⟩:=m71
  iterate 2 refine st ?_
  refine ld ((f70 _ hS.a).one d7) (wl (su (u_lensl underlying88 (et (k40 d4))) (dt (q40 p5)) (st (nw (cblock ?_)))))
  refine cloopE (rg 6 2++rg 10 3++rg 47 18) (by decide +kernel) (fun n m w=>∃ μx i104,m=(yK6 (yO2 6 (yK2 (yO3 10 (yK20 (yK10 (yK3 (.i (.int .i64 i104)::(yO10 47 (yO8 57 []))))))))))∧sema_args_l1 self p_2 prog_2 def_11 bloc_21 r33 x65 n i104=some r∧Le μ2 μx∧Sq μx w0 w (.blk b1 261 [.pointer (some ⟨b3,o4,none⟩),.pointer (some ⟨b12,o13,none⟩),v22]::.row v22 258 1 bloc_21.length (cOf ms23)::(mRs ms23++rsF))) (by rintro _ _ _ ⟨_,_,rfl,_⟩; rfl) _ _ (aK6 (aO2 (aK2 (aO3 (aK20 (aK10 (aK3 (aI (aO10 (aO8 aZ)))))))))) ⟨_,0,rfl,h,Le.r,hS⟩ ?_
  rintro n_1 _ t w5 ⟨μ3,i104,rfl,h,le131,hS⟩
  cases n_1 with
  | zero=>cases h
  | succ n_1 =>
  unfold sema_args_l1 at h
  refine cnrm (mK6 (mO2 (mK2 (mO3 (mK20 (mK10 (mK3 (mi (mO10 (mO8 mz)))))))))) (nz (st (ny ?_)))
  refine cifd (et (k40 d7)) (fun h132=>?_) (fun h132=>?_)
  ·replace h:=iT h132 h
   refine cskip (xn (cseq (cblock (nz (st ?_)))))
   obtain ⟨x133,g134,h⟩:=bI h
   obtain ⟨b135,o136,cs137,e138,f139,m140⟩:=SlR.elem (m74.up le131) g134
   obtain rfl:=m140
   refine wl (su (u_iax underlying88 ti159 (et (k40 d4)) (et (k40 d6)) e138) (dt (q40 p9)) (lds (f139 _ hS.a) rfl ?_))
   refine wl (s_alloc ti159 hS ?_); clear hS; intro b141 w6 hb142 hS; refine po ?_
   refine st (wl (s_storeA ti159 (et (k10 d1)) (et (k50 d0)) rfl rfl hS d0 rfl p0 dn ?_))
   clear hS; intro w7 hS
   refine ny ?_
   refine cdw hS ?_; clear hS; intro w8 hS
   refine cpi 0 rfl (cpi 1 rfl (cpi 2 rfl (cpi 3 rfl (cpi 5 rfl (cpi 7 rfl (cr 4 [4,6,9,10] rfl (u_load ti191 (et (k50 d4)) ((m30 _ ((le35.t (le63.t le131)) _ hS.a)).one d3)) (q50 p5) ?_))))))
   obtain ⟨x143,g144,h⟩:=bI h
   obtain ⟨b145,o146,cs147,e148,f149,m150⟩:=SlR.elem (m29.up (le35.t (le63.t le131))) g144
   obtain ⟨a151,c152,rfl,m153⟩:=TExpr.o m150
   refine cp 6 rfl (u_iax underlying191 ti193 (et (k50 d5)) (et (k50 d6)) e148) (q50 p7) (cr 8 [8,9,10] rfl (u_loads ti87 (et (k50 d8)) ((hS.blk d0).cellsAt (Sb.s d1 (Sb.s d2 Sb.z))) rfl) (q50 p9) ?_)
   obtain ⟨r154,g155,h⟩:=bI h
   replace hS:=(hS.bg Y2).bg Y2
   replace hS:=Sep.mOut (a:=[_,_]) (p:=[_]) (M:=mRs ms23) (R:=rsF) hS
   refine sc1 rfl rfl rfl (s_callv isfn178 ef (e1 (et (k50 d1)) (e1 (et (k50 d7)) (e1 (et (k50 d9)) e0))) (IH.sema_typed (hg.t (le35.t (le63.t le131))) (m7.up (le35.t (le63.t le131))) (m9.up (le35.t (le63.t le131))) (m10.up (le35.t (le63.t le131))) (m16.up (le35.t (le63.t le131))) (m19.up (le35.t (le63.t le131))) (m20.up (le35.t (le63.t le131))) (m24.up (le35.t (le63.t le131))) m153 f149 g155 hS) ?_)
   rintro _ w9 ⟨μ4,rfl,le156,hS⟩
   replace hS:=Sep.mOut (a:=[_,_]) (p:=mRs ms23) (M:=[_]) (R:=rsF) hS
   refine po (cpi 10 rfl (nu (nz ?_)))
   iterate 2 refine st ?_
   refine nw ?_
   refine cifd (et (k60 d2)) (xT h) fun h157=>?_
   replace h:=iF h157 h
   refine cskip ?_
   refine (fun h=>bn (xn h)) ?_
   refine creg ?_
   obtain ⟨i158,g159,h⟩:=bI h
   refine wl (su (u_addc (et (k40 d6)) ec g159) (dt (q60 p4)) (st (wnil (xl ?_))))
   replace hS:=hS.drop (Rm.s (Rm.s Rm.z))
   exact ⟨n_1,_,_,rfl,(aK6 (aO2 (aK2 (aO3 (aK20 (aK10 (aK3 (aI (aO10 (aO8 aZ)))))))))),⟨_,i158,rfl,h,(le131.t le156),hS⟩,Nat.lt_succ_self _⟩
  ·replace h:=iF h132 h
   refine cexit ?_
   refine (fun h=>xe (xe (bh h))) ?_
   refine xn (nz ?_)
   iterate 3 refine st ?_
   refine nw (cret ?_)
   obtain rfl:=oI h
   refine ret2 rfl d6 d7 ?_
   replace hS:Sq μ3 w0 _ (.blk b1 261 [.pointer (some ⟨b3,o4,none⟩),.pointer (some ⟨b12,o13,none⟩),v22]::.row v22 258 1 bloc_21.length (cOf ms23)::(mRs ms23++rsF)):=hS
   exact ⟨_,(.pointer (some ⟨b67,o68,none⟩)),rfl,(le35.t (le63.t le131)),hS,(m37.up (le63.t le131))⟩
theorem sema_both_w {self:SemaE} (IH:SemaESound self) {μ0:M} {w0 w:World} {rsF:List Res} (hg:Le Gm μ0) {b1:Nat} {prog_2:TSp} {b3 o4:Nat} {a5:Option Addr} {c6 b8:Nat} {def_11:TDef} {b12 o13:Nat} {a14:Option Addr} {c15:Nat} {a17:Option Addr} {c18:Nat} {bloc_21:List (List (List UInt8×TType))} {v22:Value} {ms23:List (Nat×List MapEntry×Nat)} {p_2:TExpr} {b25 o26:Nat} {a27:Option Addr} {c28:Nat} {r:TType×Int} (m7:Sl μ0 a5 c6 prog_2.defs) (m9:Mr μ0 b8 prog_2.named) (m10:At μ0 b3 o4 [.slice a5 prog_2.defs.length c6,.map (some b8)]) (m16:Sl μ0 a14 c15 def_11.Params) (m19:Sl μ0 a17 c18 def_11.Body) (m20:At μ0 b12 o13 [.int .i64 def_11.Kind,S def_11.Name,.int .i64 def_11.Typ.Kind,S def_11.Typ.Gen,.int .i64 def_11.Takes.Kind,S def_11.Takes.Gen,.int .i64 def_11.Cap,.slice a14 def_11.Params.length c15,.slice a17 def_11.Body.length c18]) (m24:Ms μ0 ms23 bloc_21) (m29:Sl μ0 a27 c28 p_2.Kids) (m30:At μ0 b25 o26 [.int .i64 p_2.Kind,.int .i64 p_2.N,S p_2.Name,.slice a27 p_2.Kids.length c28]) (h:sema_both self prog_2 def_11 bloc_21 p_2=some r) (hS:Sq μ0 w0 w (.blk b1 261 [.pointer (some ⟨b3,o4,none⟩),.pointer (some ⟨b12,o13,none⟩),v22]::.row v22 258 1 bloc_21.length (cOf ms23)::(mRs ms23++rsF))):CallsV prog 189 [.pointer (some ⟨b1,0,none⟩),.pointer (some ⟨b25,o26,none⟩)] w (fun v w'=>∃ (μ':M) ,v=.tuple ⟨[.agg ⟨[.int .i64 r.1.Kind,S r.1.Gen]⟩,.int .i64 r.2]⟩∧Le μ0 μ'∧Sq μ' w0 w' (.blk b1 261 [.pointer (some ⟨b3,o4,none⟩),.pointer (some ⟨b12,o13,none⟩),v22]::.row v22 258 1 bloc_21.length (cOf ms23)::(mRs ms23++rsF))):=by
 unfold sema_both at h
 refine enter func189 rfl (frm:=_::_::u5 (u20 (u20 []))) rfl (nz ?_)
 refine wl (s_alloc ti87 hS ?_); clear hS; intro b31 w1 hb32 hS; refine po ?_
 refine st (nx ?_)
 iterate 4 refine st ?_
 refine ld ((m30 _ hS.a).one d3) ?_
 obtain ⟨x33,g34,h⟩:=bI h
 obtain ⟨b35,o36,cs37,e38,f39,m40⟩:=SlR.elem m29 g34
 obtain ⟨a41,c42,rfl,m43⟩:=TExpr.o m40
 refine wl (su (u_iax underlying191 ti193 (et (k10 d4)) ec e38) (dt (q10 p5)) ?_)
 obtain ⟨r44,g45,h⟩:=bI h
 replace hS:=(hS.bg Y2).bg Y2
 replace hS:=Sep.mOut (a:=[_,_]) (p:=[_]) (M:=mRs ms23) (R:=rsF) hS
 refine ca (IH.sema_expr hg m7 m9 m10 m16 m19 m20 m24 m43 f39 g45 hS) ?_
 rintro _ w2 ⟨μ1,rfl,le46,hS⟩
 replace hS:=Sep.mOut (a:=[_,_]) (p:=mRs ms23) (M:=[_]) (R:=rsF) hS
 refine po ?_
 iterate 3 refine st ?_
 refine wl (s_alloc ti87 hS ?_); clear hS; intro b47 w3 hb48 hS; refine po ?_
 refine wl (s_storeA ti87 (et d6) (et (k10 d7)) rfl rfl hS d0 rfl p0 dn ?_)
 clear hS; intro w4 hS
 refine st (ny (nz ?_))
 iterate 2 refine st ?_
 refine nw ?_
 refine cifd (et (k20 d0)) (xT h) fun h49=>?_
 replace h:=iF h49 h
 refine cskip (xn (nz ?_))
 iterate 4 refine st ?_
 refine ld ((m30 _ (le46 _ hS.a)).one d3) ?_
 obtain ⟨x50,g51,h⟩:=bI h
 obtain ⟨b52,o53,cs54,e55,f56,m57⟩:=SlR.elem (m29.up le46) g51
 obtain ⟨a58,c59,rfl,m60⟩:=TExpr.o m57
 refine wl (su (u_iax underlying191 ti193 (et (k20 d8)) ec e55) (dt (q20 p9)) ?_)
 obtain ⟨r61,g62,h⟩:=bI h
 replace hS:=(hS.bg Y2).bg Y2
 replace hS:=Sep.mOut (a:=[_,_]) (p:=[_,_]) (M:=mRs ms23) (R:=rsF) hS
 refine ca (IH.sema_expr (hg.t le46) (m7.up le46) (m9.up le46) (m10.up le46) (m16.up le46) (m19.up le46) (m20.up le46) (m24.up le46) m60 f56 g62 hS) ?_
 rintro _ w5 ⟨μ2,rfl,le63,hS⟩
 replace hS:=Sep.mOut (a:=[_,_]) (p:=mRs ms23) (M:=[_,_]) (R:=rsF) hS
 refine po ?_
 iterate 3 refine st ?_
 refine wl (s_alloc ti87 hS ?_); clear hS; intro b64 w6 hb65 hS; refine po ?_
 refine wl (s_storeA ti87 (et d8) (et (k30 d1)) rfl rfl hS d0 rfl p0 dn ?_)
 clear hS; intro w7 hS
 refine st (ny (nz ?_))
 iterate 3 refine st ?_
 refine wspd (k30 d5) (q30 p5) (q30 p5) (fun h66=>?_) (xF h)
 replace h:=iT h66 h
 refine wy rfl (k30 d5) (s_loads ti87 (et d6) (hS.blk d3).cells rfl (dt (q30 p6)) (wy rfl (k30 d5) (s_loads ti87 (et d8) (hS.blk d0).cells rfl (dt (q30 p7)) (wy rfl (k30 d5) (s_nea (ES.mk underlying87 eh87 eg87) (et (k30 d6)) (et (k30 d7)) (EqFs.o rfl rfl rfl ti3 d0 d0 (eq_int underlying3) (EqFs.o rfl rfl rfl ti9 d1 d1 (eq_str underlying9) EqFs.z)) rfl (dt (q30 p8)) (sy rfl ?_))))))
 refine wspnb (k30 d9) (q30 p9) (q30 p9) (xF h) fun h67=>?_
 replace h:=iT h67 h
 refine wy rfl (k30 d9) (s_loads ti87 (et d6) (hS.blk d3).cells rfl (dt (q40 p0)) ?_)
 obtain ⟨r68,g69,h⟩:=bI h
 refine wy rfl (k30 d9) (s_callv isfn158 ef (e1 (et (k40 d0)) e0) (sema_plain_w (hg.t (le46.t le63)) g69 hS) ?_)
 rintro _ w8 ⟨μ3,rfl,le70,hS⟩
 refine po (sy rfl (sy rfl (st (nw ?_))))
 refine cifnb (et (k40 d4)) (xF h) fun h71=>?_
 replace h:=iT h71 h
 refine cskip (xn (nz (lds (hS.blk d3).cells rfl (st (wl (s_storeA ti87 (et d4) (et (k40 d5)) rfl rfl hS d4 rfl p4 dn ?_))))))
 clear hS; intro w9 hS
 refine st (nw (cret ?_))
 obtain rfl:=oI h
 refine retN rfl (RVs.s (.a d4 ti87 (hS.blk d4).cells rfl) (RVs.s (.t d5) RVs.z)) ?_
 replace hS:=((hS.drop Rm.z).drop (Rm.s (Rm.s Rm.z))).drop (Rm.s (Rm.s Rm.z))
 replace hS:Sq μ3 w0 _ (.blk b1 261 [.pointer (some ⟨b3,o4,none⟩),.pointer (some ⟨b12,o13,none⟩),v22]::.row v22 258 1 bloc_21.length (cOf ms23)::(mRs ms23++rsF)):=hS
 exact ⟨_,rfl,(le46.t (le63.t le70)),hS⟩
theorem sema_expr_w {self:SemaE} (IH:SemaESound self) {fu:Nat} {μ0:M} {w0 w:World} {rsF:List Res} (hg:Le Gm μ0) {b1:Nat} {prog_2:TSp} {b3 o4:Nat} {a5:Option Addr} {c6 b8:Nat} {def_11:TDef} {b12 o13:Nat} {a14:Option Addr} {c15:Nat} {a17:Option Addr} {c18:Nat} {bloc_21:List (List (List UInt8×TType))} {v22:Value} {ms23:List (Nat×List MapEntry×Nat)} {p_2:TExpr} {b25 o26:Nat} {a27:Option Addr} {c28:Nat} {r:TType×Int} (m7:Sl μ0 a5 c6 prog_2.defs) (m9:Mr μ0 b8 prog_2.named) (m10:At μ0 b3 o4 [.slice a5 prog_2.defs.length c6,.map (some b8)]) (m16:Sl μ0 a14 c15 def_11.Params) (m19:Sl μ0 a17 c18 def_11.Body) (m20:At μ0 b12 o13 [.int .i64 def_11.Kind,S def_11.Name,.int .i64 def_11.Typ.Kind,S def_11.Typ.Gen,.int .i64 def_11.Takes.Kind,S def_11.Takes.Gen,.int .i64 def_11.Cap,.slice a14 def_11.Params.length c15,.slice a17 def_11.Body.length c18]) (m24:Ms μ0 ms23 bloc_21) (m29:Sl μ0 a27 c28 p_2.Kids) (m30:At μ0 b25 o26 [.int .i64 p_2.Kind,.int .i64 p_2.N,S p_2.Name,.slice a27 p_2.Kids.length c28]) (h:sema_expr fu self prog_2 def_11 bloc_21 p_2=some r) (hS:Sq μ0 w0 w (.blk b1 261 [.pointer (some ⟨b3,o4,none⟩),.pointer (some ⟨b12,o13,none⟩),v22]::.row v22 258 1 bloc_21.length (cOf ms23)::(mRs ms23++rsF))):CallsV prog 176 [.pointer (some ⟨b1,0,none⟩),.pointer (some ⟨b25,o26,none⟩)] w (fun v w'=>∃ (μ':M) ,v=.tuple ⟨[.agg ⟨[.int .i64 r.1.Kind,S r.1.Gen]⟩,.int .i64 r.2]⟩∧Le μ0 μ'∧Sq μ' w0 w' (.blk b1 261 [.pointer (some ⟨b3,o4,none⟩),.pointer (some ⟨b12,o13,none⟩),v22]::.row v22 258 1 bloc_21.length (cOf ms23)::(mRs ms23++rsF))):=by
 unfold sema_expr at h
 refine enter func176 rfl (frm:=_::_::u1 (u50 (u50 (u50 (u50 (u50 [])))))) rfl (nz ?_)
 refine wl (s_alloc ti87 hS ?_); clear hS; intro b31 w1 hb32 hS; refine po ?_
 refine st (ny (nz ?_))
 iterate 3 refine st ?_
 refine ld ((m30 _ hS.a).one d0) (nw (cblock (nz ?_)))
 iterate 2 refine st ?_
 refine nw ?_
 refine cifd (et (k20 d8)) (fun h33=>?_) (fun h33=>?_)
 ·replace h:=iT h33 h
  refine nz ?_
  obtain ⟨r34,g35,h⟩:=bI h
  refine ca (sema_num_w hg g35 hS) ?_
  rintro _ w2 ⟨μ1,rfl,le36,hS⟩
  refine po (wl (s_storeA ti87 (et d4) (et (k30 d0)) rfl rfl hS d0 rfl p0 dn ?_))
  clear hS; intro w3 hS
  refine st (nw (cret ?_))
  refine (fun h=>br (xr h)) ?_
  obtain rfl:=oI h
  refine retN rfl (RVs.s (.a d4 ti87 (hS.blk d0).cells rfl) (RVs.s (.t d5) RVs.z)) ?_
  replace hS:=hS.drop Rm.z
  replace hS:Sq μ1 w0 _ (.blk b1 261 [.pointer (some ⟨b3,o4,none⟩),.pointer (some ⟨b12,o13,none⟩),v22]::.row v22 258 1 bloc_21.length (cOf ms23)::(mRs ms23++rsF)):=hS
  exact ⟨_,rfl,le36,hS⟩
 ·replace h:=iF h33 h
  refine nz ?_
  iterate 2 refine st ?_
  refine nw ?_
  refine cifd (et (k30 d1)) (fun h37=>?_) (fun h37=>?_)
  ·replace h:=iT h37 h
   refine nz ?_
   obtain ⟨r38,g39,h⟩:=bI h
   refine ca (sema_boolean_w hg g39 hS) ?_
   rintro _ w4 ⟨μ2,rfl,le40,hS⟩
   refine po (wl (s_storeA ti87 (et d4) (et (k30 d3)) rfl rfl hS d0 rfl p0 dn ?_))
   clear hS; intro w5 hS
   refine st (nw (cret ?_))
   refine (fun h=>br (xr h)) ?_
   obtain rfl:=oI h
   refine retN rfl (RVs.s (.a d4 ti87 (hS.blk d0).cells rfl) (RVs.s (.t d5) RVs.z)) ?_
   replace hS:=hS.drop Rm.z
   replace hS:Sq μ2 w0 _ (.blk b1 261 [.pointer (some ⟨b3,o4,none⟩),.pointer (some ⟨b12,o13,none⟩),v22]::.row v22 258 1 bloc_21.length (cOf ms23)::(mRs ms23++rsF)):=hS
   exact ⟨_,rfl,le40,hS⟩
  ·replace h:=iF h37 h
   refine nz ?_
   iterate 2 refine st ?_
   refine nw ?_
   refine cifd (et (k30 d4)) (fun h41=>?_) (fun h41=>?_)
   ·replace h:=iT h41 h
    refine cseq (nz ?_)
    iterate 4 refine st ?_
    refine ld ((m30 _ hS.a).one d2) ?_
    obtain ⟨r42,g43,h⟩:=bI h
    replace hS:=(hS.bg Y2).bg Y2
    replace hS:=Sep.mOut (a:=[_,_]) (p:=[_]) (M:=mRs ms23) (R:=rsF) hS
    refine ca (sema_look_w hg m7 m9 m10 m16 m19 m20 m24 g43 hS) ?_
    rintro _ w6 ⟨μ3,rfl,le44,hS⟩
    replace hS:=Sep.mOut (a:=[_,_]) (p:=mRs ms23) (M:=[_]) (R:=rsF) hS
    refine po ?_
    iterate 3 refine st ?_
    refine wl (s_alloc ti87 hS ?_); clear hS; intro b45 w7 hb46 hS; refine po ?_
    refine wl (s_storeA ti87 (et d6) (et (k40 d3)) rfl rfl hS d0 rfl p0 dn ?_)
    clear hS; intro w8 hS
    refine st (nx (st (nw ?_)))
    refine cifb (et (k40 d5)) (fun h47=>?_) (xF h)
    replace h:=iT h47 h
    refine nz (lds (hS.blk d0).cells rfl (wl (s_storeA ti87 (et d4) (et (k40 d6)) rfl rfl hS d3 rfl p3 dn ?_)))
    clear hS; intro w9 hS
    refine st (nw (cret ?_))
    refine (fun h=>xr (br (xr h))) ?_
    obtain rfl:=oI h
    refine retN rfl (RVs.s (.a d4 ti87 (hS.blk d3).cells rfl) (RVs.s (.t d5) RVs.z)) ?_
    replace hS:=(hS.drop Rm.z).drop (Rm.s (Rm.s Rm.z))
    replace hS:Sq μ3 w0 _ (.blk b1 261 [.pointer (some ⟨b3,o4,none⟩),.pointer (some ⟨b12,o13,none⟩),v22]::.row v22 258 1 bloc_21.length (cOf ms23)::(mRs ms23++rsF)):=hS
    exact ⟨_,rfl,le44,hS⟩
   ·replace h:=iF h41 h
    refine nz ?_
    iterate 2 refine st ?_
    refine nw ?_
    refine cifd (et (k40 d8)) (xT h) fun h48=>?_
    replace h:=iF h48 h
    refine nz ?_
    iterate 2 refine st ?_
    refine nw ?_
    refine cifd (et (k50 d9)) (xT h) fun h49=>?_
    replace h:=iF h49 h
    refine cseq (nz ?_)
    iterate 2 refine st ?_
    refine nw ?_
    refine ccutE ([72]) (by decide) (fun m w=>∃ μx b50,m=(yK50 (yK20 (.i (.bool b50)::(yK1 (yO1 72 [])))))∧sema_expr_j1 self p_2 prog_2 def_11 bloc_21 b50=some r∧Le μ0 μx∧Sq μx w0 w (.blk b1 261 [.pointer (some ⟨b3,o4,none⟩),.pointer (some ⟨b12,o13,none⟩),v22]::.row v22 258 1 bloc_21.length (cOf ms23)::.blk b31 87 [.int .i64 0,S []]::(mRs ms23++rsF))) (by rintro _ _ ⟨_,_,rfl,_⟩; rfl) ?_ ?_
    ·refine cifd (et (k70 d0)) (fun h51=>?_) (fun h51=>?_)
     ·replace h:=iT h51 h
      refine cskip (xl ?_)
      replace hS:=(hS.bg Y2).bg Y2
      exact ⟨_,_,rfl,(aK50 (aK20 (aI (aK1 (aO1 aZ))))),_,(decide (p_2.Kind=11)),rfl,h,Le.r,hS⟩
     ·replace h:=iF h51 h
      refine creg ?_
      iterate 2 refine st ?_
      refine wnil (xl ?_)
      replace hS:=(hS.bg Y2).bg Y2
      exact ⟨_,_,rfl,(aK50 (aK20 (aI (aK1 (aO1 aZ))))),_,(decide (p_2.Kind=12)),rfl,h,Le.r,hS⟩
    ·rintro _ t w10 ⟨μ4,b50,rfl,h,le52,hS⟩
     unfold sema_expr_j1 at h
     refine nrm (mK50 (mK20 (mi (mK1 (mO1 mz))))) (xn ?_)
     refine cifb (et (k70 d0)) (fun h53=>?_) (fun h53=>?_)
     ·replace h:=iT h53 h
      refine nz ?_
      iterate 2 refine st ?_
      obtain ⟨r54,g55,h⟩:=bI h
      replace hS:=(hS.bg Y1).bg Y1
      replace hS:=Sep.mOut (a:=[_,_]) (p:=[_]) (M:=mRs ms23) (R:=rsF) hS
      refine ca (IH.sema_both (hg.t le52) (m7.up le52) (m9.up le52) (m10.up le52) (m16.up le52) (m19.up le52) (m20.up le52) (m24.up le52) (m29.up le52) (m30.up le52) g55 hS) ?_
      rintro _ w11 ⟨μ5,rfl,le56,hS⟩
      replace hS:=Sep.mOut (a:=[_,_]) (p:=mRs ms23) (M:=[_]) (R:=rsF) hS
      refine po ?_
      iterate 3 refine st ?_
      refine wl (s_alloc ti87 hS ?_); clear hS; intro b57 w12 hb58 hS; refine po ?_
      refine wl (s_storeA ti87 (et d8) (et (k70 d7)) rfl rfl hS d0 rfl p0 dn ?_)
      clear hS; intro w13 hS
      refine st (nx ?_)
      obtain ⟨r59,g60,h⟩:=bI h
      refine ca (sema_boolean_w (hg.t (le52.t le56)) g60 hS) ?_
      rintro _ w14 ⟨μ6,rfl,le61,hS⟩
      refine po (st (wl (s_storeA ti87 (et d4) (et (k70 d9)) rfl rfl hS d3 rfl p3 dn ?_)))
      clear hS; intro w15 hS
      refine st (nw (cret ?_))
      refine (fun h=>br (xr h)) ?_
      obtain rfl:=oI h
      refine retN rfl (RVs.s (.a d4 ti87 (hS.blk d3).cells rfl) (RVs.s (.t d5) RVs.z)) ?_
      replace hS:=(hS.drop Rm.z).drop (Rm.s (Rm.s Rm.z))
      replace hS:Sq μ6 w0 _ (.blk b1 261 [.pointer (some ⟨b3,o4,none⟩),.pointer (some ⟨b12,o13,none⟩),v22]::.row v22 258 1 bloc_21.length (cOf ms23)::(mRs ms23++rsF)):=hS
      exact ⟨_,rfl,(le52.t (le56.t le61)),hS⟩
     ·replace h:=iF h53 h
      refine nz ?_
      iterate 2 refine st ?_
      refine nw ?_
      refine cifd (et (k80 d1)) (fun h62=>?_) (fun h62=>?_)
      ·replace h:=iT h62 h
       refine nz ?_
       iterate 2 refine st ?_
       obtain ⟨r63,g64,h⟩:=bI h
       replace hS:=(hS.bg Y1).bg Y1
       replace hS:=Sep.mOut (a:=[_,_]) (p:=[_]) (M:=mRs ms23) (R:=rsF) hS
       refine ca (IH.sema_args (hg.t le52) (m7.up le52) (m9.up le52) (m10.up le52) (m16.up le52) (m19.up le52) (m20.up le52) (m24.up le52) (m29.up le52) (m30.up le52) g64 hS) ?_
       rintro _ w16 ⟨μ7,v66,rfl,le65,hS,m67⟩
       replace hS:=Sep.mOut (a:=[_,_]) (p:=mRs ms23) (M:=[_]) (R:=rsF) hS
       refine po ?_
       iterate 5 refine st ?_
       refine ny (nz ?_)
       iterate 2 refine st ?_
       refine nw ?_
       refine cifd (et (k90 d0)) (xT h) fun h68=>?_
       replace h:=iF h68 h
       refine cskip (xn (nz (st ?_)))
       obtain ⟨x69,g70,h⟩:=bI h
       obtain ⟨b71,o72,cs73,rfl,f74,m75⟩:=Np.get m67 g70
       obtain ⟨a76,c77,a79,c80,rfl,m78,m81⟩:=m75
       iterate 2 refine st ?_
       refine lds ((f74 _ hS.a).sb 2 2) rfl ?_
       obtain ⟨r82,g83,h⟩:=bI h
       refine ca (sema_bare_w (hg.t (le52.t le65)) g83 hS) ?_
       rintro _ w17 ⟨μ8,rfl,le84,hS⟩
       refine po (wl (s_storeA ti87 (et d4) (et (k90 d7)) rfl rfl hS d2 rfl p2 dn ?_))
       clear hS; intro w18 hS
       refine st (nw (cret ?_))
       refine (fun h=>br (xr h)) ?_
       obtain rfl:=oI h
       refine retN rfl (RVs.s (.a d4 ti87 (hS.blk d2).cells rfl) (RVs.s (.t d5) RVs.z)) ?_
       replace hS:=hS.drop (Rm.s (Rm.s Rm.z))
       replace hS:Sq μ8 w0 _ (.blk b1 261 [.pointer (some ⟨b3,o4,none⟩),.pointer (some ⟨b12,o13,none⟩),v22]::.row v22 258 1 bloc_21.length (cOf ms23)::(mRs ms23++rsF)):=hS
       exact ⟨_,rfl,(le52.t (le65.t le84)),hS⟩
      ·replace h:=iF h62 h
       refine nz ?_
       iterate 2 refine st ?_
       refine nw ?_
       refine cifd (et (k90 d8)) (fun h85=>?_) (fun h85=>?_)
       ·replace h:=iT h85 h
        refine cseq ?_
        refine cdw hS ?_; clear hS; intro w19 hS
        refine cpi 0 rfl (cpi 1 rfl (cpi 2 rfl (cpi 4 rfl (cpi 5 rfl (cpi 6 rfl (cr 3 [3,8,9,10,11,12,13] rfl (u_load ti200 (et (k100 d3)) ((hS.blk d0).cell d0)) (q100 p4) (cr 7 [7,8,9,10,11,12,13] rfl (u_load ti9 (et (k100 d7)) ((m30 _ (le52 _ hS.a)).one d2)) (q100 p8) ?_)))))))
        obtain ⟨r86,g87,h⟩:=bI h
        refine sc1 rfl rfl rfl (s_callv isfn167 ef (e1 (et (k100 d4)) (e1 ec (e1 (et (k100 d8)) e0))) (sema_find_w (hg.t le52) (m7.up le52) (m9.up le52) (m10.up le52) g87 hS) ?_)
        rintro _ w20 ⟨μ9,v89,rfl,le88,hS,m90⟩
        refine po (cpi 9 rfl (cpi 10 rfl (cpi 11 rfl (cpi 12 rfl (cpi 13 rfl (nu (cseq (nz ?_))))))))
        iterate 2 refine st ?_
        refine nw ?_
        refine cifnb (et (k100 (k10 d3))) (xF h) fun h91=>?_
        replace h:=iT h91 h
        refine cskip (xn (nz (st ?_)))
        obtain ⟨x92,g93,h⟩:=bI h
        obtain ⟨b94,o95,cs96,rfl,f97,m98⟩:=Np.get m90 g93
        obtain ⟨a99,c100,a102,c103,rfl,m101,m104⟩:=m98
        iterate 2 refine st ?_
        refine lds ((f97 _ hS.a).sb 2 2) rfl ?_
        obtain ⟨r105,g106,h⟩:=bI h
        refine ca (sema_bare_w (hg.t (le52.t le88)) g106 hS) ?_
        rintro _ w21 ⟨μ10,rfl,le107,hS⟩
        refine po (wl (s_storeA ti87 (et d4) (et (k100 (k10 d9))) rfl rfl hS d2 rfl p2 dn ?_))
        clear hS; intro w22 hS
        refine st (nw (cret ?_))
        refine (fun h=>br (xr h)) ?_
        obtain rfl:=oI h
        refine retN rfl (RVs.s (.a d4 ti87 (hS.blk d2).cells rfl) (RVs.s (.t d5) RVs.z)) ?_
        replace hS:=hS.drop (Rm.s (Rm.s Rm.z))
        replace hS:Sq μ10 w0 _ (.blk b1 261 [.pointer (some ⟨b3,o4,none⟩),.pointer (some ⟨b12,o13,none⟩),v22]::.row v22 258 1 bloc_21.length (cOf ms23)::(mRs ms23++rsF)):=hS
        exact ⟨_,rfl,(le52.t (le88.t le107)),hS⟩
       ·replace h:=iF h85 h
        refine nz ?_
        iterate 2 refine st ?_
        refine nw ?_
        refine cifd (et (k100 (k20 d0))) (xT h) fun h108=>?_
        replace h:=iF h108 h
        refine nz ?_
        iterate 2 refine st ?_
        refine nw ?_
        refine cifd (et (k100 (k50 d3))) (xT h) fun h109=>?_
        replace h:=iF h109 h
        refine nz ?_
        iterate 2 refine st ?_
        refine nw ?_
        refine cifd (et (k100 (k60 d7))) (xT h) fun h110=>?_
        replace h:=iF h110 h
        refine nz ?_
        iterate 2 refine st ?_
        refine nw ?_
        refine cifd (et (k100 (k90 d9))) (xT h) fun h111=>?_
        replace h:=iF h111 h
        refine cskip ?_
        refine (fun h=>bn (xn h)) ?_
        refine nz ?_
        obtain ⟨r112,g113,h⟩:=bI h
        refine ca (sema_num_w (hg.t le52) g113 hS) ?_
        rintro _ w23 ⟨μ11,rfl,le114,hS⟩
        refine po ?_
        obtain ⟨r115,g116,h⟩:=bI h
        refine ca (sema_num_w (hg.t (le52.t le114)) g116 hS) ?_
        rintro _ w24 ⟨μ12,rfl,le117,hS⟩
        refine po ?_
        refine wl (s_alloc ti87 hS ?_); clear hS; intro b118 w25 hb119 hS; refine po ?_
        refine wl (s_alloc ti87 hS ?_); clear hS; intro b120 w26 hb121 hS; refine po ?_
        refine wl (s_storeA ti87 (et (k20 d0)) (et (k100 (k100 (k10 d3)))) rfl rfl hS d1 rfl p1 dn ?_)
        clear hS; intro w27 hS
        refine wl (s_storeA ti87 (et (k20 d1)) (et (k100 (k100 (k10 d4)))) rfl rfl hS d0 rfl p0 dn ?_)
        clear hS; intro w28 hS
        refine ny ?_
        refine ccutE (rg 215 15) (by decide) (fun m w=>∃ μx i122 s123,m=(yK50 (yK50 (yK50 (yK50 (yK10 (yK5 (yO10 215 (yO5 225 []))))))))∧sema_expr_j2 self p_2 prog_2 def_11 bloc_21 r112 i122 s123=some r∧Le μ12 μx∧Sq μx w0 w (.blk b1 261 [.pointer (some ⟨b3,o4,none⟩),.pointer (some ⟨b12,o13,none⟩),v22]::.row v22 258 1 bloc_21.length (cOf ms23)::.blk b31 87 [.int .i64 0,S []]::.blk b118 87 [.int .i64 r112.Kind,S r112.Gen]::.blk b120 87 [.int .i64 i122,S s123]::(mRs ms23++rsF))) (by rintro _ _ ⟨_,_,_,rfl,_⟩; rfl) ?_ ?_
        ·refine cblock (nz ?_)
         iterate 3 refine st ?_
         refine ld ((m30 _ ((le52.t (le114.t le117)) _ hS.a)).one d0) ?_
         iterate 2 refine st ?_
         refine nw ?_
         refine cifd (et (k100 (k100 (k10 d5)))) (xT h) fun h124=>?_
         replace h:=iF h124 h
         refine nz ?_
         iterate 3 refine st ?_
         refine ld ((m30 _ ((le52.t (le114.t le117)) _ hS.a)).one d0) ?_
         iterate 2 refine st ?_
         refine nw ?_
         refine cifd (et (k100 (k100 (k20 d3)))) (fun h125=>?_) (fun h125=>?_)
         ·replace h:=iT h125 h
          refine creg ?_
          obtain ⟨r126,g127,h⟩:=bI h
          refine ca (sema_boolean_w (hg.t (le52.t (le114.t le117))) g127 hS) ?_
          rintro _ w29 ⟨μ13,rfl,le128,hS⟩
          refine po (wl (s_storeA ti87 (et (k20 d1)) (et (k100 (k100 (k20 d9)))) rfl rfl hS d0 rfl p0 dn ?_))
          clear hS; intro w30 hS
          refine wnil ?_
          refine (fun h=>bn (xl h)) ?_
          replace hS:=(((hS.bg Y1).bg Y4).bg Y4).bg Y4
          exact ⟨_,_,rfl,(aK50 (aK50 (aK50 (aK50 (aK10 (aK5 (aO10 (aO5 aZ)))))))),_,r126.Kind,r126.Gen,rfl,h,le128,hS⟩
         ·replace h:=iF h125 h
          refine cskip ?_
          refine (fun h=>bn (xl h)) ?_
          replace hS:=(((hS.bg Y1).bg Y4).bg Y4).bg Y4
          exact ⟨_,_,rfl,(aK50 (aK50 (aK50 (aK50 (aK10 (aK5 (aO10 (aO5 aZ)))))))),_,r115.Kind,r115.Gen,rfl,h,Le.r,hS⟩
        ·rintro _ t w31 ⟨μ14,i122,s123,rfl,h,le129,hS⟩
         unfold sema_expr_j2 at h
         refine nrm (mK50 (mK50 (mK50 (mK50 (mK10 (mK5 (mO10 (mO5 mz)))))))) (xn (cseq (nz ?_)))
         iterate 3 refine st ?_
         refine ld ((m30 _ ((le52.t (le114.t (le117.t le129))) _ hS.a)).one d3) (wl (su (u_lensl underlying191 (et (k100 (k100 (k30 d3))))) (dt (q100 (q100 (q30 p4)))) (st (nw (cblock ?_)))))
         refine cloopE ([5]++rg 22 2++rg 236 16) (by decide) (fun n m w=>∃ μx i146,m=(yK5 (yO1 5 (yK10 (yK6 (yO2 22 (yK50 (yK50 (yK50 (yK50 (yK10 (yK1 (.i (.int .i64 i146)::(yO10 236 (yO6 246 []))))))))))))))∧sema_expr_l1 self p_2 prog_2 def_11 bloc_21 r112 i122 s123 n i146=some r∧Le μ14 μx∧Sq μx w0 w (.blk b1 261 [.pointer (some ⟨b3,o4,none⟩),.pointer (some ⟨b12,o13,none⟩),v22]::.row v22 258 1 bloc_21.length (cOf ms23)::.blk b31 87 [.int .i64 0,S []]::.blk b118 87 [.int .i64 r112.Kind,S r112.Gen]::.blk b120 87 [.int .i64 i122,S s123]::(mRs ms23++rsF))) (by rintro _ _ _ ⟨_,_,rfl,_⟩; rfl) _ _ (aK5 (aO1 (aK10 (aK6 (aO2 (aK50 (aK50 (aK50 (aK50 (aK10 (aK1 (aI (aO10 (aO6 aZ)))))))))))))) ⟨_,0,rfl,h,Le.r,hS⟩ ?_
         rintro n_1 _ t w32 ⟨μ15,i146,rfl,h,le163,hS⟩
         cases n_1 with
         | zero=>cases h
         | succ n_1 =>
         unfold sema_expr_l1 at h
         refine cnrm (mK5 (mO1 (mK10 (mK6 (mO2 (mK50 (mK50 (mK50 (mK50 (mK10 (mK1 (mi (mO10 (mO6 mz)))))))))))))) (nz (st (ny ?_)))
         refine cifd (et (k100 (k100 (k30 d6)))) (fun h164=>?_) (fun h164=>?_)
         ·replace h:=iT h164 h
          refine cskip (xn (cseq (cblock (nz ?_))))
          iterate 2 refine st ?_
          refine ny ?_
          refine cdw hS ?_; clear hS; intro w33 hS
          refine cpi 0 rfl (cpi 1 rfl (cpi 2 rfl (cpi 3 rfl (cpi 5 rfl (cr 4 [4,6,8,9] rfl (u_load ti191 (et (k100 (k100 (k40 d1)))) ((m30 _ ((le52.t (le114.t (le117.t (le129.t le163)))) _ hS.a)).one d3)) (q100 (q100 (q40 p2))) ?_)))))
          obtain ⟨x165,g166,h⟩:=bI h
          obtain ⟨b167,o168,cs169,e170,f171,m172⟩:=SlR.elem (m29.up (le52.t (le114.t (le117.t (le129.t le163))))) g166
          obtain ⟨a173,c174,rfl,m175⟩:=TExpr.o m172
          refine cp 6 rfl (u_iax underlying191 ti193 (et (k100 (k100 (k40 d2)))) (et (k100 (k100 (k40 d3)))) e170) (q100 (q100 (q40 p4))) (cr 7 [7,8,9] rfl (u_loads ti87 (et (k20 d0)) (hS.blk d3).cells rfl) (q100 (q100 (q40 p5))) ?_)
          obtain ⟨r176,g177,h⟩:=bI h
          replace hS:=(hS.bg Y1).bg Y1
          replace hS:=Sep.mOut (a:=[_,_]) (p:=[_,_,_]) (M:=mRs ms23) (R:=rsF) hS
          refine sc1 rfl rfl rfl (s_callv isfn178 ef (e1 (et (k100 (k100 (k30 d8)))) (e1 (et (k100 (k100 (k40 d4)))) (e1 (et (k100 (k100 (k40 d5)))) e0))) (IH.sema_typed (hg.t (le52.t (le114.t (le117.t (le129.t le163))))) (m7.up (le52.t (le114.t (le117.t (le129.t le163))))) (m9.up (le52.t (le114.t (le117.t (le129.t le163))))) (m10.up (le52.t (le114.t (le117.t (le129.t le163))))) (m16.up (le52.t (le114.t (le117.t (le129.t le163))))) (m19.up (le52.t (le114.t (le117.t (le129.t le163))))) (m20.up (le52.t (le114.t (le117.t (le129.t le163))))) (m24.up (le52.t (le114.t (le117.t (le129.t le163))))) m175 f171 g177 hS) ?_)
          rintro _ w34 ⟨μ16,rfl,le178,hS⟩
          replace hS:=Sep.mOut (a:=[_,_]) (p:=mRs ms23) (M:=[_,_,_]) (R:=rsF) hS
          refine po (cpi 9 rfl (nu (nz ?_)))
          iterate 2 refine st ?_
          refine nw ?_
          refine cifd (et (k100 (k100 (k40 d8)))) (xT h) fun h179=>?_
          replace h:=iF h179 h
          refine cskip ?_
          refine (fun h=>bn (xn h)) ?_
          refine creg ?_
          obtain ⟨i180,g181,h⟩:=bI h
          refine wl (su (u_addc (et (k100 (k100 (k30 d5)))) ec g181) (dt (q100 (q100 (q50 p1)))) (st (wnil (xl ?_))))
          exact ⟨n_1,_,_,rfl,(aK5 (aO1 (aK10 (aK6 (aO2 (aK50 (aK50 (aK50 (aK50 (aK10 (aK1 (aI (aO10 (aO6 aZ)))))))))))))),⟨_,i180,rfl,h,(le163.t le178),hS⟩,Nat.lt_succ_self _⟩
         ·replace h:=iF h164 h
          refine cexit ?_
          refine (fun h=>xe (xe (bh h))) ?_
          refine xn (nz (lds (hS.blk d4).cells rfl (wl (s_storeA ti87 (et d4) (et (k100 (k100 (k50 d2)))) rfl rfl hS d2 rfl p2 dn ?_))))
          clear hS; intro w35 hS
          refine st (nw (cret ?_))
          obtain rfl:=oI h
          refine retN rfl (RVs.s (.a d4 ti87 (hS.blk d2).cells rfl) (RVs.s (.t d5) RVs.z)) ?_
          replace hS:=((hS.drop (Rm.s (Rm.s Rm.z))).drop (Rm.s (Rm.s Rm.z))).drop (Rm.s (Rm.s Rm.z))
          replace hS:Sq μ15 w0 _ (.blk b1 261 [.pointer (some ⟨b3,o4,none⟩),.pointer (some ⟨b12,o13,none⟩),v22]::.row v22 258 1 bloc_21.length (cOf ms23)::(mRs ms23++rsF)):=hS
          exact ⟨_,rfl,(le52.t (le114.t (le117.t (le129.t le163)))),hS⟩
theorem SemaE_sound:∀ n,SemaESound (SemaE_run n)
  | 0=>⟨(by intros; rename_i h _; cases h),(by intros; rename_i h _; cases h),(by intros; rename_i h _; cases h),(by intros; rename_i h _; cases h)⟩
  | n+1=>⟨sema_typed_w (SemaE_sound n),sema_args_w (SemaE_sound n),sema_both_w (SemaE_sound n),sema_expr_w (SemaE_sound n)⟩
end Go.Proofs.YtaenlbapejigbaaGreatDoor
