/- Texts of AsmTells Wl. -/
import Derived.Test.YtnjpnifbgldmiaaDoorCMd
import Derived.Test.YtnjpnifbgldmiaaDoorCWa
import Derived.Test.YtnjpnifbgldmiaaDoorCWb
set_option linter.unusedSimpArgs false
set_option linter.unusedVariables false
set_option linter.unusedSectionVars false
set_option maxRecDepth 100000
set_option maxHeartbeats 20000000
namespace Go.Proofs.YtnjpnifbgldmiaaDoor
open Go.Wk Go.Xt Go.Y
theorem r13_word_w {μ0:M} {w0 w:World} {rsF:List Res} (hg:Le Gm μ0) {p_1:Int} {r:List UInt8×Int}  (h:r13_word p_1=some r) (hS:Sq μ0 w0 w (rsF)):CallsV Tryd.prog 23 [.int .i64 p_1] w (fun v w'=>∃ (μ':M) ,v=.tuple ⟨[S r.1,.int .i64 r.2]⟩∧Le μ0 μ'∧Sq μ' w0 w' (rsF)):=by
  unfold r13_word at h
  refine enter Tryd.func23 rfl (frm:=[_,_,_,_,_,_,_,_,_,_,_,_,_,_,_,_,_,_,_,_,_,_,_,_,_,_,_,_,_,_,_,_,_,_,_]) rfl ?_
  refine cseq ?_
  refine creg ?_
  refine wl (s_assign ec (dt p2) ?_)
  refine wl (s_assign ec (dt p3) ?_)
  refine wnil ?_
  refine xn ?_
  refine cseq ?_
  refine creg ?_
  refine wl (s_bsl Tryd.underlying56 ti9 (Parts.s ec rfl (Parts.s ec rfl (Parts.s ec rfl (Parts.s ec rfl (Parts.s ec rfl (Parts.s ec rfl (Parts.s ec rfl (Parts.s ec rfl (Parts.s ec rfl (Parts.s ec rfl (Parts.s ec rfl (Parts.s ec rfl (Parts.s ec rfl (Parts.s ec rfl (Parts.s ec rfl (Parts.s ec rfl (Parts.s ec rfl (Parts.s ec rfl (Parts.s ec rfl (Parts.s ec rfl (Parts.s ec rfl (Parts.s ec rfl (Parts.s ec rfl (Parts.s ec rfl (Parts.s ec rfl (Parts.s ec rfl (Parts.s ec rfl (Parts.s ec rfl (Parts.s ec rfl (Parts.s ec rfl (Parts.s ec rfl (Parts.s ec rfl Parts.z)))))))))))))))))))))))))))))))) rfl rfl hS ?_); clear hS; intro b1 w1 hb2 hS; refine pu (dt p8) ?_
  refine wl (s_assign (et d8) (dt p4) ?_)
  refine wnil ?_
  refine xn ?_
  refine cseq ?_
  refine cseq ?_
  refine ccutE (rg 9 7) (by decide) (fun m w=>∃ (μx:M) (b3:Bool),m=(yK9 (yO7 9 (.i (.bool b3)::[])))∧r13_word_j1 p_1 b3=some r∧Le μ0 μx∧Sq μx w0 w (.blk b1 9 [S [112,117,115,104],S [116,114,117,116,104],S [108,111,97,100],S [115,116,111,114,101],S [100,114,111,112],S [110,101,103],S [110,111,116],S [97,100,100],S [115,117,98],S [109,117,108],S [100,105,118],S [109,111,100],S [101,113],S [110,101],S [108,116],S [108,101],S [103,116],S [103,101],S [97,110,100],S [111,114],S [106,117,109,112],S [101,108,115,101],S [99,97,108,108],S [114,101,116],S [101,110,100],S [115,101,110,100],S [114,101,99,118],S [111,117,116],S [115,116,97,114,116],S [114,101,115,117,109,101],S [121,105,101,108,100],S [97,108,105,118,101]]::rsF)) (by rintro _ _ ⟨_,_,rfl,_⟩; rfl) ?_ ?_
  · refine creg ?_
    refine wl (s_move (et d0) (dt p9) ?_)
    refine wl (s_lss (et d9) ec (dt (q10 p0)) ?_)
    refine wl (s_move (et (k10 d0)) (dt (q10 p1)) ?_)
    refine wspd (k10 d1) (q10 p1) (q10 p1) (fun h4=>?_) (fun h4=>?_)
    · replace h:=iT h4 h
      refine wn rfl (k10 d1) rfl (dt (q10 p2)) ?_
      refine wn rfl (k10 d1) rfl (dt (q10 p3)) ?_
      refine wn rfl (k10 d1) rfl (dt (q10 p4)) ?_
      refine wn rfl (k10 d1) rfl (dt (q10 p5)) ?_
      refine wl (s_pickt (et (k10 d1)) ec (dt (q10 p6)) ?_)
      refine wnil ?_
      refine xl ?_
      exact ⟨_,_,rfl,(aK9 (aO7 (aI aZ))),_,true,rfl,h,Le.r,hS⟩
    · replace h:=iF h4 h
      refine wy rfl (k10 d1) (s_move (et d0) (dt (q10 p2)) ?_)
      refine wy rfl (k10 d1) (s_move (et d4) (dt (q10 p3)) ?_)
      refine wy rfl (k10 d1) (s_lensl Tryd.underlying56 (et (k10 d3)) (dt (q10 p4)) ?_)
      refine wy rfl (k10 d1) (s_gtr (et (k10 d2)) (et (k10 d4)) (dt (q10 p5)) ?_)
      refine wl (s_pickf (et (k10 d1)) (et (k10 d5)) (dt (q10 p6)) ?_)
      refine wnil ?_
      refine xl ?_
      exact ⟨_,_,rfl,(aK9 (aO7 (aI aZ))),_,(decide ((32:Int)<p_1)),rfl,h,Le.r,hS⟩
  · rintro _ t w2 ⟨μ1,b3,rfl,h,le5,hS⟩
    unfold r13_word_j1 at h
    refine nrm (mK9 (mO7 (mi mz))) ?_
    refine xn ?_
    refine cifb (et (k10 d6)) (fun h6=>?_) (fun h6=>?_)
    · replace h:=iT h6 h
      refine cseq ?_
      refine creg ?_
      refine wl (s_assign ec (dt p2) ?_)
      refine wl (s_assign ec (dt p3) ?_)
      refine wnil ?_
      refine xn ?_
      refine cret ?_
      refine xr ?_
      obtain rfl:=oI h
      refine ret2 rfl d2 d3 ?_
      replace hS:=hS.drop Rm.z
      exact ⟨_,rfl,le5,hS⟩
    · replace h:=iF h6 h
      refine cskip ?_
      refine xn ?_
      refine cseq ?_
      refine creg ?_
      refine wl (s_assign ec (dt p5) ?_)
      refine wnil ?_
      refine xn ?_
      refine cseq ?_
      refine cseq ?_
      refine creg ?_
      refine wl (s_bsl Tryd.underlying43 ti3 (Parts.s ec rfl (Parts.s ec rfl (Parts.s ec rfl (Parts.s ec rfl (Parts.s ec rfl (Parts.s ec rfl (Parts.s ec rfl (Parts.s ec rfl (Parts.s ec rfl Parts.z))))))))) rfl rfl hS ?_); clear hS; intro b7 w3 hb8 hS; refine pu (dt (q10 p7)) ?_
      refine wl (s_lensl Tryd.underlying43 (et (k10 d7)) (dt (q10 p8)) ?_)
      refine wl (s_move ec (dt (q10 p9)) ?_)
      refine wnil ?_
      refine xn ?_
      refine cblock ?_
      replace hS:=hS.bg (Bg.s Bg.z)
      obtain ⟨μ2,le10,m9,hS⟩:=Sep.frzBlk (l:=([[112,117,115,104],[116,114,117,116,104],[108,111,97,100],[115,116,111,114,101],[100,114,111,112],[110,101,103],[110,111,116],[97,100,100],[115,117,98],[109,117,108],[100,105,118],[109,111,100],[101,113],[110,101],[108,116],[108,101],[103,116],[103,101],[97,110,100],[111,114],[106,117,109,112],[101,108,115,101],[99,97,108,108],[114,101,116],[101,110,100],[115,101,110,100],[114,101,99,118],[111,117,116],[115,116,97,114,116],[114,101,115,117,109,101],[121,105,101,108,100],[97,108,105,118,101]]:List (List UInt8))) hS (Rw.cons (α:=List UInt8) (cs:=[S [112,117,115,104]]) rfl (Rw.cons (α:=List UInt8) (cs:=[S [116,114,117,116,104]]) rfl (Rw.cons (α:=List UInt8) (cs:=[S [108,111,97,100]]) rfl (Rw.cons (α:=List UInt8) (cs:=[S [115,116,111,114,101]]) rfl (Rw.cons (α:=List UInt8) (cs:=[S [100,114,111,112]]) rfl (Rw.cons (α:=List UInt8) (cs:=[S [110,101,103]]) rfl (Rw.cons (α:=List UInt8) (cs:=[S [110,111,116]]) rfl (Rw.cons (α:=List UInt8) (cs:=[S [97,100,100]]) rfl (Rw.cons (α:=List UInt8) (cs:=[S [115,117,98]]) rfl (Rw.cons (α:=List UInt8) (cs:=[S [109,117,108]]) rfl (Rw.cons (α:=List UInt8) (cs:=[S [100,105,118]]) rfl (Rw.cons (α:=List UInt8) (cs:=[S [109,111,100]]) rfl (Rw.cons (α:=List UInt8) (cs:=[S [101,113]]) rfl (Rw.cons (α:=List UInt8) (cs:=[S [110,101]]) rfl (Rw.cons (α:=List UInt8) (cs:=[S [108,116]]) rfl (Rw.cons (α:=List UInt8) (cs:=[S [108,101]]) rfl (Rw.cons (α:=List UInt8) (cs:=[S [103,116]]) rfl (Rw.cons (α:=List UInt8) (cs:=[S [103,101]]) rfl (Rw.cons (α:=List UInt8) (cs:=[S [97,110,100]]) rfl (Rw.cons (α:=List UInt8) (cs:=[S [111,114]]) rfl (Rw.cons (α:=List UInt8) (cs:=[S [106,117,109,112]]) rfl (Rw.cons (α:=List UInt8) (cs:=[S [101,108,115,101]]) rfl (Rw.cons (α:=List UInt8) (cs:=[S [99,97,108,108]]) rfl (Rw.cons (α:=List UInt8) (cs:=[S [114,101,116]]) rfl (Rw.cons (α:=List UInt8) (cs:=[S [101,110,100]]) rfl (Rw.cons (α:=List UInt8) (cs:=[S [115,101,110,100]]) rfl (Rw.cons (α:=List UInt8) (cs:=[S [114,101,99,118]]) rfl (Rw.cons (α:=List UInt8) (cs:=[S [111,117,116]]) rfl (Rw.cons (α:=List UInt8) (cs:=[S [115,116,97,114,116]]) rfl (Rw.cons (α:=List UInt8) (cs:=[S [114,101,115,117,109,101]]) rfl (Rw.cons (α:=List UInt8) (cs:=[S [121,105,101,108,100]]) rfl (Rw.cons (α:=List UInt8) (cs:=[S [97,108,105,118,101]]) rfl Rw.nil)))))))))))))))))))))))))))))))) (Nat.le_of_ble_eq_true rfl)
      obtain ⟨μ3,le12,m11,hS⟩:=Sep.frzBlk (l:=([2,3,4,21,22,23,26,27,29]:List Int)) hS (Rw.cons (α:=Int) (cs:=[.int .i64 2]) rfl (Rw.cons (α:=Int) (cs:=[.int .i64 3]) rfl (Rw.cons (α:=Int) (cs:=[.int .i64 4]) rfl (Rw.cons (α:=Int) (cs:=[.int .i64 21]) rfl (Rw.cons (α:=Int) (cs:=[.int .i64 22]) rfl (Rw.cons (α:=Int) (cs:=[.int .i64 23]) rfl (Rw.cons (α:=Int) (cs:=[.int .i64 26]) rfl (Rw.cons (α:=Int) (cs:=[.int .i64 27]) rfl (Rw.cons (α:=Int) (cs:=[.int .i64 29]) rfl Rw.nil))))))))) (Nat.le_of_ble_eq_true rfl)
      refine cloopE ([7]++rg 20 7) (by decide) (fun n m w=>∃ (μx:M) (i24:Int) (i25:Int),m=(yK5 (.i (.int .i64 i24)::(yK1 (yO1 7 (yK10 (yK1 (.i (.int .i64 i25)::(yO7 20 []))))))))∧r13_word_l1 p_1 n i24 i25=some r∧Le μ3 μx∧Sq μx w0 w (rsF)) (by rintro _ _ _ ⟨_,_,_,rfl,_⟩; rfl) _ _ (aK5 (aI (aK1 (aO1 (aK10 (aK1 (aI (aO7 aZ)))))))) ⟨_,0,0,rfl,h,Le.r,hS⟩ ?_
      rintro n_1 _ t w4 ⟨μ4,i24,i25,rfl,h,le37,hS⟩
      cases n_1 with
      | zero=>cases h
      | succ n_1 =>
      unfold r13_word_l1 at h
      refine cnrm (mK5 (mi (mK1 (mO1 (mK10 (mK1 (mi (mO7 mz)))))))) ?_
      refine cseq ?_
      refine creg ?_
      refine wl (s_lss (et (k10 d9)) (et (k10 d8)) (dt (q20 p0)) ?_)
      refine wnil ?_
      refine xn ?_
      refine cseq ?_
      refine cifd (et (k20 d0)) (fun h38=>?_) (fun h38=>?_)
      · replace h:=iT h38 h
        refine cskip ?_
        refine xn ?_
        refine cseq ?_
        refine cblock ?_
        refine cseq ?_
        refine creg ?_
        replace h:=bI h; obtain ⟨x39,g40,h⟩:=h
        obtain ⟨b41,o42,cs43,e44,f45,m46⟩:=SlR.elem (m11.up le37) g40
        obtain rfl:=m46
        refine wl (s_iax Tryd.underlying43 ti3 (et (k10 d7)) (et (k10 d9)) e44 (dt (q20 p1)) ?_)
        refine wl (s_load ti3 (et (k20 d1)) ((f45 _ hS.a).one d0) (dt (q20 p2)) ?_)
        refine wl (s_assign (et (k20 d2)) (dt p7) ?_)
        refine wnil ?_
        refine xn ?_
        refine cseq ?_
        refine creg ?_
        refine wl (s_move (et d7) (dt (q20 p3)) ?_)
        refine wl (s_move (et d0) (dt (q20 p4)) ?_)
        refine wl (s_eqi (et (k20 d3)) (et (k20 d4)) (dt (q20 p5)) ?_)
        refine wnil ?_
        refine xn ?_
        refine cifd (et (k20 d5)) (fun h47=>?_) (fun h47=>?_)
        · replace h:=iT h47 h
          refine creg ?_
          refine wl (s_assign ec (dt p5) ?_)
          refine wnil ?_
          refine (fun h=>bn (xn h)) ?_
          refine creg ?_
          replace h:=bI h; obtain ⟨i48,g49,h⟩:=h
          refine wl (s_addc (et (k10 d9)) ec g49 (dt (q20 p6)) ?_)
          refine wl (s_move (et (k20 d6)) (dt (q10 p9)) ?_)
          refine wnil ?_
          refine xl ?_
          exact ⟨n_1,_,_,rfl,(aK5 (aI (aK1 (aO1 (aK10 (aK1 (aI (aO7 aZ)))))))),⟨_,1,i48,rfl,h,le37,hS⟩,Nat.lt_succ_self _⟩
        · replace h:=iF h47 h
          refine cskip ?_
          refine (fun h=>bn (xn h)) ?_
          refine creg ?_
          replace h:=bI h; obtain ⟨i50,g51,h⟩:=h
          refine wl (s_addc (et (k10 d9)) ec g51 (dt (q20 p6)) ?_)
          refine wl (s_move (et (k20 d6)) (dt (q10 p9)) ?_)
          refine wnil ?_
          refine xl ?_
          exact ⟨n_1,_,_,rfl,(aK5 (aI (aK1 (aO1 (aK10 (aK1 (aI (aO7 aZ)))))))),⟨_,i24,i50,rfl,h,le37,hS⟩,Nat.lt_succ_self _⟩
      · replace h:=iF h38 h
        refine cexit ?_
        refine (fun h=>xe (xe (bh h))) ?_
        refine xn ?_
        refine cseq ?_
        refine cseq ?_
        refine creg ?_
        refine wl (s_move (et d0) (dt (q20 p7)) ?_)
        refine wl (s_eqi (et (k20 d7)) ec (dt (q20 p8)) ?_)
        refine wnil ?_
        refine xn ?_
        refine ccutE ([]) (by decide) (fun m w=>∃ (μx:M) (i52:Int),m=(yK5 (.i (.int .i64 i52)::[]))∧r13_word_j2 p_1 i52=some r∧Le μ4 μx∧Sq μx w0 w (rsF)) (by rintro _ _ ⟨_,_,rfl,_⟩; rfl) ?_ ?_
        · refine cifd (et (k20 d8)) (fun h53=>?_) (fun h53=>?_)
          · replace h:=iT h53 h
            refine creg ?_
            refine wl (s_assign ec (dt p5) ?_)
            refine wnil ?_
            refine xl ?_
            exact ⟨_,_,rfl,(aK5 (aI aZ)),_,2,rfl,h,Le.r,hS⟩
          · replace h:=iF h53 h
            refine cskip ?_
            refine xl ?_
            exact ⟨_,_,rfl,(aK5 (aI aZ)),_,i24,rfl,h,Le.r,hS⟩
        · rintro _ t w5 ⟨μ5,i52,rfl,h,le54,hS⟩
          unfold r13_word_j2 at h
          refine nrm (mK5 (mi mz)) ?_
          refine xn ?_
          refine cseq ?_
          refine creg ?_
          refine wl (s_move (et d4) (dt (q20 p9)) ?_)
          refine wl (s_move (et d0) (dt (q30 p0)) ?_)
          replace h:=bI h; obtain ⟨i55,g56,h⟩:=h
          refine wl (s_subc (et (k30 d0)) ec g56 (dt (q30 p1)) ?_)
          replace h:=bI h; obtain ⟨x57,g58,h⟩:=h
          obtain ⟨b59,o60,cs61,e62,f63,m64⟩:=SlR.elem (m9.up (le12.t (le37.t le54))) g58
          obtain rfl:=m64
          refine wl (s_iax Tryd.underlying56 ti9 (et (k20 d9)) (et (k30 d1)) e62 (dt (q30 p2)) ?_)
          refine wl (s_load ti9 (et (k30 d2)) ((f63 _ hS.a).one d0) (dt (q30 p3)) ?_)
          refine wl (s_move (et d5) (dt (q30 p4)) ?_)
          refine wl (s_assign (et (k30 d3)) (dt p2) ?_)
          refine wl (s_assign (et (k30 d4)) (dt p3) ?_)
          refine wnil ?_
          refine xn ?_
          refine cret ?_
          obtain rfl:=oI h
          refine ret2 rfl d2 d3 ?_
          exact ⟨_,rfl,(le5.t (le10.t (le12.t (le37.t le54)))),hS⟩
structure R13DSound (sf:R13D):Prop where
  r13_digits:∀ {μ0:M} {w0 w:World} {rsF:List Res} (hg:Le Gm μ0) {p_1:Int} {r:List UInt8}  (h:sf.r13_digits p_1=some r) (hS:Sq μ0 w0 w (rsF)),CallsV Tryd.prog 22 [.int .i64 p_1] w (fun v w'=>∃ (μ':M) ,v=S r∧Le μ0 μ'∧Sq μ' w0 w' (rsF))
theorem r13_digits_w {self:R13D} (IH:R13DSound self) {μ0:M} {w0 w:World} {rsF:List Res} (hg:Le Gm μ0) {p_1:Int} {r:List UInt8}  (h:r13_digits self p_1=some r) (hS:Sq μ0 w0 w (rsF)):CallsV Tryd.prog 22 [.int .i64 p_1] w (fun v w'=>∃ (μ':M) ,v=S r∧Le μ0 μ'∧Sq μ' w0 w' (rsF)):=by
  unfold r13_digits at h
  refine enter Tryd.func22 rfl (frm:=[_,_,_,_,_,_,_,_,_,_,_,_,_,_,_,_,_,_,_,_,_,_,_,_,_,_,_,_,_,_,_,_,_,_,_,_]) rfl ?_
  refine cseq ?_
  refine creg ?_
  refine wl (s_assign ec (dt p2) ?_)
  refine wnil ?_
  refine xn ?_
  refine cseq ?_
  refine cseq ?_
  refine creg ?_
  refine wl (s_move (et d0) (dt p3) ?_)
  refine wl (s_lss (et d3) ec (dt p4) ?_)
  refine wnil ?_
  refine xn ?_
  refine cifd (et d4) (fun h1=>?_) (fun h1=>?_)
  · replace h:=iT h1 h
    refine cseq ?_
    refine cseq ?_
    refine creg ?_
    refine wl (s_move (et d0) (dt p5) ?_)
    refine wl (s_lss (et d5) ec (dt p6) ?_)
    refine wnil ?_
    refine xn ?_
    refine cifd (et d6) (fun h2=>?_) (fun h2=>?_)
    · replace h:=iT h2 h
      refine cseq ?_
      refine creg ?_
      refine wl (s_move (et d0) (dt p7) ?_)
      replace h:=bI h; obtain ⟨i3,g4,h⟩:=h
      refine wl (s_quo (et d7) ec (quo_nz g4).1 (quo_nz g4).2 (dt p8) ?_)
      replace h:=bI h; obtain ⟨r5,g6,h⟩:=h
      refine wl (s_callv isfn22 ef (e1 (et d8) e0) (IH.r13_digits hg g6 hS) ?_)
      rintro _ w1 ⟨μ1,rfl,le7,hS⟩
      refine pu (dt p9) ?_
      refine wl (s_move (et d0) (dt (q10 p0)) ?_)
      replace h:=bI h; obtain ⟨i9,g10,h⟩:=h
      refine wl (s_rem (et (k10 d0)) ec (remt_nz g10).1 (remt_nz g10).2 (dt (q10 p1)) ?_)
      refine wl (s_sub ec (et (k10 d1)) rfl (dt (q10 p2)) ?_)
      replace h:=bI h; obtain ⟨i11,g12,h⟩:=h
      refine wl (s_cvi Tryd.underlying2 Tryd.underlying21 (et (k10 d2)) (i32_wrap1 g12) (dt (q10 p3)) ?_)
      replace h:=bI h; obtain ⟨s13,g14,h⟩:=h
      refine wl (s_i2s Tryd.underlying21 Tryd.underlying9 (et (k10 d3)) g14 (dt (q10 p4)) ?_)
      replace h:=bI h; obtain ⟨s15,g16,h⟩:=h
      refine wl (s_catc (et d9) (et (k10 d4)) g16 (dt (q10 p5)) ?_)
      refine wl (s_assign (et (k10 d5)) (dt p2) ?_)
      refine wnil ?_
      refine xn ?_
      refine cret ?_
      refine (fun h=>xr (xr h)) ?_
      obtain rfl:=oI h
      refine ret1 rfl d2 ?_
      exact ⟨_,rfl,le7,hS⟩
    · replace h:=iF h2 h
      refine cskip ?_
      refine xn ?_
      refine cseq ?_
      refine creg ?_
      refine wl (s_move (et d0) (dt (q10 p6)) ?_)
      refine wl (s_sub ec (et (k10 d6)) rfl (dt (q10 p7)) ?_)
      replace h:=bI h; obtain ⟨i17,g18,h⟩:=h
      refine wl (s_cvi Tryd.underlying2 Tryd.underlying21 (et (k10 d7)) (i32_wrap1 g18) (dt (q10 p8)) ?_)
      replace h:=bI h; obtain ⟨s19,g20,h⟩:=h
      refine wl (s_i2s Tryd.underlying21 Tryd.underlying9 (et (k10 d8)) g20 (dt (q10 p9)) ?_)
      replace h:=bI h; obtain ⟨s21,g22,h⟩:=h
      refine wl (s_catc ec (et (k10 d9)) g22 (dt (q20 p0)) ?_)
      refine wl (s_assign (et (k20 d0)) (dt p2) ?_)
      refine wnil ?_
      refine xn ?_
      refine cret ?_
      refine xr ?_
      obtain rfl:=oI h
      refine ret1 rfl d2 ?_
      exact ⟨_,rfl,Le.r,hS⟩
  · replace h:=iF h1 h
    refine cskip ?_
    refine xn ?_
    refine cseq ?_
    refine cseq ?_
    refine creg ?_
    refine wl (s_move (et d0) (dt (q20 p1)) ?_)
    refine wl (s_gtr (et (k20 d1)) ec (dt (q20 p2)) ?_)
    refine wnil ?_
    refine xn ?_
    refine cifd (et (k20 d2)) (fun h23=>?_) (fun h23=>?_)
    · replace h:=iT h23 h
      refine cseq ?_
      refine creg ?_
      refine wl (s_move (et d0) (dt (q20 p3)) ?_)
      replace h:=bI h; obtain ⟨i24,g25,h⟩:=h
      refine wl (s_quo (et (k20 d3)) ec (quo_nz g25).1 (quo_nz g25).2 (dt (q20 p4)) ?_)
      replace h:=bI h; obtain ⟨r26,g27,h⟩:=h
      refine wl (s_callv isfn22 ef (e1 (et (k20 d4)) e0) (IH.r13_digits hg g27 hS) ?_)
      rintro _ w2 ⟨μ2,rfl,le28,hS⟩
      refine pu (dt (q20 p5)) ?_
      refine wl (s_move (et d0) (dt (q20 p6)) ?_)
      replace h:=bI h; obtain ⟨i29,g30,h⟩:=h
      refine wl (s_rem (et (k20 d6)) ec (remt_nz g30).1 (remt_nz g30).2 (dt (q20 p7)) ?_)
      refine wl (s_add ec (et (k20 d7)) rfl (dt (q20 p8)) ?_)
      replace h:=bI h; obtain ⟨i31,g32,h⟩:=h
      refine wl (s_cvi Tryd.underlying2 Tryd.underlying21 (et (k20 d8)) (i32_wrap1 g32) (dt (q20 p9)) ?_)
      replace h:=bI h; obtain ⟨s33,g34,h⟩:=h
      refine wl (s_i2s Tryd.underlying21 Tryd.underlying9 (et (k20 d9)) g34 (dt (q30 p0)) ?_)
      replace h:=bI h; obtain ⟨s35,g36,h⟩:=h
      refine wl (s_catc (et (k20 d5)) (et (k30 d0)) g36 (dt (q30 p1)) ?_)
      refine wl (s_assign (et (k30 d1)) (dt p2) ?_)
      refine wnil ?_
      refine xn ?_
      refine cret ?_
      refine xr ?_
      obtain rfl:=oI h
      refine ret1 rfl d2 ?_
      exact ⟨_,rfl,le28,hS⟩
    · replace h:=iF h23 h
      refine cskip ?_
      refine xn ?_
      refine cseq ?_
      refine creg ?_
      refine wl (s_move (et d0) (dt (q30 p2)) ?_)
      refine wl (s_add ec (et (k30 d2)) rfl (dt (q30 p3)) ?_)
      replace h:=bI h; obtain ⟨i37,g38,h⟩:=h
      refine wl (s_cvi Tryd.underlying2 Tryd.underlying21 (et (k30 d3)) (i32_wrap1 g38) (dt (q30 p4)) ?_)
      replace h:=bI h; obtain ⟨s39,g40,h⟩:=h
      refine wl (s_i2s Tryd.underlying21 Tryd.underlying9 (et (k30 d4)) g40 (dt (q30 p5)) ?_)
      refine wl (s_assign (et (k30 d5)) (dt p2) ?_)
      refine wnil ?_
      refine xn ?_
      refine cret ?_
      obtain rfl:=oI h
      refine ret1 rfl d2 ?_
      exact ⟨_,rfl,Le.r,hS⟩
theorem R13D_sound:∀ n,R13DSound (R13D_run n)
  | 0=>⟨(by intros; rename_i h _; cases h)⟩
  | n+1=>⟨r13_digits_w (R13D_sound n)⟩
theorem r13_print_w {fu:Nat} {μ0:M} {w0 w:World} {rsF:List Res} (hg:Le Gm μ0) {p_1:TModule} {a1:Option Addr} {c2:Nat} {a4:Option Addr} {c5:Nat} {r:List UInt8×TWhere} (m3:Sl μ0 a1 c2 p_1.Boxes) (m6:Sl μ0 a4 c5 p_1.Units) (h:r13_print fu p_1=some r) (hS:Sq μ0 w0 w (rsF)):CallsV Tryd.prog 6 [.agg ⟨[.slice a1 p_1.Boxes.length c2,.slice a4 p_1.Units.length c5]⟩] w (fun v w'=>∃ (μ':M) ,v=.tuple ⟨[S r.1,.agg ⟨[.int .i64 r.2.Err,.int .i64 r.2.Unit,.int .i64 r.2.At]⟩]⟩∧Le μ0 μ'∧Sq μ' w0 w' (rsF)):=by
  unfold r13_print at h
  refine enter Tryd.func6 rfl (frm:=[_,_,_,_,_,_,_,_,_,_,_,_,_,_,_,_,_,_,_,_,_,_,_,_,_,_,_,_,_,_,_,_,_,_,_,_,_,_,_,_,_,_,_,_,_,_,_,_,_,_,_,_,_,_,_,_,_,_,_,_,_,_,_,_,_,_,_,_,_,_,_,_,_,_,_,_,_,_,_,_,_,_,_,_,_,_,_,_,_,_,_,_,_,_,_,_,_,_,_,_,_,_,_,_,_,_,_,_,_,_,_,_,_,_,_,_,_,_,_,_,_,_,_,_,_,_,_,_,_,_,_,_,_,_,_,_]) rfl ?_
  refine cseq ?_
  refine creg ?_
  refine wl (s_box (et d0) rfl hS ?_); clear hS; intro b7 w1 hb8 hS; refine pu (dt p1) ?_
  refine wl (s_assign ec (dt p2) ?_)
  refine wl (s_alloc ti28 hS ?_); clear hS; intro b9 w2 hb10 hS; refine pu (dt p3) ?_
  refine wnil ?_
  refine xn ?_
  refine cseq ?_
  refine creg ?_
  refine wl (s_assign ec (dt p4) ?_)
  refine wnil ?_
  refine xn ?_
  refine cseq ?_
  refine cseq ?_
  refine creg ?_
  refine wl (s_fa fa25_0 (et d1) rfl (dt (q10 p7)) ?_)
  refine wl (s_load ti22 (et (k10 d7)) ((hS.blk d1).cell d0) (dt (q10 p8)) ?_)
  refine wl (s_lensl Tryd.underlying22 (et (k10 d8)) (dt (q10 p9)) ?_)
  refine wl (s_move ec (dt (q20 p0)) ?_)
  refine wnil ?_
  refine xn ?_
  refine cblock ?_
  replace hS:=hS.bg (Bg.s Bg.z)
  refine cloopE ([6]++rg 21 16) (by decide) (fun n m w=>∃ (μx:M) (s39:List UInt8) (i40:Int),m=(yK4 (.i (S s39)::(yK1 (yO1 6 (yK10 (yK3 (.i (.int .i64 i40)::(yO10 21 (yO6 31 [])))))))))∧r13_print_l1 fu p_1 n s39 i40=some r∧Le μ0 μx∧Sq μx w0 w (.blk b7 25 [.slice a1 p_1.Boxes.length c2,.slice a4 p_1.Units.length c5]::.blk b9 28 [.int .i64 0,.int .i64 0,.int .i64 0]::rsF)) (by rintro _ _ _ ⟨_,_,_,rfl,_⟩; rfl) _ _ (aK4 (aI (aK1 (aO1 (aK10 (aK3 (aI (aO10 (aO6 aZ))))))))) ⟨_,[],0,rfl,h,Le.r,hS⟩ ?_
  rintro n_1 _ t w3 ⟨μ1,s39,i40,rfl,h,le69,hS⟩
  cases n_1 with
  | zero=>cases h
  | succ n_1 =>
  unfold r13_print_l1 at h
  refine cnrm (mK4 (mi (mK1 (mO1 (mK10 (mK3 (mi (mO10 (mO6 mz))))))))) ?_
  refine cseq ?_
  refine creg ?_
  refine wl (s_lss (et (k20 d0)) (et (k10 d9)) (dt (q20 p1)) ?_)
  refine wnil ?_
  refine xn ?_
  refine cseq ?_
  refine cifd (et (k20 d1)) (fun h70=>?_) (fun h70=>?_)
  · replace h:=iT h70 h
    refine cskip ?_
    refine xn ?_
    refine cseq ?_
    refine cblock ?_
    refine cseq ?_
    refine creg ?_
    replace h:=bI h; obtain ⟨x71,g72,h⟩:=h
    obtain ⟨b73,o74,cs75,e76,f77,m78⟩:=SlR.elem (m3.up le69) g72
    obtain rfl:=m78
    refine wl (s_iax Tryd.underlying22 ti52 (et (k10 d8)) (et (k20 d0)) e76 (dt (q20 p2)) ?_)
    refine wl (s_loads ti52 (et (k20 d2)) (f77 _ hS.a) rfl (dt (q20 p3)) ?_)
    refine wl (s_alloc ti52 hS ?_); clear hS; intro b79 w4 hb80 hS; refine pu (dt p6) ?_
    refine wl (s_storeA ti52 (et d6) (et (k20 d3)) rfl rfl hS d0 rfl p0 dn ?_)
    clear hS; intro w5 hS
    refine wnil ?_
    refine xn ?_
    refine ccutE (rg 24 12) (by decide) (fun m w=>∃ (μx:M) (s81:List UInt8),m=(yK4 (.i (S s81)::(yK10 (yK9 (yO10 24 (yO2 34 []))))))∧r13_print_j1 i40 (r13_print_l1 fu p_1 n_1) s81=some r∧Le μ1 μx∧Sq μx w0 w (.blk b7 25 [.slice a1 p_1.Boxes.length c2,.slice a4 p_1.Units.length c5]::.blk b9 28 [.int .i64 0,.int .i64 0,.int .i64 0]::rsF)) (by rintro _ _ ⟨_,_,rfl,_⟩; rfl) ?_ ?_
    · refine cdraw (by kernel_rfl) rfl fun w6 hh_ ho_ ht_ hu_=>?_
      replace hS:=hS.drew hh_ ho_ ht_ hu_
      refine sf_start ?_
      refine sf_pu (i:=0) [0,1,5,6,10,11,12] (blind_of fun _ _ _ h=>h.2) rfl rfl rfl (u_move (et d4)) (q20 p4) ?_
      replace h:=bI h; obtain ⟨s82,g83,h⟩:=h
      refine sf_pu (i:=1) [1,5,6,10,11,12] (blind_of fun _ _ _ h=>h.2) rfl rfl rfl (u_catc (et (k20 d4)) ec g83) (q20 p5) ?_
      refine sf_pu (i:=2) [2,3,4,5,6,9,10,11,12] (blind_of fun _ _ _ h=>h.2) rfl rfl rfl (u_fa fa52_0 (et d6) rfl) (q20 p6) ?_
      refine sf_rd (i:=3) [3,4,5,6,9,10,11,12] (blind_of fun _ _ _ h=>h.2) rfl rfl rfl (u_load ti3 (et (k20 d6)) ((hS.blk d0).cell d0)) (q20 p7) ?_
      refine sf_pu (i:=7) [7,8,9,10,11,12] (blind_of fun _ _ _ h=>h.2) rfl rfl rfl (u_fa fa52_1 (et d6) rfl) (q30 p1) ?_
      refine sf_rd (i:=8) [8,9,10,11,12] (blind_of fun _ _ _ h=>h.2) rfl rfl rfl (u_load ti3 (et (k30 d1)) ((hS.blk d0).cell d1)) (q30 p2) ?_
      replace h:=bI h; obtain ⟨r84,g85,h⟩:=h
      refine sf1 rfl rfl rfl rfl (wn0 rfl) (s_callv isfn22 ef (e1 (et (k20 d7)) e0) ((R13D_sound fu).r13_digits (hg.t le69) g85 hS) ?_)
      rintro _ w7 ⟨μ2,rfl,le86,hS⟩
      refine pu (dt (q20 p8)) ?_
      refine ⟨(Mons.s (u_load ti3 (et (k30 d1)) ((hS.blk d0).cell d1)) Mons.z),?_⟩
      replace h:=bI h; obtain ⟨s87,g88,h⟩:=h
      refine sf_pu (i:=5) [5,6,10,11,12] (blind_of fun _ _ _ h=>h.2) rfl rfl rfl (u_catc (et (k20 d5)) (et (k20 d8)) g88) (q20 p9) ?_
      replace h:=bI h; obtain ⟨s89,g90,h⟩:=h
      refine sf_pu (i:=6) [6,10,11,12] (blind_of fun _ _ _ h=>h.2) rfl rfl rfl (u_catc (et (k20 d9)) ec g90) (q30 p0) ?_
      replace h:=bI h; obtain ⟨r91,g92,h⟩:=h
      refine sf1 rfl rfl rfl rfl (wn0 rfl) (s_callv isfn22 ef (e1 (et (k30 d2)) e0) ((R13D_sound fu).r13_digits (hg.t (le69.t le86)) g92 hS) ?_)
      rintro _ w8 ⟨μ3,rfl,le93,hS⟩
      refine pu (dt (q30 p3)) ?_
      refine ⟨Mons.z,?_⟩
      replace h:=bI h; obtain ⟨s94,g95,h⟩:=h
      refine sf_pu (i:=10) [10,11,12] (blind_of fun _ _ _ h=>h.2) rfl rfl rfl (u_catc (et (k30 d0)) (et (k30 d3)) g95) (q30 p4) ?_
      replace h:=bI h; obtain ⟨s96,g97,h⟩:=h
      refine sf_pu (i:=11) [11,12] (blind_of fun _ _ _ h=>h.2) rfl rfl rfl (u_catc (et (k30 d4)) ec g97) (q30 p5) ?_
      refine sf_pu (i:=12) [12] (blind_of fun _ _ _ h=>h.2) rfl rfl rfl (u_assign (et (k30 d5))) p4 ?_
      refine sf_nil ?_
      refine xl ?_
      replace hS:=hS.drop Rm.z
      exact ⟨_,_,rfl,(aK4 (aI (aK10 (aK9 (aO10 (aO2 aZ)))))),_,s96,rfl,h,(le86.t le93),hS⟩
    · rintro _ t w9 ⟨μ4,s81,rfl,h,le98,hS⟩
      unfold r13_print_j1 at h
      refine nrm (mK4 (mi (mK10 (mK9 (mO10 (mO2 mz)))))) ?_
      refine (fun h=>bn (xn h)) ?_
      refine creg ?_
      replace h:=bI h; obtain ⟨i99,g100,h⟩:=h
      refine wl (s_addc (et (k20 d0)) ec g100 (dt (q30 p6)) ?_)
      refine wl (s_move (et (k30 d6)) (dt (q20 p0)) ?_)
      refine wnil ?_
      refine xl ?_
      exact ⟨n_1,_,_,rfl,(aK4 (aI (aK1 (aO1 (aK10 (aK3 (aI (aO10 (aO6 aZ))))))))),⟨_,s81,i99,rfl,h,(le69.t le98),hS⟩,Nat.lt_succ_self _⟩
  · replace h:=iF h70 h
    refine cexit ?_
    refine (fun h=>xe (xe (bh h))) ?_
    refine xn ?_
    refine cseq ?_
    refine cseq ?_
    refine creg ?_
    refine wl (s_fa fa25_1 (et d1) rfl (dt (q30 p7)) ?_)
    refine wl (s_load ti23 (et (k30 d7)) ((hS.blk d0).cell d1) (dt (q30 p8)) ?_)
    refine wl (s_lensl Tryd.underlying23 (et (k30 d8)) (dt (q30 p9)) ?_)
    refine wl (s_move ec (dt (q40 p0)) ?_)
    refine wnil ?_
    refine xn ?_
    refine cblock ?_
    replace hS:=hS.drop Rm.z
    refine cloopE ([2]++rg 7 3++rg 11 6++rg 41 89) (by decide +kernel) (fun n m w=>∃ (μx:M) (s332:List UInt8) (i333:Int),m=(yK2 (yO1 2 (yK1 (.i (S s332)::(yK2 (yO3 7 (yK1 (yO6 11 (yK20 (yK3 (.i (.int .i64 i333)::(yO50 41 (yO20 91 (yO10 111 (yO9 121 [])))))))))))))))∧r13_print_l2 fu p_1 n s332 i333=some r∧Le μ1 μx∧Sq μx w0 w (.blk b9 28 [.int .i64 0,.int .i64 0,.int .i64 0]::rsF)) (by rintro _ _ _ ⟨_,_,_,rfl,_⟩; rfl) _ _ (aK2 (aO1 (aK1 (aI (aK2 (aO3 (aK1 (aO6 (aK20 (aK3 (aI (aO50 (aO20 (aO10 (aO9 aZ))))))))))))))) ⟨_,s39,0,rfl,h,Le.r,hS⟩ ?_
    rintro n_2 _ t w10 ⟨μ5,s332,i333,rfl,h,le565,hS⟩
    cases n_2 with
    | zero=>cases h
    | succ n_2 =>
    unfold r13_print_l2 at h
    refine cnrm (mK2 (mO1 (mK1 (mi (mK2 (mO3 (mK1 (mO6 (mK20 (mK3 (mi (mO50 (mO20 (mO10 (mO9 mz))))))))))))))) ?_
    refine cseq ?_
    refine creg ?_
    refine wl (s_lss (et (k40 d0)) (et (k30 d9)) (dt (q40 p1)) ?_)
    refine wnil ?_
    refine xn ?_
    refine cseq ?_
    refine cifd (et (k40 d1)) (fun h566=>?_) (fun h566=>?_)
    · replace h:=iT h566 h
      refine cskip ?_
      refine xn ?_
      refine cseq ?_
      refine cblock ?_
      refine cseq ?_
      refine creg ?_
      refine wl (s_move (et (k40 d0)) (dt (q40 p2)) ?_)
      replace h:=bI h; obtain ⟨x567,g568,h⟩:=h
      obtain ⟨b569,o570,cs571,e572,f573,m574⟩:=SlR.elem (m6.up (le69.t le565)) g568
      obtain ⟨a575,c576,a578,c579,rfl,m577,m580⟩:=m574
      refine wl (s_iax Tryd.underlying23 ti55 (et (k30 d8)) (et (k40 d0)) e572 (dt (q40 p3)) ?_)
      refine wl (s_loads ti55 (et (k40 d3)) (f573 _ hS.a) rfl (dt (q40 p4)) ?_)
      refine wl (s_alloc ti55 hS ?_); clear hS; intro b581 w11 hb582 hS; refine pu (dt p8) ?_
      refine wl (s_assign (et (k40 d2)) (dt p7) ?_)
      refine wl (s_storeA ti55 (et d8) (et (k40 d4)) rfl rfl hS d0 rfl p0 dn ?_)
      clear hS; intro w12 hS
      refine wnil ?_
      refine xn ?_
      refine cseq ?_
      refine creg ?_
      refine wl (s_mkmap hS ?_); clear hS; intro b583 w13 hb584 hS; refine pu (dt (q40 p5)) ?_
      refine wl (s_minsM (κ:=Int) (β:=List UInt8) (kk:=2) (xx:=[102,110]) Tryd.underlying66 Tryd.underlying3 (et (k40 d5)) ec ec rfl hS d0 (Mq.nil (κ:=Int) (β:=List UInt8) (μ:=μ5) (c:=0)) dn ?_); clear hS; intro es585 c586 w14 rs_ m587 hp_ hS; cases (show _=rs_ from hp_)
      replace hS:=Sep.reput hS p0
      refine wl (s_minsM (κ:=Int) (β:=List UInt8) (kk:=3) (xx:=[103,101,110]) Tryd.underlying66 Tryd.underlying3 (et (k40 d5)) ec ec rfl hS d0 m587 dn ?_); clear hS; intro es588 c589 w15 rs_ m590 hp_ hS; cases (show _=rs_ from hp_)
      replace hS:=Sep.reput hS p0
      refine wl (s_minsM (κ:=Int) (β:=List UInt8) (kk:=4) (xx:=[116,97,115,107]) Tryd.underlying66 Tryd.underlying3 (et (k40 d5)) ec ec rfl hS d0 m590 dn ?_); clear hS; intro es591 c592 w16 rs_ m593 hp_ hS; cases (show _=rs_ from hp_)
      replace hS:=Sep.reput hS p0
      refine wl (s_move (et (k40 d5)) (dt (q40 p6)) ?_)
      refine wl (s_fa fa55_0 (et d8) rfl (dt (q40 p7)) ?_)
      refine wl (s_load ti3 (et (k40 d7)) ((hS.blk d1).cell d0) (dt (q40 p8)) ?_)
      refine wl (s_mget1 (κ:=Int) (k:=x567.Kind) (β:=List UInt8) (zx:=[]) Tryd.underlying66 Tryd.underlying3 (et (k40 d6)) (et (k40 d8)) zv9 rfl (hS.get d0) m593 ?_); rintro _ rfl; refine pu (dt (q40 p9)) ?_
      refine wl (s_assign (et (k40 d9)) (dt p9) ?_)
      refine wnil ?_
      refine xn ?_
      refine cseq ?_
      refine cseq ?_
      refine creg ?_
      refine wl (s_move (et d9) (dt (q50 p0)) ?_)
      refine wl (s_eqs (et (k50 d0)) ec (dt (q50 p1)) ?_)
      refine wnil ?_
      refine xn ?_
      refine cifd (et (k50 d1)) (fun h596=>?_) (fun h596=>?_)
      · replace h:=iT h596 h
        refine cseq ?_
        refine creg ?_
        refine wl (s_move (et d7) (dt (q50 p2)) ?_)
        refine wl (s_build ti28 pl28 (Fl.o rfl ec rfl rfl p0 (Fl.o rfl (et (k50 d2)) rfl rfl p1 Fl.z)) (dt (q50 p3)) ?_)
        refine wl (s_assign ec (dt p2) ?_)
        refine wl (s_storeA ti28 (et d3) (et (k50 d3)) rfl rfl hS d2 rfl p2 dn ?_)
        clear hS; intro w17 hS
        refine wnil ?_
        refine xn ?_
        refine cret ?_
        refine (fun h=>xr (br (xr (xr (br (xr h)))))) ?_
        obtain rfl:=oI h
        refine retN rfl (RVs.s (.t d2) (RVs.s (.a d3 ti28 (hS.blk d2).cells rfl) RVs.z)) ?_
        replace hS:=hS.drop Rm.z
        replace hS:=hS.drop Rm.z
        replace hS:=hS.drop Rm.z
        exact ⟨_,rfl,(le69.t le565),hS⟩
      · replace h:=iF h596 h
        refine cskip ?_
        refine xn ?_
        refine cseq ?_
        refine creg ?_
        refine wl (s_move (et d4) (dt (q50 p4)) ?_)
        refine wl (s_move (et d9) (dt (q50 p5)) ?_)
        replace h:=bI h; obtain ⟨s597,g598,h⟩:=h
        refine wl (s_catc (et (k50 d4)) (et (k50 d5)) g598 (dt (q50 p6)) ?_)
        refine wl (s_assign (et (k50 d6)) (dt p4) ?_)
        refine wnil ?_
        refine xn ?_
        refine cseq ?_
        refine cseq ?_
        refine creg ?_
        refine wl (s_fa fa55_1 (et d8) rfl (dt (q50 p7)) ?_)
        refine wl (s_load ti3 (et (k50 d7)) ((hS.blk d1).cell d1) (dt (q50 p8)) ?_)
        refine wl (s_fa fa55_3 (et d8) rfl (dt (q50 p9)) ?_)
        refine wl (s_load ti3 (et (k50 d9)) ((hS.blk d1).cell d3) (dt (q60 p0)) ?_)
        refine wl (s_fa fa55_4 (et d8) rfl (dt (q60 p1)) ?_)
        refine wl (s_load ti3 (et (k60 d1)) ((hS.blk d1).cell d4) (dt (q60 p2)) ?_)
        refine wl (s_bsl Tryd.underlying43 ti3 (Parts.s (et (k50 d8)) rfl (Parts.s (et (k60 d0)) rfl (Parts.s (et (k60 d2)) rfl Parts.z))) rfl rfl hS ?_); clear hS; intro b599 w18 hb600 hS; refine pu (dt (q60 p3)) ?_
        refine wl (s_fa fa55_2 (et d8) rfl (dt (q60 p4)) ?_)
        refine wl (s_load ti43 (et (k60 d4)) ((hS.blk d2).cell d2) (dt (q60 p5)) ?_)
        replace hS:=hS.blkRow (n:=3) (sz:=Mo.sz Int) d0 rfl (by decide) p0
        have m601:Rw μ5 [.int .i64 x567.Params,.int .i64 x567.Result,.int .i64 x567.Takes] ([x567.Params,x567.Result,x567.Takes]:List Int):=(Rw.cons (α:=Int) (cs:=[.int .i64 x567.Params]) rfl (Rw.cons (α:=Int) (cs:=[.int .i64 x567.Result]) rfl (Rw.cons (α:=Int) (cs:=[.int .i64 x567.Takes]) rfl Rw.nil)))
        replace h:=bI h; obtain ⟨l604,g605,h⟩:=h
        obtain ⟨cs606,m607,m608⟩:=Sl.cells m577
        have m603:=Rw.app m601 m607 g605
        refine wl (s_appS Tryd.underlying43 ti3 rfl (et (k60 d3)) (et (k60 d5)) hS d0 (fun e=>(m608 e)) m607 g605 (by decide) ?_); clear hS; intro v602 w19 rs_ hp_ hS; cases (show _=rs_ from hp_)
        replace hS:=Sep.reput hS p0; refine pu (dt (q60 p6)) ?_
        refine wl (s_lenv Tryd.underlying43 (et (k60 d6)) (hS.get d0).isSl (dt (q60 p7)) ?_)
        refine wl (s_move ec (dt (q60 p8)) ?_)
        refine wnil ?_
        refine xn ?_
        refine cblock ?_
        replace hS:=hS.drop (Rm.s Rm.z)
        replace hS:=hS.bg (Bg.s Bg.z)
        replace hS:=hS.bg (Bg.s (Bg.s Bg.z))
        refine cloopE ([11]++rg 69 9) (by decide) (fun n m w=>∃ (μx:M) (s632:List UInt8) (i633:Int),m=(yK4 (.i (S s632)::(yK6 (yO1 11 (yK50 (yK6 (.i (.int .i64 i633)::(yO9 69 []))))))))∧r13_print_l3 fu i333 x567 l604 (r13_print_l2 fu p_1 n_2) n s632 i633=some r∧Le μ5 μx∧Sq μx w0 w (.blk b9 28 [.int .i64 0,.int .i64 0,.int .i64 0]::.blk b581 55 [.int .i64 x567.Kind,.int .i64 x567.Params,.slice a575 x567.Locals.length c576,.int .i64 x567.Result,.int .i64 x567.Takes,.slice a578 x567.Code.length c579]::.row v602 3 1 l604.length ([.int .i64 x567.Params,.int .i64 x567.Result,.int .i64 x567.Takes]++cs606)::rsF)) (by rintro _ _ _ ⟨_,_,_,rfl,_⟩; rfl) _ _ (aK4 (aI (aK6 (aO1 (aK50 (aK6 (aI (aO9 aZ)))))))) ⟨_,s597,0,rfl,h,Le.r,hS⟩ ?_
        rintro n_3 _ t w20 ⟨μ6,s632,i633,rfl,h,le657,hS⟩
        cases n_3 with
        | zero=>cases h
        | succ n_3 =>
        unfold r13_print_l3 at h
        refine cnrm (mK4 (mi (mK6 (mO1 (mK50 (mK6 (mi (mO9 mz)))))))) ?_
        refine cseq ?_
        refine creg ?_
        refine wl (s_lss (et (k60 d8)) (et (k60 d7)) (dt (q60 p9)) ?_)
        refine wnil ?_
        refine xn ?_
        refine cseq ?_
        refine cifd (et (k60 d9)) (fun h658=>?_) (fun h658=>?_)
        · replace h:=iT h658 h
          refine cskip ?_
          refine xn ?_
          refine cseq ?_
          refine cblock ?_
          refine cseq ?_
          refine creg ?_
          replace h:=bI h; obtain ⟨x659,g660,h⟩:=h
          obtain ⟨b661,o662,pc663,cs664,sc665,ec666,e667,f668,m669,pn670,st671,m672⟩:=Row.elemS (α:=Int) (hS.get d2) (m603.up le657) rfl g660
          rw [ec666] at hS
          obtain rfl:=m669
          refine wl (s_iax Tryd.underlying43 ti3 (et (k60 d6)) (et (k60 d8)) e667 (dt (q70 p0)) ?_)
          refine wl (s_load ti3 (et (k70 d0)) ((f668 _ _ _ (hS.get d2) rfl).one d0) (dt (q70 p1)) ?_)
          refine wl (s_assign (et (k70 d1)) (dt (q10 p1)) ?_)
          refine wnil ?_
          refine xn ?_
          refine creg ?_
          refine wl (s_move (et d4) (dt (q70 p2)) ?_)
          replace h:=bI h; obtain ⟨s673,g674,h⟩:=h
          refine wl (s_catc (et (k70 d2)) ec g674 (dt (q70 p3)) ?_)
          refine wl (s_move (et (k10 d1)) (dt (q70 p4)) ?_)
          replace h:=bI h; obtain ⟨r675,g676,h⟩:=h
          refine wl (s_callv isfn22 ef (e1 (et (k70 d4)) e0) ((R13D_sound fu).r13_digits (hg.t (le69.t (le565.t le657))) g676 hS) ?_)
          rintro _ w21 ⟨μ7,rfl,le677,hS⟩
          refine pu (dt (q70 p5)) ?_
          replace h:=bI h; obtain ⟨s678,g679,h⟩:=h
          refine wl (s_catc (et (k70 d3)) (et (k70 d5)) g679 (dt (q70 p6)) ?_)
          refine wl (s_assign (et (k70 d6)) (dt p4) ?_)
          refine wnil ?_
          refine (fun h=>bn (xn h)) ?_
          refine creg ?_
          replace h:=bI h; obtain ⟨i680,g681,h⟩:=h
          refine wl (s_addc (et (k60 d8)) ec g681 (dt (q70 p7)) ?_)
          refine wl (s_move (et (k70 d7)) (dt (q60 p8)) ?_)
          refine wnil ?_
          refine xl ?_
          rw [← ec666] at hS
          exact ⟨n_3,_,_,rfl,(aK4 (aI (aK6 (aO1 (aK50 (aK6 (aI (aO9 aZ)))))))),⟨_,s678,i680,rfl,h,(le657.t le677),hS⟩,Nat.lt_succ_self _⟩
        · replace h:=iF h658 h
          refine cexit ?_
          refine (fun h=>xe (xe (bh h))) ?_
          refine xn ?_
          refine cseq ?_
          refine creg ?_
          refine wl (s_move (et d4) (dt (q70 p8)) ?_)
          replace h:=bI h; obtain ⟨s682,g683,h⟩:=h
          refine wl (s_catc (et (k70 d8)) ec g683 (dt (q70 p9)) ?_)
          refine wl (s_assign (et (k70 d9)) (dt p4) ?_)
          refine wnil ?_
          refine xn ?_
          refine cseq ?_
          refine creg ?_
          refine wl (s_assign ec (dt (q10 p2)) ?_)
          refine wnil ?_
          refine xn ?_
          refine cseq ?_
          refine cseq ?_
          refine creg ?_
          refine wl (s_fa fa55_5 (et d8) rfl (dt (q80 p0)) ?_)
          refine wl (s_load ti53 (et (k80 d0)) ((hS.blk d1).cell d5) (dt (q80 p1)) ?_)
          refine wl (s_lensl Tryd.underlying53 (et (k80 d1)) (dt (q80 p2)) ?_)
          refine wl (s_move ec (dt (q80 p3)) ?_)
          refine wnil ?_
          refine xn ?_
          refine cblock ?_
          replace hS:=hS.drop (Rm.s Rm.z)
          replace hS:=hS.drop (Rm.s Rm.z)
          refine cloopE ([2]++rg 13 4++rg 84 38) (by decide +kernel) (fun n m w=>∃ (μx:M) (s721:List UInt8) (i722:Int),m=(yK2 (yO1 2 (yK9 (.i (S s721)::(yO4 13 (yK50 (yK10 (yK6 (.i (.int .i64 i722)::(yO20 84 (yO10 104 (yO8 114 []))))))))))))∧r13_print_l4 fu i333 x567 s682 (r13_print_l2 fu p_1 n_2) n s721 i722=some r∧Le μ6 μx∧Sq μx w0 w (.blk b9 28 [.int .i64 0,.int .i64 0,.int .i64 0]::rsF)) (by rintro _ _ _ ⟨_,_,_,rfl,_⟩; rfl) _ _ (aK2 (aO1 (aK9 (aI (aO4 (aK50 (aK10 (aK6 (aI (aO20 (aO10 (aO8 aZ)))))))))))) ⟨_,[],0,rfl,h,Le.r,hS⟩ ?_
          rintro n_4 _ t w22 ⟨μ8,s721,i722,rfl,h,le760,hS⟩
          cases n_4 with
          | zero=>cases h
          | succ n_4 =>
          unfold r13_print_l4 at h
          refine cnrm (mK2 (mO1 (mK9 (mi (mO4 (mK50 (mK10 (mK6 (mi (mO20 (mO10 (mO8 mz)))))))))))) ?_
          refine cseq ?_
          refine creg ?_
          refine wl (s_lss (et (k80 d3)) (et (k80 d2)) (dt (q80 p4)) ?_)
          refine wnil ?_
          refine xn ?_
          refine cseq ?_
          refine cifd (et (k80 d4)) (fun h761=>?_) (fun h761=>?_)
          · replace h:=iT h761 h
            refine cskip ?_
            refine xn ?_
            refine cseq ?_
            refine cblock ?_
            refine cseq ?_
            refine creg ?_
            refine wl (s_move (et (k80 d3)) (dt (q80 p5)) ?_)
            replace h:=bI h; obtain ⟨x762,g763,h⟩:=h
            obtain ⟨b764,o765,cs766,e767,f768,m769⟩:=SlR.elem (m580.up (le657.t le760)) g763
            obtain rfl:=m769
            refine wl (s_iax Tryd.underlying53 ti59 (et (k80 d1)) (et (k80 d3)) e767 (dt (q80 p6)) ?_)
            refine wl (s_loads ti59 (et (k80 d6)) (f768 _ hS.a) rfl (dt (q80 p7)) ?_)
            refine wl (s_alloc ti59 hS ?_); clear hS; intro b770 w23 hb771 hS; refine pu (dt (q10 p4)) ?_
            refine wl (s_assign (et (k80 d5)) (dt (q10 p3)) ?_)
            refine wl (s_storeA ti59 (et (k10 d4)) (et (k80 d7)) rfl rfl hS d0 rfl p0 dn ?_)
            clear hS; intro w24 hS
            refine wnil ?_
            refine xn ?_
            refine cseq ?_
            refine creg ?_
            refine wl (s_fa fa59_0 (et (k10 d4)) rfl (dt (q80 p9)) ?_)
            refine wl (s_load ti3 (et (k80 d9)) ((hS.blk d0).cell d0) (dt (q90 p0)) ?_)
            replace h:=bI h; obtain ⟨r772,g773,h⟩:=h
            refine wl (s_callv isfn23 ef (e1 (et (k90 d0)) e0) (r13_word_w (hg.t (le69.t (le565.t (le657.t le760)))) g773 hS) ?_)
            rintro _ w25 ⟨μ9,rfl,le774,hS⟩
            refine pu (dt (q90 p1)) ?_
            refine wl (s_move (et (k90 d1)) (dt (q80 p8)) ?_)
            refine wl (s_extr (et (k80 d8)) d0 (dt (q90 p2)) ?_)
            refine wl (s_extr (et (k80 d8)) d1 (dt (q90 p3)) ?_)
            refine wl (s_assign (et (k90 d2)) (dt (q10 p5)) ?_)
            refine wl (s_assign (et (k90 d3)) (dt (q10 p6)) ?_)
            refine wnil ?_
            refine xn ?_
            refine cseq ?_
            refine cseq ?_
            refine creg ?_
            refine wl (s_move (et (k10 d5)) (dt (q90 p4)) ?_)
            refine wl (s_eqs (et (k90 d4)) ec (dt (q90 p5)) ?_)
            refine wnil ?_
            refine xn ?_
            refine cifd (et (k90 d5)) (fun h775=>?_) (fun h775=>?_)
            · replace h:=iT h775 h
              refine cseq ?_
              refine creg ?_
              refine wl (s_move (et d7) (dt (q90 p6)) ?_)
              refine wl (s_move (et (k10 d3)) (dt (q90 p7)) ?_)
              refine wl (s_build ti28 pl28 (Fl.o rfl ec rfl rfl p0 (Fl.o rfl (et (k90 d6)) rfl rfl p1 (Fl.o rfl (et (k90 d7)) rfl rfl p2 Fl.z))) (dt (q90 p8)) ?_)
              refine wl (s_assign ec (dt p2) ?_)
              refine wl (s_storeA ti28 (et d3) (et (k90 d8)) rfl rfl hS d1 rfl p1 dn ?_)
              clear hS; intro w26 hS
              refine wnil ?_
              refine xn ?_
              refine cret ?_
              refine (fun h=>xr (br (xr (xr (br (xr (br (xr (xr (br (xr h))))))))))) ?_
              obtain rfl:=oI h
              refine retN rfl (RVs.s (.t d2) (RVs.s (.a d3 ti28 (hS.blk d1).cells rfl) RVs.z)) ?_
              replace hS:=hS.drop Rm.z
              replace hS:=hS.drop Rm.z
              exact ⟨_,rfl,(le69.t (le565.t (le657.t (le760.t le774)))),hS⟩
            · replace h:=iF h775 h
              refine cskip ?_
              refine xn ?_
              refine cseq ?_
              refine creg ?_
              refine wl (s_move (et (k10 d2)) (dt (q90 p9)) ?_)
              replace h:=bI h; obtain ⟨s776,g777,h⟩:=h
              refine wl (s_catc (et (k90 d9)) ec g777 (dt (q100 p0)) ?_)
              refine wl (s_move (et (k10 d5)) (dt (q100 p1)) ?_)
              replace h:=bI h; obtain ⟨s778,g779,h⟩:=h
              refine wl (s_catc (et (k100 d0)) (et (k100 d1)) g779 (dt (q100 p2)) ?_)
              refine wl (s_assign (et (k100 d2)) (dt (q10 p2)) ?_)
              refine wnil ?_
              refine xn ?_
              refine cseq ?_
              refine cseq ?_
              refine creg ?_
              refine wl (s_move (et (k10 d6)) (dt (q100 p3)) ?_)
              refine wl (s_eqi (et (k100 d3)) ec (dt (q100 p4)) ?_)
              refine wnil ?_
              refine xn ?_
              refine ccutE (rg 105 6) (by decide) (fun m w=>∃ (μx:M) (s780:List UInt8),m=(yK10 (yK2 (.i (S s780)::(yK50 (yK20 (yK20 (yK2 (yO6 105 []))))))))∧r13_print_j2 fu i722 x762 r772 (r13_print_l4 fu i333 x567 s682 (r13_print_l2 fu p_1 n_2) n_4) s780=some r∧Le μ9 μx∧Sq μx w0 w (.blk b9 28 [.int .i64 0,.int .i64 0,.int .i64 0]::.blk b770 59 [.int .i64 x762.Op,.int .i64 x762.A,.int .i64 x762.N]::rsF)) (by rintro _ _ ⟨_,_,rfl,_⟩; rfl) ?_ ?_
              · refine cifd (et (k100 d4)) (fun h781=>?_) (fun h781=>?_)
                · replace h:=iT h781 h
                  refine creg ?_
                  refine wl (s_move (et (k10 d2)) (dt (q100 p5)) ?_)
                  replace h:=bI h; obtain ⟨s782,g783,h⟩:=h
                  refine wl (s_catc (et (k100 d5)) ec g783 (dt (q100 p6)) ?_)
                  refine wl (s_fa fa59_1 (et (k10 d4)) rfl (dt (q100 p7)) ?_)
                  refine wl (s_load ti3 (et (k100 d7)) ((hS.blk d0).cell d1) (dt (q100 p8)) ?_)
                  replace h:=bI h; obtain ⟨r784,g785,h⟩:=h
                  refine wl (s_callv isfn22 ef (e1 (et (k100 d8)) e0) ((R13D_sound fu).r13_digits (hg.t (le69.t (le565.t (le657.t (le760.t le774))))) g785 hS) ?_)
                  rintro _ w27 ⟨μ10,rfl,le786,hS⟩
                  refine pu (dt (q100 p9)) ?_
                  replace h:=bI h; obtain ⟨s787,g788,h⟩:=h
                  refine wl (s_catc (et (k100 d6)) (et (k100 d9)) g788 (dt (q100 (q10 p0))) ?_)
                  refine wl (s_assign (et (k100 (k10 d0))) (dt (q10 p2)) ?_)
                  refine wnil ?_
                  refine xl ?_
                  replace hS:=hS.bg (Bg.s Bg.z)
                  exact ⟨_,_,rfl,(aK10 (aK2 (aI (aK50 (aK20 (aK20 (aK2 (aO6 aZ)))))))),_,s787,rfl,h,le786,hS⟩
                · replace h:=iF h781 h
                  refine cskip ?_
                  refine xl ?_
                  replace hS:=hS.bg (Bg.s Bg.z)
                  exact ⟨_,_,rfl,(aK10 (aK2 (aI (aK50 (aK20 (aK20 (aK2 (aO6 aZ)))))))),_,s778,rfl,h,Le.r,hS⟩
              · rintro _ t w28 ⟨μ11,s780,rfl,h,le789,hS⟩
                unfold r13_print_j2 at h
                refine nrm (mK10 (mK2 (mi (mK50 (mK20 (mK20 (mK2 (mO6 mz)))))))) ?_
                refine xn ?_
                refine cseq ?_
                refine cseq ?_
                refine creg ?_
                refine wl (s_move (et (k10 d6)) (dt (q100 (q10 p1))) ?_)
                refine wl (s_eqi (et (k100 (k10 d1))) ec (dt (q100 (q10 p2))) ?_)
                refine wnil ?_
                refine xn ?_
                refine cifd (et (k100 (k10 d2))) (fun h790=>?_) (fun h790=>?_)
                · replace h:=iT h790 h
                  refine creg ?_
                  refine wl (s_move (et (k10 d2)) (dt (q100 (q10 p3))) ?_)
                  replace h:=bI h; obtain ⟨s791,g792,h⟩:=h
                  refine wl (s_catc (et (k100 (k10 d3))) ec g792 (dt (q100 (q10 p4))) ?_)
                  refine wl (s_fa fa59_2 (et (k10 d4)) rfl (dt (q100 (q10 p5))) ?_)
                  refine wl (s_load ti2 (et (k100 (k10 d5))) ((hS.blk d1).cell d2) (dt (q100 (q10 p6))) ?_)
                  replace h:=bI h; obtain ⟨r793,g794,h⟩:=h
                  refine wl (s_callv isfn22 ef (e1 (et (k100 (k10 d6))) e0) ((R13D_sound fu).r13_digits (hg.t (le69.t (le565.t (le657.t (le760.t (le774.t le789)))))) g794 hS) ?_)
                  rintro _ w29 ⟨μ12,rfl,le795,hS⟩
                  refine pu (dt (q100 (q10 p7))) ?_
                  replace h:=bI h; obtain ⟨s796,g797,h⟩:=h
                  refine wl (s_catc (et (k100 (k10 d4))) (et (k100 (k10 d7))) g797 (dt (q100 (q10 p8))) ?_)
                  refine wl (s_assign (et (k100 (k10 d8))) (dt (q10 p2)) ?_)
                  refine wnil ?_
                  refine xn ?_
                  refine creg ?_
                  refine wl (s_move (et (k10 d2)) (dt (q100 (q10 p9))) ?_)
                  replace h:=bI h; obtain ⟨s798,g799,h⟩:=h
                  refine wl (s_catc (et (k100 (k10 d9))) ec g799 (dt (q100 (q20 p0))) ?_)
                  refine wl (s_assign (et (k100 (k20 d0))) (dt (q10 p2)) ?_)
                  refine wnil ?_
                  refine (fun h=>bn (xn h)) ?_
                  refine creg ?_
                  replace h:=bI h; obtain ⟨i800,g801,h⟩:=h
                  refine wl (s_addc (et (k80 d3)) ec g801 (dt (q100 (q20 p1))) ?_)
                  refine wl (s_move (et (k100 (k20 d1))) (dt (q80 p3)) ?_)
                  refine wnil ?_
                  refine xl ?_
                  replace hS:=hS.drop (Rm.s Rm.z)
                  exact ⟨n_4,_,_,rfl,(aK2 (aO1 (aK9 (aI (aO4 (aK50 (aK10 (aK6 (aI (aO20 (aO10 (aO8 aZ)))))))))))),⟨_,s798,i800,rfl,h,(le760.t (le774.t (le789.t le795))),hS⟩,Nat.lt_succ_self _⟩
                · replace h:=iF h790 h
                  refine cskip ?_
                  refine xn ?_
                  refine creg ?_
                  refine wl (s_move (et (k10 d2)) (dt (q100 (q10 p9))) ?_)
                  replace h:=bI h; obtain ⟨s802,g803,h⟩:=h
                  refine wl (s_catc (et (k100 (k10 d9))) ec g803 (dt (q100 (q20 p0))) ?_)
                  refine wl (s_assign (et (k100 (k20 d0))) (dt (q10 p2)) ?_)
                  refine wnil ?_
                  refine (fun h=>bn (xn h)) ?_
                  refine creg ?_
                  replace h:=bI h; obtain ⟨i804,g805,h⟩:=h
                  refine wl (s_addc (et (k80 d3)) ec g805 (dt (q100 (q20 p1))) ?_)
                  refine wl (s_move (et (k100 (k20 d1))) (dt (q80 p3)) ?_)
                  refine wnil ?_
                  refine xl ?_
                  replace hS:=hS.drop (Rm.s Rm.z)
                  exact ⟨n_4,_,_,rfl,(aK2 (aO1 (aK9 (aI (aO4 (aK50 (aK10 (aK6 (aI (aO20 (aO10 (aO8 aZ)))))))))))),⟨_,s802,i804,rfl,h,(le760.t (le774.t le789)),hS⟩,Nat.lt_succ_self _⟩
          · replace h:=iF h761 h
            refine cexit ?_
            refine (fun h=>xe (xe (bh h))) ?_
            refine xn ?_
            refine cseq ?_
            refine creg ?_
            refine wl (s_move (et d4) (dt (q100 (q20 p2))) ?_)
            refine wl (s_move (et (k10 d2)) (dt (q100 (q20 p3))) ?_)
            replace h:=bI h; obtain ⟨s806,g807,h⟩:=h
            refine wl (s_catc (et (k100 (k20 d2))) (et (k100 (k20 d3))) g807 (dt (q100 (q20 p4))) ?_)
            refine wl (s_assign (et (k100 (k20 d4))) (dt p4) ?_)
            refine wnil ?_
            refine xn ?_
            refine cseq ?_
            refine creg ?_
            refine wl (s_move (et d4) (dt (q100 (q20 p5))) ?_)
            refine wl (s_lens Tryd.underlying9 (et (k100 (k20 d5))) (dt (q100 (q20 p6))) ?_)
            refine wl (s_gtr (et (k100 (k20 d6))) ec (dt (q100 (q20 p7))) ?_)
            refine wnil ?_
            refine xn ?_
            refine cifd (et (k100 (k20 d7))) (fun h808=>?_) (fun h808=>?_)
            · replace h:=iT h808 h
              refine cseq ?_
              refine creg ?_
              refine wl (s_build ti28 pl28 (Fl.o rfl ec rfl rfl p0 Fl.z) (dt (q100 (q20 p8))) ?_)
              refine wl (s_assign ec (dt p2) ?_)
              refine wl (s_storeA ti28 (et d3) (et (k100 (k20 d8))) rfl rfl hS d0 rfl p0 dn ?_)
              clear hS; intro w30 hS
              refine wnil ?_
              refine xn ?_
              refine cret ?_
              refine (fun h=>br (xr (xr (br (xr h))))) ?_
              obtain rfl:=oI h
              refine retN rfl (RVs.s (.t d2) (RVs.s (.a d3 ti28 (hS.blk d0).cells rfl) RVs.z)) ?_
              replace hS:=hS.drop Rm.z
              exact ⟨_,rfl,(le69.t (le565.t (le657.t le760))),hS⟩
            · replace h:=iF h808 h
              refine cskip ?_
              refine (fun h=>bn (xn h)) ?_
              refine creg ?_
              replace h:=bI h; obtain ⟨i809,g810,h⟩:=h
              refine wl (s_addc (et (k40 d0)) ec g810 (dt (q100 (q20 p9))) ?_)
              refine wl (s_move (et (k100 (k20 d9))) (dt (q40 p0)) ?_)
              refine wnil ?_
              refine xl ?_
              exact ⟨n_2,_,_,rfl,(aK2 (aO1 (aK1 (aI (aK2 (aO3 (aK1 (aO6 (aK20 (aK3 (aI (aO50 (aO20 (aO10 (aO9 aZ))))))))))))))),⟨_,s806,i809,rfl,h,(le565.t (le657.t le760)),hS⟩,Nat.lt_succ_self _⟩
    · replace h:=iF h566 h
      refine cexit ?_
      refine (fun h=>xe (xe (bh h))) ?_
      refine xn ?_
      refine cseq ?_
      refine cseq ?_
      refine creg ?_
      refine wl (s_move (et d4) (dt (q100 (q30 p0))) ?_)
      refine wl (s_lens Tryd.underlying9 (et (k100 (k30 d0))) (dt (q100 (q30 p1))) ?_)
      refine wl (s_gtr (et (k100 (k30 d1))) ec (dt (q100 (q30 p2))) ?_)
      refine wnil ?_
      refine xn ?_
      refine cifd (et (k100 (k30 d2))) (fun h811=>?_) (fun h811=>?_)
      · replace h:=iT h811 h
        refine cseq ?_
        refine creg ?_
        refine wl (s_build ti28 pl28 (Fl.o rfl ec rfl rfl p0 Fl.z) (dt (q100 (q30 p3))) ?_)
        refine wl (s_assign ec (dt p2) ?_)
        refine wl (s_storeA ti28 (et d3) (et (k100 (k30 d3))) rfl rfl hS d0 rfl p0 dn ?_)
        clear hS; intro w31 hS
        refine wnil ?_
        refine xn ?_
        refine cret ?_
        refine xr ?_
        obtain rfl:=oI h
        refine retN rfl (RVs.s (.t d2) (RVs.s (.a d3 ti28 (hS.blk d0).cells rfl) RVs.z)) ?_
        replace hS:=hS.drop Rm.z
        exact ⟨_,rfl,(le69.t le565),hS⟩
      · replace h:=iF h811 h
        refine cskip ?_
        refine xn ?_
        refine cseq ?_
        refine creg ?_
        refine wl (s_move (et d4) (dt (q100 (q30 p4))) ?_)
        refine wl (s_build ti28 pl28 Fl.z (dt (q100 (q30 p5))) ?_)
        refine wl (s_assign (et (k100 (k30 d4))) (dt p2) ?_)
        refine wl (s_storeA ti28 (et d3) (et (k100 (k30 d5))) rfl rfl hS d0 rfl p0 dn ?_)
        clear hS; intro w32 hS
        refine wnil ?_
        refine xn ?_
        refine cret ?_
        obtain rfl:=oI h
        refine retN rfl (RVs.s (.t d2) (RVs.s (.a d3 ti28 (hS.blk d0).cells rfl) RVs.z)) ?_
        replace hS:=hS.drop Rm.z
        exact ⟨_,rfl,(le69.t le565),hS⟩
end Go.Proofs.YtnjpnifbgldmiaaDoor
set_option maxRecDepth 100000
set_option maxHeartbeats 20000000
namespace Go.Proofs.YtnjpnifbgldmiaaDoor
open Go.Wk Go.Xt Go.Y
theorem r13_number_w {fu:Nat} {μ0:M} {w0 w:World} {rsF:List Res} (hg:Le Gm μ0) {p_1:List UInt8} {r:Int×Bool}  (h:r13_number fu p_1=some r) (hS:Sq μ0 w0 w (rsF)):CallsV Tryd.prog 40 [S p_1] w (fun v w'=>∃ (μ':M) ,v=.tuple ⟨[.int .i64 r.1,.bool r.2]⟩∧Le μ0 μ'∧Sq μ' w0 w' (rsF)):=by
  unfold r13_number at h
  refine enter Tryd.func40 rfl (frm:=[_,_,_,_,_,_,_,_,_,_,_,_,_,_,_,_,_,_,_,_,_,_,_,_,_,_,_,_,_,_,_,_,_,_,_,_,_,_,_,_,_,_,_,_,_,_,_,_,_,_,_,_,_,_,_,_,_,_,_,_,_,_,_,_,_,_,_]) rfl ?_
  refine cseq ?_
  refine creg ?_
  refine wl (s_assign ec (dt p2) ?_)
  refine wl (s_assign ec (dt p3) ?_)
  refine wnil ?_
  refine xn ?_
  refine cseq ?_
  refine cseq ?_
  refine ccutE (rg 9 7) (by decide) (fun m w=>∃ (μx:M) (b1:Bool),m=(yK9 (yO7 9 (.i (.bool b1)::[])))∧r13_number_j1 fu p_1 b1=some r∧Le μ0 μx∧Sq μx w0 w (rsF)) (by rintro _ _ ⟨_,_,rfl,_⟩; rfl) ?_ ?_
  · refine creg ?_
    refine wl (s_move (et d0) (dt p9) ?_)
    refine wl (s_lens Tryd.underlying9 (et d9) (dt (q10 p0)) ?_)
    refine wl (s_eqi (et (k10 d0)) ec (dt (q10 p1)) ?_)
    refine wl (s_move (et (k10 d1)) (dt (q10 p2)) ?_)
    refine wspd (k10 d2) (q10 p2) (q10 p2) (fun h2=>?_) (fun h2=>?_)
    · replace h:=iT h2 h
      refine wn rfl (k10 d2) rfl (dt (q10 p3)) ?_
      refine wn rfl (k10 d2) rfl (dt (q10 p4)) ?_
      refine wn rfl (k10 d2) rfl (dt (q10 p5)) ?_
      refine wl (s_pickt (et (k10 d2)) ec (dt (q10 p6)) ?_)
      refine wnil ?_
      refine xl ?_
      exact ⟨_,_,rfl,(aK9 (aO7 (aI aZ))),_,true,rfl,h,Le.r,hS⟩
    · replace h:=iF h2 h
      refine wy rfl (k10 d2) (s_move (et d0) (dt (q10 p3)) ?_)
      refine wy rfl (k10 d2) (s_lens Tryd.underlying9 (et (k10 d3)) (dt (q10 p4)) ?_)
      refine wy rfl (k10 d2) (s_gtr (et (k10 d4)) ec (dt (q10 p5)) ?_)
      refine wl (s_pickf (et (k10 d2)) (et (k10 d5)) (dt (q10 p6)) ?_)
      refine wnil ?_
      refine xl ?_
      exact ⟨_,_,rfl,(aK9 (aO7 (aI aZ))),_,(decide ((20:Int)<(p_1.length:Int))),rfl,h,Le.r,hS⟩
  · rintro _ t w1 ⟨μ1,b1,rfl,h,le3,hS⟩
    unfold r13_number_j1 at h
    refine nrm (mK9 (mO7 (mi mz))) ?_
    refine xn ?_
    refine cifb (et (k10 d6)) (fun h4=>?_) (fun h4=>?_)
    · replace h:=iT h4 h
      refine cseq ?_
      refine creg ?_
      refine wl (s_assign ec (dt p2) ?_)
      refine wl (s_assign ec (dt p3) ?_)
      refine wnil ?_
      refine xn ?_
      refine cret ?_
      refine xr ?_
      obtain rfl:=oI h
      refine ret2 rfl d2 d3 ?_
      exact ⟨_,rfl,le3,hS⟩
    · replace h:=iF h4 h
      refine cskip ?_
      refine xn ?_
      refine cseq ?_
      refine creg ?_
      refine wl (s_move (et d0) (dt (q10 p7)) ?_)
      replace h:=bI h; obtain ⟨u5,g6,h⟩:=h
      refine wl (s_idxc Tryd.underlying9 (et (k10 d7)) ec g6 (dt (q10 p8)) ?_)
      refine wl (s_eqi (et (k10 d8)) ec (dt (q10 p9)) ?_)
      refine wl (s_assign (et (k10 d9)) (dt p4) ?_)
      refine wnil ?_
      refine xn ?_
      refine cseq ?_
      refine creg ?_
      refine wl (s_move (et d0) (dt (q20 p0)) ?_)
      refine wl (s_assign (et (k20 d0)) (dt p5) ?_)
      refine wnil ?_
      refine xn ?_
      refine cseq ?_
      refine cseq ?_
      refine creg ?_
      refine wl (s_move (et d4) (dt (q20 p1)) ?_)
      refine wnil ?_
      refine xn ?_
      refine ccutE (rg 22 2) (by decide) (fun m w=>∃ (μx:M) (s7:List UInt8),m=(yK5 (.i (S s7)::(yK10 (yK6 (yO2 22 [])))))∧r13_number_j2 fu p_1 u5 s7=some r∧Le μ1 μx∧Sq μx w0 w (rsF)) (by rintro _ _ ⟨_,_,rfl,_⟩; rfl) ?_ ?_
      · refine cifd (et (k20 d1)) (fun h8=>?_) (fun h8=>?_)
        · replace h:=iT h8 h
          refine creg ?_
          refine wl (s_move (et d0) (dt (q20 p2)) ?_)
          replace h:=bI h; obtain ⟨s9,g10,h⟩:=h
          refine wl (s_cutloc Tryd.underlying9 (et (k20 d2)) ec g10 (dt (q20 p3)) ?_)
          refine wl (s_assign (et (k20 d3)) (dt p5) ?_)
          refine wnil ?_
          refine xl ?_
          exact ⟨_,_,rfl,(aK5 (aI (aK10 (aK6 (aO2 aZ))))),_,s9,rfl,h,Le.r,hS⟩
        · replace h:=iF h8 h
          refine cskip ?_
          refine xl ?_
          exact ⟨_,_,rfl,(aK5 (aI (aK10 (aK6 (aO2 aZ))))),_,p_1,rfl,h,Le.r,hS⟩
      · rintro _ t w2 ⟨μ2,s7,rfl,h,le11,hS⟩
        unfold r13_number_j2 at h
        refine nrm (mK5 (mi (mK10 (mK6 (mO2 mz))))) ?_
        refine xn ?_
        refine cseq ?_
        refine creg ?_
        refine wl (s_assign ec (dt p6) ?_)
        refine wnil ?_
        refine xn ?_
        refine cseq ?_
        refine cseq ?_
        refine creg ?_
        refine wl (s_move (et d5) (dt (q20 p4)) ?_)
        replace h:=bI h; obtain ⟨l12,g13,h⟩:=h
        refine wl (s_s2b Tryd.underlying9 Tryd.underlying40 Tryd.underlying5 (et (k20 d4)) g13 hS ?_)
        intro w3 μ3 a14 c15 le16 hS m17; refine pu (dt (q20 p5)) ?_
        refine wl (s_lensl Tryd.underlying40 (et (k20 d5)) (dt (q20 p6)) ?_)
        refine wl (s_move ec (dt (q20 p7)) ?_)
        refine wnil ?_
        refine xn ?_
        refine cblock ?_
        refine cloopE (rg 2 2++[8]++rg 28 28) (by decide +kernel) (fun n m w=>∃ (μx:M) (i35:Int) (i36:Int),m=(yK2 (yO2 2 (yK2 (.i (.int .i64 i35)::(yK1 (yO1 8 (yK10 (yK8 (.i (.int .i64 i36)::(yO20 28 (yO8 48 [])))))))))))∧r13_number_l1 fu p_1 u5 l12 n i35 i36=some r∧Le μ3 μx∧Sq μx w0 w (rsF)) (by rintro _ _ _ ⟨_,_,_,rfl,_⟩; rfl) _ _ (aK2 (aO2 (aK2 (aI (aK1 (aO1 (aK10 (aK8 (aI (aO20 (aO8 aZ))))))))))) ⟨_,0,0,rfl,h,Le.r,hS⟩ ?_
        rintro n_1 _ t w4 ⟨μ4,i35,i36,rfl,h,le54,hS⟩
        cases n_1 with
        | zero=>cases h
        | succ n_1 =>
        unfold r13_number_l1 at h
        refine cnrm (mK2 (mO2 (mK2 (mi (mK1 (mO1 (mK10 (mK8 (mi (mO20 (mO8 mz))))))))))) ?_
        refine cseq ?_
        refine creg ?_
        refine wl (s_lss (et (k20 d7)) (et (k20 d6)) (dt (q20 p8)) ?_)
        refine wnil ?_
        refine xn ?_
        refine cseq ?_
        refine cifd (et (k20 d8)) (fun h55=>?_) (fun h55=>?_)
        · replace h:=iT h55 h
          refine cskip ?_
          refine xn ?_
          refine cseq ?_
          refine cblock ?_
          refine cseq ?_
          refine creg ?_
          replace h:=bI h; obtain ⟨x56,g57,h⟩:=h
          obtain ⟨b58,o59,cs60,e61,f62,m63⟩:=SlR.elem (m17.up le54) g57
          obtain rfl:=m63
          refine wl (s_iax Tryd.underlying40 ti5 (et (k20 d5)) (et (k20 d7)) e61 (dt (q20 p9)) ?_)
          refine wl (s_load ti5 (et (k20 d9)) ((f62 _ hS.a).one d0) (dt (q30 p0)) ?_)
          refine wl (s_assign (et (k30 d0)) (dt p8) ?_)
          refine wnil ?_
          refine xn ?_
          refine cseq ?_
          refine cseq ?_
          refine ccutE (rg 31 17) (by decide) (fun m w=>∃ (μx:M) (b64:Bool),m=(yK20 (yK10 (yK1 (yO10 31 (yO7 41 (.i (.bool b64)::[]))))))∧r13_number_j3 i35 i36 x56 (r13_number_l1 fu p_1 u5 l12 n_1) b64=some r∧Le μ4 μx∧Sq μx w0 w (rsF)) (by rintro _ _ ⟨_,_,rfl,_⟩; rfl) ?_ ?_
          · refine creg ?_
            refine wl (s_move (et d8) (dt (q30 p1)) ?_)
            refine wl (s_lss (et (k30 d1)) ec (dt (q30 p2)) ?_)
            refine wl (s_move (et (k30 d2)) (dt (q30 p3)) ?_)
            refine wspd (k30 d3) (q30 p3) (q30 p3) (fun h65=>?_) (fun h65=>?_)
            · replace h:=iT h65 h
              refine wn rfl (k30 d3) rfl (dt (q30 p4)) ?_
              refine wn rfl (k30 d3) rfl (dt (q30 p5)) ?_
              refine wl (s_pickt (et (k30 d3)) ec (dt (q30 p6)) ?_)
              refine wl (s_move (et (k30 d6)) (dt (q30 p7)) ?_)
              refine wn rfl (k30 d7) rfl (dt (q30 p8)) ?_
              refine wn rfl (k30 d7) rfl (dt (q30 p9)) ?_
              refine wl (s_pickt (et (k30 d7)) ec (dt (q40 p0)) ?_)
              refine wl (s_move (et (k40 d0)) (dt (q40 p1)) ?_)
              refine wn rfl (k40 d1) rfl (dt (q40 p2)) ?_
              refine wn rfl (k40 d1) rfl (dt (q40 p3)) ?_
              refine wn rfl (k40 d1) rfl (dt (q40 p4)) ?_
              refine wu rfl (k40 d4) (dt (q40 p5)) ?_
              refine wu rfl (k40 d4) (dt (q40 p6)) ?_
              refine wn rfl (k40 d1) rfl (dt (q40 p7)) ?_
              refine wl (s_pickt (et (k40 d1)) ec (dt (q40 p8)) ?_)
              refine wnil ?_
              refine xl ?_
              exact ⟨_,_,rfl,(aK20 (aK10 (aK1 (aO10 (aO7 (aI aZ)))))),_,true,rfl,h,Le.r,hS⟩
            · replace h:=iF h65 h
              refine wy rfl (k30 d3) (s_move (et d8) (dt (q30 p4)) ?_)
              refine wy rfl (k30 d3) (s_gtr (et (k30 d4)) ec (dt (q30 p5)) ?_)
              refine wl (s_pickf (et (k30 d3)) (et (k30 d5)) (dt (q30 p6)) ?_)
              refine wl (s_move (et (k30 d6)) (dt (q30 p7)) ?_)
              refine wspd (k30 d7) (q30 p7) (q30 p7) (fun h66=>?_) (fun h66=>?_)
              · replace h:=iT h66 h
                refine wn rfl (k30 d7) rfl (dt (q30 p8)) ?_
                refine wn rfl (k30 d7) rfl (dt (q30 p9)) ?_
                refine wl (s_pickt (et (k30 d7)) ec (dt (q40 p0)) ?_)
                refine wl (s_move (et (k40 d0)) (dt (q40 p1)) ?_)
                refine wn rfl (k40 d1) rfl (dt (q40 p2)) ?_
                refine wn rfl (k40 d1) rfl (dt (q40 p3)) ?_
                refine wn rfl (k40 d1) rfl (dt (q40 p4)) ?_
                refine wu rfl (k40 d4) (dt (q40 p5)) ?_
                refine wu rfl (k40 d4) (dt (q40 p6)) ?_
                refine wn rfl (k40 d1) rfl (dt (q40 p7)) ?_
                refine wl (s_pickt (et (k40 d1)) ec (dt (q40 p8)) ?_)
                refine wnil ?_
                refine xl ?_
                exact ⟨_,_,rfl,(aK20 (aK10 (aK1 (aO10 (aO7 (aI aZ)))))),_,true,rfl,h,Le.r,hS⟩
              · replace h:=iF h66 h
                refine wy rfl (k30 d7) (s_move (et d6) (dt (q30 p8)) ?_)
                refine wy rfl (k30 d7) (s_lss (et (k30 d8)) ec (dt (q30 p9)) ?_)
                refine wl (s_pickf (et (k30 d7)) (et (k30 d9)) (dt (q40 p0)) ?_)
                refine wl (s_move (et (k40 d0)) (dt (q40 p1)) ?_)
                refine wspd (k40 d1) (q40 p1) (q40 p1) (fun h67=>?_) (fun h67=>?_)
                · replace h:=iT h67 h
                  refine wn rfl (k40 d1) rfl (dt (q40 p2)) ?_
                  refine wn rfl (k40 d1) rfl (dt (q40 p3)) ?_
                  refine wn rfl (k40 d1) rfl (dt (q40 p4)) ?_
                  refine wu rfl (k40 d4) (dt (q40 p5)) ?_
                  refine wu rfl (k40 d4) (dt (q40 p6)) ?_
                  refine wn rfl (k40 d1) rfl (dt (q40 p7)) ?_
                  refine wl (s_pickt (et (k40 d1)) ec (dt (q40 p8)) ?_)
                  refine wnil ?_
                  refine xl ?_
                  exact ⟨_,_,rfl,(aK20 (aK10 (aK1 (aO10 (aO7 (aI aZ)))))),_,true,rfl,h,Le.r,hS⟩
                · replace h:=iF h67 h
                  refine wy rfl (k40 d1) (s_move (et d6) (dt (q40 p2)) ?_)
                  refine wy rfl (k40 d1) (s_eqi (et (k40 d2)) ec (dt (q40 p3)) ?_)
                  refine wy rfl (k40 d1) (s_move (et (k40 d3)) (dt (q40 p4)) ?_)
                  refine wspd (k40 d4) (q40 p4) (q40 p4) (fun h68=>?_) (fun h68=>?_)
                  · replace h:=iT h68 h
                    refine wy rfl (k40 d4) (s_move (et d8) (dt (q40 p5)) ?_)
                    refine wy rfl (k40 d4) (s_gtr (et (k40 d5)) ec (dt (q40 p6)) ?_)
                    refine wy rfl (k40 d1) (s_pickt (et (k40 d4)) (et (k40 d6)) (dt (q40 p7)) ?_)
                    refine wl (s_pickf (et (k40 d1)) (et (k40 d7)) (dt (q40 p8)) ?_)
                    refine wnil ?_
                    refine xl ?_
                    exact ⟨_,_,rfl,(aK20 (aK10 (aK1 (aO10 (aO7 (aI aZ)))))),_,(decide ((56:Int)<(x56.toNat:Int))),rfl,h,Le.r,hS⟩
                  · replace h:=iF h68 h
                    refine wn rfl (k40 d4) rfl (dt (q40 p5)) ?_
                    refine wn rfl (k40 d4) rfl (dt (q40 p6)) ?_
                    refine wy rfl (k40 d1) (s_pickf (et (k40 d4)) ec (dt (q40 p7)) ?_)
                    refine wl (s_pickf (et (k40 d1)) (et (k40 d7)) (dt (q40 p8)) ?_)
                    refine wnil ?_
                    refine xl ?_
                    exact ⟨_,_,rfl,(aK20 (aK10 (aK1 (aO10 (aO7 (aI aZ)))))),_,false,rfl,h,Le.r,hS⟩
          · rintro _ t w5 ⟨μ5,b64,rfl,h,le69,hS⟩
            unfold r13_number_j3 at h
            refine nrm (mK20 (mK10 (mK1 (mO10 (mO7 (mi mz)))))) ?_
            refine xn ?_
            refine cifb (et (k40 d8)) (fun h70=>?_) (fun h70=>?_)
            · replace h:=iT h70 h
              refine cseq ?_
              refine creg ?_
              refine wl (s_assign ec (dt p2) ?_)
              refine wl (s_assign ec (dt p3) ?_)
              refine wnil ?_
              refine xn ?_
              refine cret ?_
              refine (fun h=>xr (br (xr (xr (br (xr h)))))) ?_
              obtain rfl:=oI h
              refine ret2 rfl d2 d3 ?_
              exact ⟨_,rfl,(le3.t (le11.t (le16.t (le54.t le69)))),hS⟩
            · replace h:=iF h70 h
              refine cskip ?_
              refine xn ?_
              refine creg ?_
              refine wl (s_move (et d6) (dt (q40 p9)) ?_)
              refine wl (s_mul ec (et (k40 d9)) rfl (dt (q50 p0)) ?_)
              refine wl (s_move (et d8) (dt (q50 p1)) ?_)
              refine wl (s_sub (et (k50 d1)) ec rfl (dt (q50 p2)) ?_)
              replace h:=bI h; obtain ⟨i71,g72,h⟩:=h
              refine wl (s_cvi Tryd.underlying5 Tryd.underlying2 (et (k50 d2)) (i64_wrap1 g72) (dt (q50 p3)) ?_)
              refine wl (s_sub (et (k50 d0)) (et (k50 d3)) rfl (dt (q50 p4)) ?_)
              refine wl (s_assign (et (k50 d4)) (dt p6) ?_)
              refine wnil ?_
              refine (fun h=>bn (xn h)) ?_
              refine creg ?_
              replace h:=bI h; obtain ⟨i73,g74,h⟩:=h
              refine wl (s_addc (et (k20 d7)) ec g74 (dt (q50 p5)) ?_)
              refine wl (s_move (et (k50 d5)) (dt (q20 p7)) ?_)
              refine wnil ?_
              refine xl ?_
              exact ⟨n_1,_,_,rfl,(aK2 (aO2 (aK2 (aI (aK1 (aO1 (aK10 (aK8 (aI (aO20 (aO8 aZ))))))))))),⟨_,(w64 ((w64 (10*i35)) - i71)),i73,rfl,h,(le54.t le69),hS⟩,Nat.lt_succ_self _⟩
        · replace h:=iF h55 h
          refine cexit ?_
          refine (fun h=>xe (xe (bh h))) ?_
          refine xn ?_
          refine cseq ?_
          refine cseq ?_
          refine creg ?_
          refine wl (s_move (et d4) (dt (q50 p6)) ?_)
          refine wl (s_not (et (k50 d6)) (dt (q50 p7)) ?_)
          refine wnil ?_
          refine xn ?_
          refine ccutE (rg 2 2++rg 58 4) (by decide) (fun m w=>∃ (μx:M) (i75:Int),m=(yK2 (yO2 2 (yK2 (.i (.int .i64 i75)::(yK50 (yK1 (yO4 58 [])))))))∧r13_number_j4 fu p_1 i75=some r∧Le μ4 μx∧Sq μx w0 w (rsF)) (by rintro _ _ ⟨_,_,rfl,_⟩; rfl) ?_ ?_
          · refine cifnd (et (k50 d7)) (fun h76=>?_) (fun h76=>?_)
            · replace h:=iF h76 h
              refine cseq ?_
              refine cseq ?_
              refine creg ?_
              refine wl (s_move (et d6) (dt (q50 p8)) ?_)
              refine wl (s_eqi (et (k50 d8)) ec (dt (q50 p9)) ?_)
              refine wnil ?_
              refine xn ?_
              refine cifd (et (k50 d9)) (fun h77=>?_) (fun h77=>?_)
              · replace h:=iT h77 h
                refine cseq ?_
                refine creg ?_
                refine wl (s_assign ec (dt p2) ?_)
                refine wl (s_assign ec (dt p3) ?_)
                refine wnil ?_
                refine xn ?_
                refine cret ?_
                refine (fun h=>xr (xr (xr h))) ?_
                obtain rfl:=oI h
                refine ret2 rfl d2 d3 ?_
                exact ⟨_,rfl,(le3.t (le11.t (le16.t le54))),hS⟩
              · replace h:=iF h77 h
                refine cskip ?_
                refine xn ?_
                refine creg ?_
                refine wl (s_move (et d6) (dt (q60 p0)) ?_)
                refine wl (s_neg (et (k60 d0)) rfl (dt (q60 p1)) ?_)
                refine wl (s_assign (et (k60 d1)) (dt p6) ?_)
                refine wnil ?_
                refine xl ?_
                exact ⟨_,_,rfl,(aK2 (aO2 (aK2 (aI (aK50 (aK1 (aO4 aZ))))))),_,(w64 (0 - i35)),rfl,h,Le.r,hS⟩
            · replace h:=iT h76 h
              refine cskip ?_
              refine xl ?_
              exact ⟨_,_,rfl,(aK2 (aO2 (aK2 (aI (aK50 (aK1 (aO4 aZ))))))),_,i35,rfl,h,Le.r,hS⟩
          · rintro _ t w6 ⟨μ6,i75,rfl,h,le78,hS⟩
            unfold r13_number_j4 at h
            refine nrm (mK2 (mO2 (mK2 (mi (mK50 (mK1 (mO4 mz))))))) ?_
            refine xn ?_
            refine cseq ?_
            refine creg ?_
            refine wl (s_move (et d6) (dt (q60 p2)) ?_)
            refine wl (s_move (et d6) (dt (q60 p3)) ?_)
            replace h:=bI h; obtain ⟨r79,g80,h⟩:=h
            refine wl (s_callv isfn22 ef (e1 (et (k60 d3)) e0) ((R13D_sound fu).r13_digits (hg.t (le3.t (le11.t (le16.t (le54.t le78))))) g80 hS) ?_)
            rintro _ w7 ⟨μ7,rfl,le81,hS⟩
            refine pu (dt (q60 p4)) ?_
            refine wl (s_move (et d0) (dt (q60 p5)) ?_)
            refine wl (s_eqs (et (k60 d4)) (et (k60 d5)) (dt (q60 p6)) ?_)
            refine wl (s_assign (et (k60 d2)) (dt p2) ?_)
            refine wl (s_assign (et (k60 d6)) (dt p3) ?_)
            refine wnil ?_
            refine xn ?_
            refine cret ?_
            obtain rfl:=oI h
            refine ret2 rfl d2 d3 ?_
            exact ⟨_,rfl,(le3.t (le11.t (le16.t (le54.t (le78.t le81))))),hS⟩
theorem r13_words_w {fu:Nat} {μ0:M} {w0 w:World} {rsF:List Res} (hg:Le Gm μ0) {p_1:List UInt8} {r:List (List UInt8)}  (h:r13_words fu p_1=some r) (hS:Sq μ0 w0 w (rsF)):CallsV Tryd.prog 39 [S p_1] w (fun v w'=>∃ (μ':M) (a1:Option Addr) (c2:Nat),v=.slice a1 r.length c2∧Le μ0 μ'∧Sq μ' w0 w' (rsF)∧Sl μ' a1 c2 r):=by
  unfold r13_words at h
  refine enter Tryd.func39 rfl (frm:=[_,_,_,_,_,_,_,_,_,_,_,_,_,_,_,_,_,_,_,_,_,_,_,_,_,_,_,_,_,_,_,_,_,_,_,_,_]) rfl ?_
  refine cseq ?_
  refine creg ?_
  refine wl (s_assign ec (dt p2) ?_)
  refine wnil ?_
  refine xn ?_
  refine cseq ?_
  refine creg ?_
  refine wl (s_bsl Tryd.underlying56 ti9 (Parts.s ec rfl Parts.z) rfl rfl hS ?_); clear hS; intro b4 w1 hb5 hS; refine pu (dt p5) ?_
  refine wl (s_assign (et d5) (dt p3) ?_)
  refine wnil ?_
  refine xn ?_
  refine cseq ?_
  refine cseq ?_
  refine creg ?_
  refine wl (s_assign ec (dt p4) ?_)
  refine wnil ?_
  refine xn ?_
  refine cblock ?_
  replace hS:=hS.blkRow (n:=1) (sz:=Mo.sz (List UInt8)) d0 rfl (by decide) p0
  have m6:Rw μ0 [S []] ([[]]:List (List UInt8)):=(Rw.one (α:=List UInt8) rfl)
  refine cloopE (rg 6 30) (by decide +kernel) (fun n m w=>∃ (μx:M) (i61:Int) (l64:List (List UInt8)) (v62:Value) (cs63:List Value),m=(yK3 (.i (v62)::(.i (.int .i64 i61)::(yK1 (yO20 6 (yO10 26 []))))))∧r13_words_l1 p_1 n i61 l64=some r∧Le μ0 μx∧Sq μx w0 w (.row v62 9 1 l64.length cs63::rsF)∧Rw μx cs63 l64) (by rintro _ _ _ ⟨_,_,_,_,_,rfl,_⟩; rfl) _ _ (aK3 (aI (aI (aK1 (aO20 (aO10 aZ)))))) ⟨_,0,([[]]:List (List UInt8)),(.slice (some ⟨b4,0,none⟩) 1 1),[S []],rfl,h,Le.r,hS,m6⟩ ?_
  rintro n_1 _ t w2 ⟨μ1,i61,l64,v62,cs63,rfl,h,le120,hS,m121⟩
  cases n_1 with
  | zero=>cases h
  | succ n_1 =>
  unfold r13_words_l1 at h
  refine cnrm (mK3 (mi (mi (mK1 (mO20 (mO10 mz)))))) ?_
  refine cseq ?_
  refine cseq ?_
  refine creg ?_
  refine wl (s_move (et d4) (dt p6) ?_)
  refine wl (s_move (et d0) (dt p7) ?_)
  refine wl (s_lens Tryd.underlying9 (et d7) (dt p8) ?_)
  refine wl (s_lss (et d6) (et d8) (dt p9) ?_)
  refine wnil ?_
  refine xn ?_
  refine cifd (et d9) (fun h122=>?_) (fun h122=>?_)
  · replace h:=iT h122 h
    refine cskip ?_
    refine xn ?_
    refine cseq ?_
    refine cblock ?_
    refine cseq ?_
    refine creg ?_
    refine wl (s_move (et d0) (dt (q10 p2)) ?_)
    refine wl (s_move (et d4) (dt (q10 p3)) ?_)
    replace h:=bI h; obtain ⟨u123,g124,h⟩:=h
    refine wl (s_idxc Tryd.underlying9 (et (k10 d2)) (et (k10 d3)) g124 (dt (q10 p4)) ?_)
    refine wl (s_eqi (et (k10 d4)) ec (dt (q10 p5)) ?_)
    refine wnil ?_
    refine xn ?_
    refine cifd (et (k10 d5)) (fun h125=>?_) (fun h125=>?_)
    · replace h:=iT h125 h
      refine creg ?_
      refine wl (s_move (et d3) (dt (q10 p6)) ?_)
      refine wl (s_bsl Tryd.underlying56 ti9 (Parts.s ec rfl Parts.z) rfl rfl hS ?_); clear hS; intro b126 w3 hb127 hS; refine pu (dt (q10 p7)) ?_
      replace h:=bI h; obtain ⟨l130,g131,h⟩:=h
      have m132:Rw μ1 [S []] [[]]:=(Rw.one (α:=List UInt8) rfl)
      have m129:=Rw.app m121 m132 g131
      refine wl (s_app1 Tryd.underlying56 ti9 rfl (et (k10 d6)) (et (k10 d7)) hS d1 (hS.blk d0).cells m132 rfl g131 (by decide) ?_); clear hS; intro v128 w4 rs_ hp_ hS; cases (show _=rs_ from hp_)
      replace hS:=Sep.reput hS p1; refine pu (dt (q10 p8)) ?_
      replace hS:=hS.drop Rm.z
      refine wl (s_assign (et (k10 d8)) (dt p3) ?_)
      refine wnil ?_
      refine (fun h=>bn (xn h)) ?_
      refine creg ?_
      refine wl (s_move (et d4) (dt (q10 p0)) ?_)
      replace h:=bI h; obtain ⟨i133,g134,h⟩:=h
      refine wl (s_addc (et (k10 d0)) ec g134 (dt (q10 p1)) ?_)
      refine wl (s_assign (et (k10 d1)) (dt p4) ?_)
      refine wnil ?_
      refine xl ?_
      exact ⟨n_1,_,_,rfl,(aK3 (aI (aI (aK1 (aO20 (aO10 aZ)))))),⟨_,i133,l130,v128,(cs63++[S []]),rfl,h,le120,hS,m129⟩,Nat.lt_succ_self _⟩
    · replace h:=iF h125 h
      refine ccutE (rg 19 17) (by decide) (fun m w=>∃ (μx:M) (l137:List (List UInt8)) (cs136:List Value),m=(yK10 (yK9 (yO10 19 (yO7 29 []))))∧r13_words_j1 i61 (r13_words_l1 p_1 n_1) l137=some r∧Le μ1 μx∧Sq μx w0 w (.row v62 9 1 l137.length cs136::rsF)∧Rw μx cs136 l137) (by rintro _ _ ⟨_,_,_,rfl,_⟩; rfl) ?_ ?_
      · refine cdraw (by kernel_rfl) rfl fun w5 hh_ ho_ ht_ hu_=>?_
        replace hS:=hS.drew hh_ ho_ ht_ hu_
        refine sf_start ?_
        refine sf_pu (i:=0) [0,16,17] (blind_of fun _ _ _ h=>h.2) rfl rfl rfl (u_move (et d3)) (q10 p9) ?_
        refine sf_pu (i:=1) [1,2,3,16,17] (blind_of fun _ _ _ h=>h.2) rfl rfl rfl (u_move (et d3)) (q20 p0) ?_
        refine sf_pu (i:=4) [4,8,9,15,16,17] (blind_of fun _ _ _ h=>h.2) rfl rfl rfl (u_move (et d3)) (q20 p3) ?_
        refine sf_pu (i:=5) [5,6,7,8,9,15,16,17] (blind_of fun _ _ _ h=>h.2) rfl rfl rfl (u_move (et d3)) (q20 p4) ?_
        refine sf_pu (i:=10) [10,14,15,16,17] (blind_of fun _ _ _ h=>h.2) rfl rfl rfl (u_move (et d0)) (q20 p9) ?_
        refine sf_pu (i:=11) [11,14,15,16,17] (blind_of fun _ _ _ h=>h.2) rfl rfl rfl (u_move (et d4)) (q30 p0) ?_
        refine sf_pu (i:=12) [12,13,14,15,16,17] (blind_of fun _ _ _ h=>h.2) rfl rfl rfl (u_move (et d4)) (q30 p1) ?_
        replace h:=bI h; obtain ⟨i139,g140,h⟩:=h
        refine sf_pu (i:=13) [13,14,15,16,17] (blind_of fun _ _ _ h=>h.2) rfl rfl rfl (u_addc (et (k30 d1)) ec g140) (q30 p2) ?_
        replace h:=bI h; obtain ⟨s141,g142,h⟩:=h
        refine sf_pu (i:=14) [14,15,16,17] (blind_of fun _ _ _ h=>h.2) rfl rfl rfl (u_cut2c Tryd.underlying9 (et (k20 d9)) (et (k30 d0)) (et (k30 d2)) g142) (q30 p3) ?_
        refine sf2 (i:=2) (j:=6) rfl rfl rfl rfl rfl rfl rfl (wn0 rfl) (wn0 rfl) ?_ ?_
        · refine id (s_lenv Tryd.underlying56 (et (k20 d0)) (hS.get d0).isSl (dt (q20 p1)) ?_)
          refine ⟨Mons.z,?_⟩
          replace h:=bI h; obtain ⟨i143,g144,h⟩:=h
          refine sf_pu (i:=3) [3,16,17] (blind_of fun _ _ _ h=>h.2) rfl rfl rfl (u_subc (et (k20 d1)) ec g144) (q20 p2) ?_
          refine sf1 rfl rfl rfl rfl (wn0 rfl) (s_lenv Tryd.underlying56 (et (k20 d4)) (hS.get d0).isSl (dt (q20 p5)) ?_)
          refine ⟨Mons.z,?_⟩
          replace h:=bI h; obtain ⟨i145,g146,h⟩:=h
          refine sf_pu (i:=7) [7,8,9,15,16,17] (blind_of fun _ _ _ h=>h.2) rfl rfl rfl (u_subc (et (k20 d5)) ec g146) (q20 p6) ?_
          replace h:=bI h; obtain ⟨x147,g148,h⟩:=h
          obtain ⟨b149,o150,pc151,cs152,sc153,ec154,e155,f156,m157,pn158,st159,m160⟩:=Row.elemS (α:=List UInt8) (hS.get d0) m121 rfl g148
          rw [ec154] at hS
          obtain rfl:=m157
          refine sf_pu (i:=8) [8,9,15,16,17] (blind_of fun _ _ _ h=>h.2) rfl rfl rfl (u_iax Tryd.underlying56 ti9 (et (k20 d3)) (et (k20 d6)) e155) (q20 p7) ?_
          refine sf_rd (i:=9) [9,15,16,17] (blind_of fun _ _ _ h=>h.2) rfl rfl rfl (u_load ti9 (et (k20 d7)) ((f156 _ _ _ (hS.get d0) rfl).one d0)) (q20 p8) ?_
          replace h:=bI h; obtain ⟨s161,g162,h⟩:=h
          refine sf_pu (i:=15) [15,16,17] (blind_of fun _ _ _ h=>h.2) rfl rfl rfl (u_catc (et (k20 d8)) (et (k30 d3)) g162) (q30 p4) ?_
          replace h:=bI h; obtain ⟨x163,g164,h⟩:=h
          obtain ⟨b165,o166,pc167,cs168,sc169,ec170,e171,f172,m173,pn174,st175,m176⟩:=Row.elemS (α:=List UInt8) (hS.get d0) m160 rfl g164
          rw [ec170] at hS
          obtain rfl:=m173
          refine sf_pu (i:=16) [16,17] (blind_of fun _ _ _ h=>h.2) rfl rfl rfl (u_iax Tryd.underlying56 ti9 (et (k10 d9)) (et (k20 d2)) e171) (q30 p5) ?_
          have m177:=st175 _ [S s161] s161 Le.r rfl
          refine sf1 rfl rfl rfl rfl (wn0 rfl) (s_storeR (off:=0) ti9 (et (k30 d5)) (et (k30 d4)) rfl rfl rfl hS d0 e171 (Nat.le_of_ble_eq_true rfl) (open_store pn174 rfl (Nat.le_of_ble_eq_true rfl)) p0 dn ?_); clear hS; intro w6 hS
          replace hS:Sq μ1 w0 w6 (.row v62 9 1 (l64.set i143.toNat s161).length (pc167++([S s161]++sc169))::rsF):=by rw [List.length_set]; exact hS
          refine ⟨Mons.z,?_⟩
          refine sf_nil ?_
          refine xl ?_
          exact ⟨_,_,rfl,(aK10 (aK9 (aO10 (aO7 aZ)))),_,(l64.set i143.toNat s161),(pc167++([S s161]++sc169)),rfl,h,Le.r,hS,m177⟩
        · replace h:=bI h; obtain ⟨i143,g144,h⟩:=h
          replace h:=bI h; obtain ⟨i145,g146,h⟩:=h
          replace h:=bI h; obtain ⟨x147,g148,h⟩:=h
          replace h:=bI h; obtain ⟨s161,g162,h⟩:=h
          replace h:=bI h; obtain ⟨x163,g164,h⟩:=h
          refine id (s_lenv Tryd.underlying56 (et (k20 d4)) (hS.get d0).isSl (dt (q20 p5)) ?_)
          refine ⟨Mons.z,?_⟩
          refine sf_pu (i:=7) [7,8,9,15,16,17] (blind_of fun _ _ _ h=>h.2) rfl rfl rfl (u_subc (et (k20 d5)) ec g146) (q20 p6) ?_
          obtain ⟨b178,o179,pc180,cs181,sc182,ec183,e184,f185,m186,pn187,st188,m189⟩:=Row.elemS (α:=List UInt8) (hS.get d0) m121 rfl g148
          rw [ec183] at hS
          obtain rfl:=m186
          refine sf_pu (i:=8) [8,9,15,16,17] (blind_of fun _ _ _ h=>h.2) rfl rfl rfl (u_iax Tryd.underlying56 ti9 (et (k20 d3)) (et (k20 d6)) e184) (q20 p7) ?_
          refine sf_rd (i:=9) [9,15,16,17] (blind_of fun _ _ _ h=>h.2) rfl rfl rfl (u_load ti9 (et (k20 d7)) ((f185 _ _ _ (hS.get d0) rfl).one d0)) (q20 p8) ?_
          refine sf_pu (i:=15) [15,16,17] (blind_of fun _ _ _ h=>h.2) rfl rfl rfl (u_catc (et (k20 d8)) (et (k30 d3)) g162) (q30 p4) ?_
          refine sf1 rfl rfl rfl rfl (wn0 rfl) (s_lenv Tryd.underlying56 (et (k20 d0)) (hS.get d0).isSl (dt (q20 p1)) ?_)
          refine ⟨(Mons.s (u_load ti9 (et (k20 d7)) ((f185 _ _ _ (hS.get d0) rfl).one d0)) Mons.z),?_⟩
          refine sf_pu (i:=3) [3,16,17] (blind_of fun _ _ _ h=>h.2) rfl rfl rfl (u_subc (et (k20 d1)) ec g144) (q20 p2) ?_
          obtain ⟨b190,o191,pc192,cs193,sc194,ec195,e196,f197,m198,pn199,st200,m201⟩:=Row.elemS (α:=List UInt8) (hS.get d0) m189 rfl g164
          rw [ec195] at hS
          obtain rfl:=m198
          refine sf_pu (i:=16) [16,17] (blind_of fun _ _ _ h=>h.2) rfl rfl rfl (u_iax Tryd.underlying56 ti9 (et (k10 d9)) (et (k20 d2)) e196) (q30 p5) ?_
          have m202:=st200 _ [S s161] s161 Le.r rfl
          refine sf1 rfl rfl rfl rfl (wn0 rfl) (s_storeR (off:=0) ti9 (et (k30 d5)) (et (k30 d4)) rfl rfl rfl hS d0 e196 (Nat.le_of_ble_eq_true rfl) (open_store pn199 rfl (Nat.le_of_ble_eq_true rfl)) p0 dn ?_); clear hS; intro w7 hS
          replace hS:Sq μ1 w0 w7 (.row v62 9 1 (l64.set i143.toNat s161).length (pc192++([S s161]++sc194))::rsF):=by rw [List.length_set]; exact hS
          refine ⟨Mons.z,?_⟩
          refine sf_nil ?_
          refine xl ?_
          exact ⟨_,_,rfl,(aK10 (aK9 (aO10 (aO7 aZ)))),_,(l64.set i143.toNat s161),(pc192++([S s161]++sc194)),rfl,h,Le.r,hS,m202⟩
      · rintro _ t w8 ⟨μ2,l137,cs136,rfl,h,le203,hS,m204⟩
        unfold r13_words_j1 at h
        refine nrm (mK10 (mK9 (mO10 (mO7 mz)))) ?_
        refine (fun h=>bn (xn h)) ?_
        refine creg ?_
        refine wl (s_move (et d4) (dt (q10 p0)) ?_)
        replace h:=bI h; obtain ⟨i205,g206,h⟩:=h
        refine wl (s_addc (et (k10 d0)) ec g206 (dt (q10 p1)) ?_)
        refine wl (s_assign (et (k10 d1)) (dt p4) ?_)
        refine wnil ?_
        refine xl ?_
        exact ⟨n_1,_,_,rfl,(aK3 (aI (aI (aK1 (aO20 (aO10 aZ)))))),⟨_,i205,l137,v62,cs136,rfl,h,(le120.t le203),hS,m204⟩,Nat.lt_succ_self _⟩
  · replace h:=iF h122 h
    refine cexit ?_
    refine (fun h=>xe (xe (bh h))) ?_
    refine xn ?_
    refine cseq ?_
    refine creg ?_
    refine wl (s_move (et d3) (dt (q30 p6)) ?_)
    refine wl (s_assign (et (k30 d6)) (dt p2) ?_)
    refine wnil ?_
    refine xn ?_
    refine cret ?_
    obtain ⟨μ3,a207,c208,e211,le210,m209,hq_⟩:=Sep.frzRow hS m121 rfl; clear hS
    subst e211; have hS:=hq_; clear hq_
    obtain rfl:=oI h
    refine ret1 rfl d2 ?_
    exact ⟨_,a207,c208,rfl,(le120.t le210),hS,m209⟩
theorem r13_line_w {fu:Nat} {μ0:M} {w0 w:World} {rsF:List Res} (hg:Le Gm μ0) {b1:Nat} {boxe_2:List TBi} {v3:Value} {cs4:List Value} {unit_6:List TUnit} {v7:Value} {cs8:List Value} {v9:Value} {cs10:List Value} {p_2:List UInt8} {r:Bool×List TBi×List TUnit} (m5:Rw μ0 cs4 boxe_2) (m11:Ru (β:=TInstr) μ0 cs8 v9 cs10 unit_6) (h:r13_line fu boxe_2 unit_6 p_2=some r) (hS:Sq μ0 w0 w (.blk b1 25 [v3,v7]::.row v3 52 2 boxe_2.length cs4::.row v7 55 6 unit_6.length cs8::.row v9 59 3 (lcode (β:=TInstr) unit_6).length cs10::rsF)):CallsV Tryd.prog 28 [.pointer (some ⟨b1,0,none⟩),S p_2] w (fun v w'=>∃ (μ':M) (v12:Value) (cs13:List Value) (v15:Value) (cs16:List Value) (v17:Value) (cs18:List Value),v=.bool r.1∧Le μ0 μ'∧Sq μ' w0 w' (.blk b1 25 [v12,v15]::.row v12 52 2 r.2.1.length cs13::.row v15 55 6 r.2.2.length cs16::.row v17 59 3 (lcode (β:=TInstr) r.2.2).length cs18::rsF)∧Rw μ' cs13 r.2.1∧Ru (β:=TInstr) μ' cs16 v17 cs18 r.2.2):=by
  unfold r13_line at h
  refine enter Tryd.func28 rfl (frm:=[_,_,_,_,_,_,_,_,_,_,_,_,_,_,_,_,_,_,_,_,_,_,_,_,_,_,_,_,_,_,_,_,_,_,_,_,_,_,_,_,_,_,_,_,_,_,_,_,_,_,_,_,_,_,_,_,_,_,_,_,_,_,_,_,_,_,_,_,_,_,_,_,_,_,_,_,_,_,_,_,_,_,_,_,_,_,_,_,_,_,_,_,_,_,_,_,_,_,_,_,_,_,_,_,_,_,_,_,_,_,_,_,_,_,_,_,_,_,_,_,_,_,_,_,_,_,_,_,_,_,_,_,_,_,_,_,_,_,_,_,_,_,_,_,_,_,_,_,_,_,_,_,_,_,_,_,_,_,_,_,_,_,_,_,_,_,_,_,_,_,_,_,_,_,_,_,_,_,_,_,_,_,_,_,_,_,_,_,_,_,_,_,_,_,_,_,_]) rfl ?_
  refine cseq ?_
  refine creg ?_
  refine wl (s_assign ec (dt p4) ?_)
  refine wnil ?_
  refine xn ?_
  refine cseq ?_
  refine cseq ?_
  refine ccutE (rg 20 7) (by decide) (fun m w=>∃ (μx:M) (b20:Bool),m=(yK20 (yO7 20 (.i (.bool b20)::[])))∧r13_line_j1 fu boxe_2 p_2 unit_6 b20=some r∧Le μ0 μx∧Sq μx w0 w (.blk b1 25 [v3,v7]::.row v3 52 2 boxe_2.length cs4::.row v7 55 6 unit_6.length cs8::.row v9 59 3 (lcode (β:=TInstr) unit_6).length cs10::rsF)) (by rintro _ _ ⟨_,_,rfl,_⟩; rfl) ?_ ?_
  · refine creg ?_
    refine wl (s_move (et d1) (dt (q20 p0)) ?_)
    refine wl (s_lens Tryd.underlying9 (et (k20 d0)) (dt (q20 p1)) ?_)
    refine wl (s_gtr (et (k20 d1)) ec (dt (q20 p2)) ?_)
    refine wl (s_move (et (k20 d2)) (dt (q20 p3)) ?_)
    refine wspd (k20 d3) (q20 p3) (q20 p3) (fun h21=>?_) (fun h21=>?_)
    · replace h:=iT h21 h
      refine wy rfl (k20 d3) (s_move (et d1) (dt (q20 p4)) ?_)
      replace h:=bI h; obtain ⟨u22,g23,h⟩:=h
      refine wy rfl (k20 d3) (s_idxc Tryd.underlying9 (et (k20 d4)) ec g23 (dt (q20 p5)) ?_)
      refine wy rfl (k20 d3) (s_eqi (et (k20 d5)) ec (dt (q20 p6)) ?_)
      refine wl (s_pickt (et (k20 d3)) (et (k20 d6)) (dt (q20 p7)) ?_)
      refine wnil ?_
      refine xl ?_
      exact ⟨_,_,rfl,(aK20 (aO7 (aI aZ))),_,(decide ((u22.toNat:Int)=9)),rfl,h,Le.r,hS⟩
    · replace h:=iF h21 h
      refine wn rfl (k20 d3) rfl (dt (q20 p4)) ?_
      refine wn rfl (k20 d3) rfl (dt (q20 p5)) ?_
      refine wn rfl (k20 d3) rfl (dt (q20 p6)) ?_
      refine wl (s_pickf (et (k20 d3)) ec (dt (q20 p7)) ?_)
      refine wnil ?_
      refine xl ?_
      exact ⟨_,_,rfl,(aK20 (aO7 (aI aZ))),_,false,rfl,h,Le.r,hS⟩
  · rintro _ t w1 ⟨μ1,b20,rfl,h,le24,hS⟩
    unfold r13_line_j1 at h
    refine nrm (mK20 (mO7 (mi mz))) ?_
    refine xn ?_
    refine cifb (et (k20 d7)) (fun h25=>?_) (fun h25=>?_)
    · replace h:=iT h25 h
      refine cseq ?_
      refine creg ?_
      refine wl (s_move (et d1) (dt (q20 p8)) ?_)
      replace h:=bI h; obtain ⟨s26,g27,h⟩:=h
      refine wl (s_cutloc Tryd.underlying9 (et (k20 d8)) ec g27 (dt (q20 p9)) ?_)
      replace h:=bI h; obtain ⟨r28,g29,h⟩:=h
      refine wl (s_callv isfn39 ef (e1 (et (k20 d9)) e0) (r13_words_w (hg.t le24) g29 hS) ?_)
      rintro _ w2 ⟨μ2,a31,c32,rfl,le30,hS,m33⟩
      refine pu (dt (q30 p0)) ?_
      refine wl (s_assign (et (k30 d0)) (dt p5) ?_)
      refine wnil ?_
      refine xn ?_
      refine cseq ?_
      refine cseq ?_
      refine creg ?_
      refine wl (s_assign ec (dt p6) ?_)
      refine wnil ?_
      refine xn ?_
      refine cblock ?_
      refine cloopE ([4]++rg 7 6++rg 31 77) (by decide +kernel) (fun n m w=>∃ (μx:M) (i100:Int),m=(yK4 (yO1 4 (yK1 (.i (.int .i64 i100)::(yO6 7 (yK10 (yK8 (yO50 31 (yO20 81 (yO7 101 []))))))))))∧r13_line_l1 fu boxe_2 unit_6 r28 n i100=some r∧Le μ2 μx∧Sq μx w0 w (.blk b1 25 [v3,v7]::.row v3 52 2 boxe_2.length cs4::.row v7 55 6 unit_6.length cs8::.row v9 59 3 (lcode (β:=TInstr) unit_6).length cs10::rsF)) (by rintro _ _ _ ⟨_,_,rfl,_⟩; rfl) _ _ (aK4 (aO1 (aK1 (aI (aO6 (aK10 (aK8 (aO50 (aO20 (aO7 aZ)))))))))) ⟨_,1,rfl,h,Le.r,hS⟩ ?_
      rintro n_1 _ t w3 ⟨μ3,i100,rfl,h,le166,hS⟩
      cases n_1 with
      | zero=>cases h
      | succ n_1 =>
      unfold r13_line_l1 at h
      refine cnrm (mK4 (mO1 (mK1 (mi (mO6 (mK10 (mK8 (mO50 (mO20 (mO7 mz)))))))))) ?_
      refine cseq ?_
      refine cseq ?_
      refine creg ?_
      refine wl (s_move (et d6) (dt (q30 p1)) ?_)
      refine wl (s_leq (et (k30 d1)) ec (dt (q30 p2)) ?_)
      refine wnil ?_
      refine xn ?_
      refine cifd (et (k30 d2)) (fun h167=>?_) (fun h167=>?_)
      · replace h:=iT h167 h
        refine cskip ?_
        refine xn ?_
        refine cseq ?_
        refine cblock ?_
        refine cseq ?_
        refine creg ?_
        refine wl (s_move (et d6) (dt (q30 p6)) ?_)
        replace h:=bI h; obtain ⟨r168,g169,h⟩:=h
        refine wl (s_callv isfn23 ef (e1 (et (k30 d6)) e0) (r13_word_w (hg.t (le24.t (le30.t le166))) g169 hS) ?_)
        rintro _ w4 ⟨μ4,rfl,le170,hS⟩
        refine pu (dt (q30 p7)) ?_
        refine wl (s_move (et (k30 d7)) (dt (q30 p5)) ?_)
        refine wl (s_extr (et (k30 d5)) d0 (dt (q30 p8)) ?_)
        refine wl (s_extr (et (k30 d5)) d1 (dt (q30 p9)) ?_)
        refine wl (s_assign (et (k30 d8)) (dt p7) ?_)
        refine wl (s_assign (et (k30 d9)) (dt p8) ?_)
        refine wnil ?_
        refine xn ?_
        refine cseq ?_
        refine cseq ?_
        refine creg ?_
        refine wl (s_move (et d7) (dt (q40 p0)) ?_)
        refine wl (s_move (et d5) (dt (q40 p1)) ?_)
        replace h:=bI h; obtain ⟨x171,g172,h⟩:=h
        obtain ⟨b173,o174,cs175,e176,f177,m178⟩:=SlR.elem (m33.up (le166.t le170)) g172
        obtain rfl:=m178
        refine wl (s_iax Tryd.underlying56 ti9 (et (k40 d1)) ec e176 (dt (q40 p2)) ?_)
        refine wl (s_load ti9 (et (k40 d2)) ((f177 _ hS.a).one d0) (dt (q40 p3)) ?_)
        refine wl (s_nes (et (k40 d0)) (et (k40 d3)) (dt (q40 p4)) ?_)
        refine wnil ?_
        refine xn ?_
        refine cifd (et (k40 d4)) (fun h179=>?_) (fun h179=>?_)
        · replace h:=iT h179 h
          refine cexit ?_
          refine (fun h=>xe (bh h)) ?_
          refine xn ?_
          refine creg ?_
          refine wl (s_move (et d6) (dt (q30 p3)) ?_)
          replace h:=bI h; obtain ⟨i180,g181,h⟩:=h
          refine wl (s_addc (et (k30 d3)) ec g181 (dt (q30 p4)) ?_)
          refine wl (s_assign (et (k30 d4)) (dt p6) ?_)
          refine wnil ?_
          refine xl ?_
          exact ⟨n_1,_,_,rfl,(aK4 (aO1 (aK1 (aI (aO6 (aK10 (aK8 (aO50 (aO20 (aO7 aZ)))))))))),⟨_,i180,rfl,h,(le166.t le170),hS⟩,Nat.lt_succ_self _⟩
        · replace h:=iF h179 h
          refine cskip ?_
          refine xn ?_
          refine cseq ?_
          refine creg ?_
          refine wl (s_move (et d6) (dt (q40 p5)) ?_)
          refine wl (s_build ti59 pl59 (Fl.o rfl (et (k40 d5)) rfl rfl p0 Fl.z) (dt (q40 p6)) ?_)
          refine wl (s_alloc ti59 hS ?_); clear hS; intro b182 w5 hb183 hS; refine pu (dt p9) ?_
          refine wl (s_storeA ti59 (et d9) (et (k40 d6)) rfl rfl hS d0 rfl p0 dn ?_)
          clear hS; intro w6 hS
          refine wnil ?_
          refine xn ?_
          refine cseq ?_
          refine ccutE (rg 47 7) (by decide) (fun m w=>∃ (μx:M) (b184:Bool),m=(yK10 (.i (.bool b184)::(yK20 (yK10 (yK6 (yO7 47 []))))))∧r13_line_j2 fu boxe_2 unit_6 r28 i100 r168 b184=some r∧Le μ4 μx∧Sq μx w0 w (.blk b1 25 [v3,v7]::.row v3 52 2 boxe_2.length cs4::.row v7 55 6 unit_6.length cs8::.row v9 59 3 (lcode (β:=TInstr) unit_6).length cs10::.blk b182 59 [.int .i64 i100,.int .i64 0,.int .i64 0]::rsF)) (by rintro _ _ ⟨_,_,rfl,_⟩; rfl) ?_ ?_
          · refine creg ?_
            refine wl (s_move (et d5) (dt (q40 p7)) ?_)
            refine wl (s_lensl Tryd.underlying56 (et (k40 d7)) (dt (q40 p8)) ?_)
            refine wl (s_eqi (et (k40 d8)) ec (dt (q40 p9)) ?_)
            refine wl (s_move (et (k40 d9)) (dt (q50 p0)) ?_)
            refine wspd (k50 d0) (q50 p0) (q50 p0) (fun h185=>?_) (fun h185=>?_)
            · replace h:=iT h185 h
              refine wy rfl (k50 d0) (s_move (et d8) (dt (q50 p1)) ?_)
              refine wy rfl (k50 d0) (s_eqi (et (k50 d1)) ec (dt (q50 p2)) ?_)
              refine wl (s_pickt (et (k50 d0)) (et (k50 d2)) (dt (q50 p3)) ?_)
              refine wl (s_assign (et (k50 d3)) (dt (q10 p0)) ?_)
              refine wnil ?_
              refine xl ?_
              replace hS:=hS.bg (Bg.s (Bg.s (Bg.s (Bg.s Bg.z))))
              replace hS:=hS.bg (Bg.s (Bg.s (Bg.s (Bg.s Bg.z))))
              replace hS:=hS.bg (Bg.s (Bg.s (Bg.s (Bg.s Bg.z))))
              replace hS:=hS.bg (Bg.s (Bg.s (Bg.s (Bg.s Bg.z))))
              exact ⟨_,_,rfl,(aK10 (aI (aK20 (aK10 (aK6 (aO7 aZ)))))),_,(decide (r168.2=0)),rfl,h,Le.r,hS⟩
            · replace h:=iF h185 h
              refine wn rfl (k50 d0) rfl (dt (q50 p1)) ?_
              refine wn rfl (k50 d0) rfl (dt (q50 p2)) ?_
              refine wl (s_pickf (et (k50 d0)) ec (dt (q50 p3)) ?_)
              refine wl (s_assign (et (k50 d3)) (dt (q10 p0)) ?_)
              refine wnil ?_
              refine xl ?_
              replace hS:=hS.bg (Bg.s (Bg.s (Bg.s (Bg.s Bg.z))))
              replace hS:=hS.bg (Bg.s (Bg.s (Bg.s (Bg.s Bg.z))))
              replace hS:=hS.bg (Bg.s (Bg.s (Bg.s (Bg.s Bg.z))))
              replace hS:=hS.bg (Bg.s (Bg.s (Bg.s (Bg.s Bg.z))))
              exact ⟨_,_,rfl,(aK10 (aI (aK20 (aK10 (aK6 (aO7 aZ)))))),_,false,rfl,h,Le.r,hS⟩
          · rintro _ t w7 ⟨μ5,b184,rfl,h,le186,hS⟩
            unfold r13_line_j2 at h
            refine nrm (mK10 (mi (mK20 (mK10 (mK6 (mO7 mz)))))) ?_
            refine xn ?_
            refine cseq ?_
            refine cseq ?_
            refine ccutE (rg 54 6) (by decide) (fun m w=>∃ (μx:M) (b187:Bool),m=(yK50 (yK4 (yO6 54 (.i (.bool b187)::[]))))∧r13_line_j3 fu boxe_2 unit_6 r28 i100 r168 b184 b187=some r∧Le μ5 μx∧Sq μx w0 w (.blk b1 25 [v3,v7]::.row v3 52 2 boxe_2.length cs4::.row v7 55 6 unit_6.length cs8::.row v9 59 3 (lcode (β:=TInstr) unit_6).length cs10::.blk b182 59 [.int .i64 i100,.int .i64 0,.int .i64 0]::rsF)) (by rintro _ _ ⟨_,_,rfl,_⟩; rfl) ?_ ?_
            · refine creg ?_
              refine wl (s_move (et d5) (dt (q50 p4)) ?_)
              refine wl (s_lensl Tryd.underlying56 (et (k50 d4)) (dt (q50 p5)) ?_)
              refine wl (s_eqi (et (k50 d5)) ec (dt (q50 p6)) ?_)
              refine wl (s_move (et (k50 d6)) (dt (q50 p7)) ?_)
              refine wspd (k50 d7) (q50 p7) (q50 p7) (fun h188=>?_) (fun h188=>?_)
              · replace h:=iT h188 h
                refine wy rfl (k50 d7) (s_move (et d8) (dt (q50 p8)) ?_)
                refine wy rfl (k50 d7) (s_gtr (et (k50 d8)) ec (dt (q50 p9)) ?_)
                refine wl (s_pickt (et (k50 d7)) (et (k50 d9)) (dt (q60 p0)) ?_)
                refine wnil ?_
                refine xl ?_
                exact ⟨_,_,rfl,(aK50 (aK4 (aO6 (aI aZ)))),_,(decide ((0:Int)<r168.2)),rfl,h,Le.r,hS⟩
              · replace h:=iF h188 h
                refine wn rfl (k50 d7) rfl (dt (q50 p8)) ?_
                refine wn rfl (k50 d7) rfl (dt (q50 p9)) ?_
                refine wl (s_pickf (et (k50 d7)) ec (dt (q60 p0)) ?_)
                refine wnil ?_
                refine xl ?_
                exact ⟨_,_,rfl,(aK50 (aK4 (aO6 (aI aZ)))),_,false,rfl,h,Le.r,hS⟩
            · rintro _ t w8 ⟨μ6,b187,rfl,h,le189,hS⟩
              unfold r13_line_j3 at h
              refine nrm (mK50 (mK4 (mO6 (mi mz)))) ?_
              refine xn ?_
              refine ccutE ([11]++rg 61 13) (by decide) (fun m w=>∃ (μx:M) (b190:Bool) (i191:Int) (i192:Int),m=(yK10 (.i (.bool b190)::(yO1 11 (yK20 (yK20 (yK9 (yO10 61 (yO3 71 []))))))))∧r13_line_j4 boxe_2 unit_6 i100 b190 i191 i192=some r∧Le μ6 μx∧Sq μx w0 w (.blk b1 25 [v3,v7]::.row v3 52 2 boxe_2.length cs4::.row v7 55 6 unit_6.length cs8::.row v9 59 3 (lcode (β:=TInstr) unit_6).length cs10::.blk b182 59 [.int .i64 i100,.int .i64 i191,.int .i64 i192]::rsF)) (by rintro _ _ ⟨_,_,_,_,rfl,_⟩; rfl) ?_ ?_
              · refine cifb (et (k60 d0)) (fun h193=>?_) (fun h193=>?_)
                · replace h:=iT h193 h
                  refine cseq ?_
                  refine creg ?_
                  refine wl (s_assign ec (dt (q10 p1)) ?_)
                  refine wnil ?_
                  refine xn ?_
                  refine cseq ?_
                  refine creg ?_
                  refine wl (s_move (et d5) (dt (q60 p2)) ?_)
                  replace h:=bI h; obtain ⟨x194,g195,h⟩:=h
                  obtain ⟨b196,o197,cs198,e199,f200,m201⟩:=SlR.elem (m33.up (le166.t (le170.t (le186.t le189)))) g195
                  obtain rfl:=m201
                  refine wl (s_iax Tryd.underlying56 ti9 (et (k60 d2)) ec e199 (dt (q60 p3)) ?_)
                  refine wl (s_load ti9 (et (k60 d3)) ((f200 _ hS.a).one d0) (dt (q60 p4)) ?_)
                  replace h:=bI h; obtain ⟨r202,g203,h⟩:=h
                  refine wl (s_callv isfn40 ef (e1 (et (k60 d4)) e0) (r13_number_w (hg.t (le24.t (le30.t (le166.t (le170.t (le186.t le189)))))) g203 hS) ?_)
                  rintro _ w9 ⟨μ7,rfl,le204,hS⟩
                  refine pu (dt (q60 p5)) ?_
                  refine wl (s_move (et (k60 d5)) (dt (q60 p1)) ?_)
                  refine wl (s_extr (et (k60 d1)) d0 (dt (q60 p6)) ?_)
                  refine wl (s_extr (et (k60 d1)) d1 (dt (q60 p7)) ?_)
                  refine wl (s_assign (et (k60 d6)) (dt (q10 p1)) ?_)
                  refine wl (s_assign (et (k60 d7)) (dt (q10 p0)) ?_)
                  refine wnil ?_
                  refine xn ?_
                  refine cseq ?_
                  refine creg ?_
                  refine wl (s_move (et d8) (dt (q60 p8)) ?_)
                  refine wl (s_eqi (et (k60 d8)) ec (dt (q60 p9)) ?_)
                  refine wnil ?_
                  refine xn ?_
                  refine cifd (et (k60 d9)) (fun h205=>?_) (fun h205=>?_)
                  · replace h:=iT h205 h
                    refine creg ?_
                    refine wl (s_move (et (k10 d1)) (dt (q70 p0)) ?_)
                    refine wl (s_fa fa59_1 (et d9) rfl (dt (q70 p1)) ?_)
                    refine wl (s_store1 ti3 (et (k70 d1)) (et (k70 d0)) rfl hS d4 p1 rfl p4 dn ?_)
                    clear hS; intro w10 hS
                    refine wnil ?_
                    refine xl ?_
                    exact ⟨_,_,rfl,(aK10 (aI (aO1 (aK20 (aK20 (aK9 (aO10 (aO3 aZ)))))))),_,r202.2,r202.1,0,rfl,h,le204,hS⟩
                  · replace h:=iF h205 h
                    refine creg ?_
                    refine wl (s_move (et (k10 d1)) (dt (q70 p2)) ?_)
                    refine wl (s_fa fa59_2 (et d9) rfl (dt (q70 p3)) ?_)
                    refine wl (s_store1 ti2 (et (k70 d3)) (et (k70 d2)) rfl hS d4 p2 rfl p4 dn ?_)
                    clear hS; intro w11 hS
                    refine wnil ?_
                    refine xl ?_
                    exact ⟨_,_,rfl,(aK10 (aI (aO1 (aK20 (aK20 (aK9 (aO10 (aO3 aZ)))))))),_,r202.2,0,r202.1,rfl,h,le204,hS⟩
                · replace h:=iF h193 h
                  refine cskip ?_
                  refine xl ?_
                  exact ⟨_,_,rfl,(aK10 (aI (aO1 (aK20 (aK20 (aK9 (aO10 (aO3 aZ)))))))),_,b184,0,0,rfl,h,Le.r,hS⟩
              · rintro _ t w12 ⟨μ8,b190,i191,i192,rfl,h,le206,hS⟩
                unfold r13_line_j4 at h
                refine nrm (mK10 (mi (mO1 (mK20 (mK20 (mK9 (mO10 (mO3 mz)))))))) ?_
                refine xn ?_
                refine cseq ?_
                refine cseq ?_
                refine ccutE (rg 74 9) (by decide) (fun m w=>∃ (μx:M) (b207:Bool),m=(yK50 (yK20 (yK4 (yO9 74 (.i (.bool b207)::[])))))∧r13_line_j5 boxe_2 unit_6 i100 i191 i192 b207=some r∧Le μ8 μx∧Sq μx w0 w (.blk b1 25 [v3,v7]::.row v3 52 2 boxe_2.length cs4::.row v7 55 6 unit_6.length cs8::.row v9 59 3 (lcode (β:=TInstr) unit_6).length cs10::.blk b182 59 [.int .i64 i100,.int .i64 i191,.int .i64 i192]::rsF)) (by rintro _ _ ⟨_,_,rfl,_⟩; rfl) ?_ ?_
                · refine creg ?_
                  refine wl (s_move (et (k10 d0)) (dt (q70 p4)) ?_)
                  refine wl (s_not (et (k70 d4)) (dt (q70 p5)) ?_)
                  refine wl (s_move (et (k70 d5)) (dt (q70 p6)) ?_)
                  refine wspnb (k70 d6) (q70 p6) (q70 p6) (fun h208=>?_) (fun h208=>?_)
                  · replace h:=iF h208 h
                    refine wn rfl (k70 d6) rfl (dt (q70 p7)) ?_
                    refine wn rfl (k70 d6) rfl (dt (q70 p8)) ?_
                    refine wn rfl (k70 d6) rfl (dt (q70 p9)) ?_
                    refine wn rfl (k70 d6) rfl (dt (q80 p0)) ?_
                    refine wn rfl (k70 d6) rfl (dt (q80 p1)) ?_
                    refine wn rfl (k70 d6) rfl (dt (q80 p2)) ?_
                    refine wl (s_pickt (et (k70 d6)) ec (dt (q80 p3)) ?_)
                    refine wnil ?_
                    refine xl ?_
                    exact ⟨_,_,rfl,(aK50 (aK20 (aK4 (aO9 (aI aZ))))),_,true,rfl,h,Le.r,hS⟩
                  · replace h:=iT h208 h
                    refine wy rfl (k70 d6) (s_move (et d0) (dt (q70 p7)) ?_)
                    refine wy rfl (k70 d6) (s_nilck (et (k70 d7)) (dt (q70 p8)) ?_)
                    refine wy rfl (k70 d6) (s_fa fa25_1 (et (k70 d8)) rfl (dt (q70 p9)) ?_)
                    refine wy rfl (k70 d6) (s_load ti23 (et (k70 d9)) ((hS.blk d0).cell d1) (dt (q80 p0)) ?_)
                    refine wy rfl (k70 d6) (s_lenv Tryd.underlying23 (et (k80 d0)) (hS.get d2).isSl (dt (q80 p1)) ?_)
                    refine wy rfl (k70 d6) (s_eqi (et (k80 d1)) ec (dt (q80 p2)) ?_)
                    refine wl (s_pickf (et (k70 d6)) (et (k80 d2)) (dt (q80 p3)) ?_)
                    refine wnil ?_
                    refine xl ?_
                    exact ⟨_,_,rfl,(aK50 (aK20 (aK4 (aO9 (aI aZ))))),_,(decide ((unit_6.length:Int)=0)),rfl,h,Le.r,hS⟩
                · rintro _ t w13 ⟨μ9,b207,rfl,h,le209,hS⟩
                  unfold r13_line_j5 at h
                  refine nrm (mK50 (mK20 (mK4 (mO9 (mi mz))))) ?_
                  refine xn ?_
                  refine cifb (et (k80 d3)) (fun h210=>?_) (fun h210=>?_)
                  · replace h:=iT h210 h
                    refine cseq ?_
                    refine creg ?_
                    refine wl (s_assign ec (dt p4) ?_)
                    refine wnil ?_
                    refine xn ?_
                    refine cret ?_
                    refine (fun h=>xr (br (xr (xr (br (xr (xr h))))))) ?_
                    obtain rfl:=oI h
                    refine ret1 rfl d4 ?_
                    replace hS:=hS.drop (Rm.s (Rm.s (Rm.s (Rm.s Rm.z))))
                    exact ⟨_,v3,cs4,v7,cs8,v9,cs10,rfl,(le24.t (le30.t (le166.t (le170.t (le186.t (le189.t (le206.t le209))))))),hS,(m5.up (le24.t (le30.t (le166.t (le170.t (le186.t (le189.t (le206.t le209)))))))),(m11.up (le24.t (le30.t (le166.t (le170.t (le186.t (le189.t (le206.t le209))))))))⟩
                  · replace h:=iF h210 h
                    refine cskip ?_
                    refine xn ?_
                    refine cseq ?_
                    refine creg ?_
                    refine wl (s_move (et d0) (dt (q80 p4)) ?_)
                    refine wl (s_nilck (et (k80 d4)) (dt (q80 p5)) ?_)
                    refine wl (s_fa fa25_1 (et (k80 d5)) rfl (dt (q80 p6)) ?_)
                    refine wl (s_load ti23 (et (k80 d6)) ((hS.blk d0).cell d1) (dt (q80 p7)) ?_)
                    refine wl (s_lenv Tryd.underlying23 (et (k80 d7)) (hS.get d2).isSl (dt (q80 p8)) ?_)
                    replace h:=bI h; obtain ⟨i211,g212,h⟩:=h
                    refine wl (s_subc (et (k80 d8)) ec g212 (dt (q80 p9)) ?_)
                    refine wl (s_assign (et (k80 d9)) (dt (q10 p2)) ?_)
                    refine wnil ?_
                    refine xn ?_
                    refine cseq ?_
                    refine ccutE (rg 90 18) (by decide) (fun m w=>∃ (μx:M) (l217:List TUnit) (v215:Value) (cs216:List Value) (v213:Value) (cs214:List Value),m=(yK50 (yK20 (yK20 (yO10 90 (yO8 100 [])))))∧r13_line_j6 boxe_2 l217=some r∧Le μ9 μx∧Sq μx w0 w (.blk b1 25 [v3,v215]::.row v3 52 2 boxe_2.length cs4::.row v215 55 6 l217.length cs216::.row v213 59 3 (lcode (β:=TInstr) l217).length cs214::rsF)∧Ru (β:=TInstr) μx cs216 v213 cs214 l217) (by rintro _ _ ⟨_,_,_,_,_,_,rfl,_⟩; rfl) ?_ ?_
                    · refine cdraw (by kernel_rfl) rfl fun w14 hh_ ho_ ht_ hu_=>?_
                      replace hS:=hS.drew hh_ ho_ ht_ hu_
                      refine sf_start ?_
                      refine sf_pu (i:=0) [0,1,2,3,16,17,18] (blind_of fun _ _ _ h=>h.2) rfl rfl rfl (u_move (et d0)) (q90 p0) ?_
                      refine sf_pu (i:=1) [1,2,3,16,17,18] (blind_of fun _ _ _ h=>h.2) rfl rfl rfl (u_nilck (et (k90 d0))) (q90 p1) ?_
                      refine sf_pu (i:=2) [2,3,16,17,18] (blind_of fun _ _ _ h=>h.2) rfl rfl rfl (u_fa fa25_1 (et (k90 d1)) rfl) (q90 p2) ?_
                      refine sf_rd (i:=3) [3,16,17,18] (blind_of fun _ _ _ h=>h.2) rfl rfl rfl (u_load ti23 (et (k90 d2)) ((hS.blk d0).cell d1)) (q90 p3) ?_
                      refine sf_pu (i:=4) [4,16,17,18] (blind_of fun _ _ _ h=>h.2) rfl rfl rfl (u_move (et (k10 d2))) (q90 p4) ?_
                      refine sf_pu (i:=5) [5,6,7,8,10,11,12,15,16,17,18] (blind_of fun _ _ _ h=>h.2) rfl rfl rfl (u_move (et d0)) (q90 p5) ?_
                      refine sf_pu (i:=6) [6,7,8,10,11,12,15,16,17,18] (blind_of fun _ _ _ h=>h.2) rfl rfl rfl (u_nilck (et (k90 d5))) (q90 p6) ?_
                      refine sf_pu (i:=7) [7,8,10,11,12,15,16,17,18] (blind_of fun _ _ _ h=>h.2) rfl rfl rfl (u_fa fa25_1 (et (k90 d6)) rfl) (q90 p7) ?_
                      refine sf_rd (i:=8) [8,10,11,12,15,16,17,18] (blind_of fun _ _ _ h=>h.2) rfl rfl rfl (u_load ti23 (et (k90 d7)) ((hS.blk d0).cell d1)) (q90 p8) ?_
                      refine sf_pu (i:=9) [9,10,11,12,15,16,17,18] (blind_of fun _ _ _ h=>h.2) rfl rfl rfl (u_move (et (k10 d2))) (q90 p9) ?_
                      replace h:=bI h; obtain ⟨x219,g220,h⟩:=h
                      have hi233:=(i64_eq g212).1
                      obtain ⟨pc221,lc222,e223,m224,e225,uo226,h227⟩:=Ru.open (β:=TInstr) (m11.up (le24.t (le30.t (le166.t (le170.t (le186.t (le189.t (le206.t le209)))))))) g220 hi233
                      rw [e223,e225] at hS
                      obtain ⟨b228,o229,he230,hc231⟩:=Row.lastCell (hS.get d2) uo226 g220 hi233
                      have hl232:lc222.length=5:=Nat.succ.inj (Uo.len uo226 g220 hi233).2; rw [hl232] at hc231
                      refine sf_pu (i:=10) [10,11,12,15,16,17,18] (blind_of fun _ _ _ h=>h.2) rfl rfl rfl (u_iax Tryd.underlying23 ti55 (et (k90 d8)) (et (k90 d9)) he230) (q100 p0) ?_
                      refine sf_pu (i:=11) [11,12,15,16,17,18] (blind_of fun _ _ _ h=>h.2) rfl rfl rfl (u_fa fa55_5 (et (k100 d0)) rfl) (q100 p1) ?_
                      refine sf_rd (i:=12) [12,15,16,17,18] (blind_of fun _ _ _ h=>h.2) rfl rfl rfl (u_load ti53 (et (k100 d1)) (hc231 _ _ _ (hS.get d2))) (q100 p2) ?_
                      refine sf_rd (i:=13) [13,14,15,16,17,18] (blind_of fun _ _ _ h=>h.2) rfl rfl rfl (u_loads ti59 (et d9) (hS.blk d4).cells rfl) (q100 p3) ?_
                      refine sf1 rfl rfl rfl rfl (wn0 rfl) (s_bsl1 Tryd.underlying53 ti59 rfl (et (k100 d3)) rfl hS ?_); clear hS; intro b234 w15 hb235 hS; refine pu (dt (q100 p4)) ?_
                      refine ⟨(Mons.s (u_load ti53 (et (k100 d1)) (hc231 _ _ _ (hS.get d3))) (Mons.s (u_load ti23 (et (k90 d7)) ((hS.blk d1).cell d1)) (Mons.s (u_load ti23 (et (k90 d2)) ((hS.blk d1).cell d1)) Mons.z))),?_⟩
                      replace h:=bI h; obtain ⟨l238,g239,h⟩:=h
                      have m240:Rw μ9 [.int .i64 i100,.int .i64 i191,.int .i64 i192] [(TInstr.mk i100 i191 i192)]:=(Rw.one (α:=TInstr) rfl)
                      have m237:=Rw.app m224 m240 g239
                      refine sf1 rfl rfl rfl rfl (wn0 rfl) (s_app1 Tryd.underlying53 ti59 rfl (et (k100 d2)) (et (k100 d4)) hS d4 (hS.blk d0).cells m240 rfl g239 (by decide) ?_); clear hS; intro v236 w16 rs_ hp_ hS; cases (show _=rs_ from hp_)
                      replace hS:=Sep.reput hS p4; refine pu (dt (q100 p5)) ?_
                      replace hS:=hS.drop Rm.z
                      refine ⟨(Mons.s (u_load ti23 (et (k90 d2)) ((hS.blk d0).cell d1)) Mons.z),?_⟩
                      replace h:=bI h; obtain ⟨x241,g242,h⟩:=h
                      refine sf_pu (i:=16) [16,17,18] (blind_of fun _ _ _ h=>h.2) rfl rfl rfl (u_iax Tryd.underlying23 ti55 (et (k90 d3)) (et (k90 d4)) he230) (q100 p6) ?_
                      refine sf_pu (i:=17) [17,18] (blind_of fun _ _ _ h=>h.2) rfl rfl rfl (u_fa fa55_5 (et (k100 d6)) rfl) (q100 p7) ?_
                      have h243:=(hS.get d3).cellV
                      obtain ⟨m244,e245,e246⟩:=Uo.close uo226 m237 h243
                      refine sf1 rfl rfl rfl rfl (wn0 rfl) (s_storeU ti53 (et (k100 d7)) (et (k100 d5)) h243 hS d2 he230 (Uo.len uo226 g220 hi233) hl232 p2 dn ?_); clear hS; intro w17 hS
                      replace hS:Sq μ9 w0 w17 (.blk b1 25 [v3,v7]::.row v3 52 2 boxe_2.length cs4::.row v7 55 6 (uset unit_6 l238).length (pc221++(lc222++[v236]))::.row v236 59 3 (lcode (β:=TInstr) (uset unit_6 l238)).length (cs10++[.int .i64 i100,.int .i64 i191,.int .i64 i192])::.blk b182 59 [.int .i64 i100,.int .i64 i191,.int .i64 i192]::rsF):=by rw [e245,e246]; exact hS
                      refine ⟨Mons.z,?_⟩
                      refine sf_nil ?_
                      refine xl ?_
                      replace hS:=hS.drop (Rm.s (Rm.s (Rm.s (Rm.s Rm.z))))
                      exact ⟨_,_,rfl,(aK50 (aK20 (aK20 (aO10 (aO8 aZ))))),_,(uset unit_6 l238),v7,(pc221++(lc222++[v236])),v236,(cs10++[.int .i64 i100,.int .i64 i191,.int .i64 i192]),rfl,h,Le.r,hS,m244⟩
                    · rintro _ t w18 ⟨μ10,l217,v215,cs216,v213,cs214,rfl,h,le247,hS,m248⟩
                      unfold r13_line_j6 at h
                      refine nrm (mK50 (mK20 (mK20 (mO10 (mO8 mz))))) ?_
                      refine xn ?_
                      refine cseq ?_
                      refine creg ?_
                      refine wl (s_assign ec (dt p4) ?_)
                      refine wnil ?_
                      refine xn ?_
                      refine cret ?_
                      refine (fun h=>br (xr (xr (br (xr (xr h)))))) ?_
                      obtain rfl:=oI h
                      refine ret1 rfl d4 ?_
                      exact ⟨_,v3,cs4,v215,cs216,v213,cs214,rfl,(le24.t (le30.t (le166.t (le170.t (le186.t (le189.t (le206.t (le209.t le247)))))))),hS,(m5.up (le24.t (le30.t (le166.t (le170.t (le186.t (le189.t (le206.t (le209.t le247))))))))),m248⟩
      · replace h:=iF h167 h
        refine cexit ?_
        refine (fun h=>xe (xe (bh h))) ?_
        refine xn ?_
        refine cseq ?_
        refine creg ?_
        refine wl (s_assign ec (dt p4) ?_)
        refine wnil ?_
        refine xn ?_
        refine cret ?_
        refine xr ?_
        obtain rfl:=oI h
        refine ret1 rfl d4 ?_
        exact ⟨_,v3,cs4,v7,cs8,v9,cs10,rfl,(le24.t (le30.t le166)),hS,(m5.up (le24.t (le30.t le166))),(m11.up (le24.t (le30.t le166)))⟩
    · replace h:=iF h25 h
      refine cskip ?_
      refine xn ?_
      refine cseq ?_
      refine creg ?_
      refine wl (s_move (et d1) (dt (q100 p8)) ?_)
      replace h:=bI h; obtain ⟨r249,g250,h⟩:=h
      refine wl (s_callv isfn39 ef (e1 (et (k100 d8)) e0) (r13_words_w (hg.t le24) g250 hS) ?_)
      rintro _ w19 ⟨μ11,a252,c253,rfl,le251,hS,m254⟩
      refine pu (dt (q100 p9)) ?_
      refine wl (s_assign (et (k100 d9)) (dt (q10 p3)) ?_)
      refine wnil ?_
      refine xn ?_
      refine cseq ?_
      refine creg ?_
      refine wl (s_assign ec (dt (q10 p4)) ?_)
      refine wnil ?_
      refine xn ?_
      refine cseq ?_
      refine cseq ?_
      refine creg ?_
      refine wl (s_move (et (k10 d3)) (dt (q100 (q10 p0))) ?_)
      replace h:=bI h; obtain ⟨l255,g256,h⟩:=h
      obtain ⟨a257,c258,e259,m260⟩:=Sl.slc (i:=some 1) (j:=none) m254 g256
      refine wl (s_slc Tryd.underlying56 ti9 (et (k100 (k10 d0))) (.s ec) .n e259 (dt (q100 (q10 p1))) ?_)
      refine wl (s_lensl Tryd.underlying56 (et (k100 (k10 d1))) (dt (q100 (q10 p2))) ?_)
      refine wl (s_move ec (dt (q100 (q10 p3))) ?_)
      refine wnil ?_
      refine xn ?_
      refine cblock ?_
      replace hS:=hS.nilRow 3 (Mo.sz Int)
      replace hS:=hS.bg (Bg.s (Bg.s (Bg.s (Bg.s Bg.z))))
      replace hS:=hS.bg (Bg.s (Bg.s (Bg.s (Bg.s Bg.z))))
      replace hS:=hS.bg (Bg.s (Bg.s (Bg.s (Bg.s Bg.z))))
      replace hS:=hS.bg (Bg.s (Bg.s (Bg.s (Bg.s Bg.z))))
      refine cloopE ([4]++rg 16 3++rg 114 15) (by decide) (fun n m w=>∃ (μx:M) (i282:Int) (l285:List Int) (v283:Value) (cs284:List Value),m=(yK4 (yO1 4 (yK9 (.i (v283)::(yK1 (yO3 16 (yK50 (yK20 (yK20 (yK4 (.i (.int .i64 i282)::(yO10 114 (yO5 124 [])))))))))))))∧r13_line_l2 fu boxe_2 unit_6 r249 l255 n i282 l285=some r∧Le μ11 μx∧Sq μx w0 w (.blk b1 25 [v3,v7]::.row v3 52 2 boxe_2.length cs4::.row v7 55 6 unit_6.length cs8::.row v9 59 3 (lcode (β:=TInstr) unit_6).length cs10::.row v283 3 1 l285.length cs284::rsF)∧Rw μx cs284 l285) (by rintro _ _ _ ⟨_,_,_,_,_,rfl,_⟩; rfl) _ _ (aK4 (aO1 (aK9 (aI (aK1 (aO3 (aK50 (aK20 (aK20 (aK4 (aI (aO10 (aO5 aZ))))))))))))) ⟨_,0,[],(.slice none 0 0),[],rfl,h,Le.r,hS,Rw.nil⟩ ?_
      rintro n_2 _ t w20 ⟨μ12,i282,l285,v283,cs284,rfl,h,le307,hS,m308⟩
      cases n_2 with
      | zero=>cases h
      | succ n_2 =>
      unfold r13_line_l2 at h
      refine cnrm (mK4 (mO1 (mK9 (mi (mK1 (mO3 (mK50 (mK20 (mK20 (mK4 (mi (mO10 (mO5 mz))))))))))))) ?_
      refine cseq ?_
      refine creg ?_
      refine wl (s_lss (et (k100 (k10 d3))) (et (k100 (k10 d2))) (dt (q100 (q10 p4))) ?_)
      refine wnil ?_
      refine xn ?_
      refine cseq ?_
      refine cifd (et (k100 (k10 d4))) (fun h309=>?_) (fun h309=>?_)
      · replace h:=iT h309 h
        refine cskip ?_
        refine xn ?_
        refine cseq ?_
        refine cblock ?_
        refine cseq ?_
        refine creg ?_
        replace h:=bI h; obtain ⟨x310,g311,h⟩:=h
        obtain ⟨b312,o313,cs314,e315,f316,m317⟩:=SlR.elem (m260.up le307) g311
        obtain rfl:=m317
        refine wl (s_iax Tryd.underlying56 ti9 (et (k100 (k10 d1))) (et (k100 (k10 d3))) e315 (dt (q100 (q10 p5))) ?_)
        refine wl (s_load ti9 (et (k100 (k10 d5))) ((f316 _ hS.a).one d0) (dt (q100 (q10 p6))) ?_)
        refine wl (s_assign (et (k100 (k10 d6))) (dt (q10 p6)) ?_)
        refine wnil ?_
        refine xn ?_
        refine cseq ?_
        refine creg ?_
        refine wl (s_move (et (k10 d6)) (dt (q100 (q10 p8))) ?_)
        replace h:=bI h; obtain ⟨r318,g319,h⟩:=h
        refine wl (s_callv isfn40 ef (e1 (et (k100 (k10 d8))) e0) (r13_number_w (hg.t (le24.t (le251.t le307))) g319 hS) ?_)
        rintro _ w21 ⟨μ13,rfl,le320,hS⟩
        refine pu (dt (q100 (q10 p9))) ?_
        refine wl (s_move (et (k100 (k10 d9))) (dt (q100 (q10 p7))) ?_)
        refine wl (s_extr (et (k100 (k10 d7))) d0 (dt (q100 (q20 p0))) ?_)
        refine wl (s_extr (et (k100 (k10 d7))) d1 (dt (q100 (q20 p1))) ?_)
        refine wl (s_assign (et (k100 (k20 d0))) (dt (q10 p7)) ?_)
        refine wl (s_assign (et (k100 (k20 d1))) (dt (q10 p8)) ?_)
        refine wnil ?_
        refine xn ?_
        refine cseq ?_
        refine cseq ?_
        refine creg ?_
        refine wl (s_move (et (k10 d8)) (dt (q100 (q20 p2))) ?_)
        refine wl (s_not (et (k100 (k20 d2))) (dt (q100 (q20 p3))) ?_)
        refine wnil ?_
        refine xn ?_
        refine cifnb (et (k100 (k20 d3))) (fun h321=>?_) (fun h321=>?_)
        · replace h:=iF h321 h
          refine cseq ?_
          refine creg ?_
          refine wl (s_assign ec (dt p4) ?_)
          refine wnil ?_
          refine xn ?_
          refine cret ?_
          refine (fun h=>xr (br (xr (xr (br (xr h)))))) ?_
          obtain rfl:=oI h
          refine ret1 rfl d4 ?_
          replace hS:=hS.drop (Rm.s (Rm.s (Rm.s (Rm.s Rm.z))))
          exact ⟨_,v3,cs4,v7,cs8,v9,cs10,rfl,(le24.t (le251.t (le307.t le320))),hS,(m5.up (le24.t (le251.t (le307.t le320)))),(m11.up (le24.t (le251.t (le307.t le320))))⟩
        · replace h:=iT h321 h
          refine cskip ?_
          refine xn ?_
          refine creg ?_
          refine wl (s_move (et (k10 d4)) (dt (q100 (q20 p4))) ?_)
          refine wl (s_move (et (k10 d7)) (dt (q100 (q20 p5))) ?_)
          refine wl (s_bsl Tryd.underlying43 ti3 (Parts.s (et (k100 (k20 d5))) rfl Parts.z) rfl rfl hS ?_); clear hS; intro b322 w22 hb323 hS; refine pu (dt (q100 (q20 p6))) ?_
          replace h:=bI h; obtain ⟨l326,g327,h⟩:=h
          have m328:Rw μ13 [.int .i64 r318.1] [r318.1]:=(Rw.one (α:=Int) rfl)
          have m325:=Rw.app (m308.up le320) m328 g327
          refine wl (s_app1 Tryd.underlying43 ti3 rfl (et (k100 (k20 d4))) (et (k100 (k20 d6))) hS d5 (hS.blk d0).cells m328 rfl g327 (by decide) ?_); clear hS; intro v324 w23 rs_ hp_ hS; cases (show _=rs_ from hp_)
          replace hS:=Sep.reput hS p5; refine pu (dt (q100 (q20 p7))) ?_
          replace hS:=hS.drop Rm.z
          refine wl (s_assign (et (k100 (k20 d7))) (dt (q10 p4)) ?_)
          refine wnil ?_
          refine (fun h=>bn (xn h)) ?_
          refine creg ?_
          replace h:=bI h; obtain ⟨i329,g330,h⟩:=h
          refine wl (s_addc (et (k100 (k10 d3))) ec g330 (dt (q100 (q20 p8))) ?_)
          refine wl (s_move (et (k100 (k20 d8))) (dt (q100 (q10 p3))) ?_)
          refine wnil ?_
          refine xl ?_
          exact ⟨n_2,_,_,rfl,(aK4 (aO1 (aK9 (aI (aK1 (aO3 (aK50 (aK20 (aK20 (aK4 (aI (aO10 (aO5 aZ))))))))))))),⟨_,i329,l326,v324,(cs284++[.int .i64 r318.1]),rfl,h,(le307.t le320),hS,m325⟩,Nat.lt_succ_self _⟩
      · replace h:=iF h309 h
        refine cexit ?_
        refine (fun h=>xe (xe (bh h))) ?_
        refine xn ?_
        refine cseq ?_
        refine cseq ?_
        refine ccutE (rg 129 16) (by decide) (fun m w=>∃ (μx:M) (b331:Bool),m=(yK50 (yK50 (yK20 (yK9 (yO10 129 (yO6 139 (.i (.bool b331)::[])))))))∧r13_line_j7 boxe_2 unit_6 r249 l285 b331=some r∧Le μ12 μx∧Sq μx w0 w (.blk b1 25 [v3,v7]::.row v3 52 2 boxe_2.length cs4::.row v7 55 6 unit_6.length cs8::.row v9 59 3 (lcode (β:=TInstr) unit_6).length cs10::.row v283 3 1 l285.length cs284::rsF)) (by rintro _ _ ⟨_,_,rfl,_⟩; rfl) ?_ ?_
        · refine creg ?_
          refine wl (s_move (et (k10 d3)) (dt (q100 (q20 p9))) ?_)
          replace h:=bI h; obtain ⟨x332,g333,h⟩:=h
          obtain ⟨b334,o335,cs336,e337,f338,m339⟩:=SlR.elem (m254.up le307) g333
          obtain rfl:=m339
          refine wl (s_iax Tryd.underlying56 ti9 (et (k100 (k20 d9))) ec e337 (dt (q100 (q30 p0))) ?_)
          refine wl (s_load ti9 (et (k100 (k30 d0))) ((f338 _ hS.a).one d0) (dt (q100 (q30 p1))) ?_)
          refine wl (s_eqs (et (k100 (k30 d1))) ec (dt (q100 (q30 p2))) ?_)
          refine wl (s_move (et (k100 (k30 d2))) (dt (q100 (q30 p3))) ?_)
          refine wspd (k100 (k30 d3)) (q100 (q30 p3)) (q100 (q30 p3)) (fun h340=>?_) (fun h340=>?_)
          · replace h:=iT h340 h
            refine wy rfl (k100 (k30 d3)) (s_move (et (k10 d4)) (dt (q100 (q30 p4))) ?_)
            refine wy rfl (k100 (k30 d3)) (s_lenv Tryd.underlying43 (et (k100 (k30 d4))) (hS.get d4).isSl (dt (q100 (q30 p5))) ?_)
            refine wy rfl (k100 (k30 d3)) (s_eqi (et (k100 (k30 d5))) ec (dt (q100 (q30 p6))) ?_)
            refine wl (s_pickt (et (k100 (k30 d3))) (et (k100 (k30 d6))) (dt (q100 (q30 p7))) ?_)
            refine wl (s_move (et (k100 (k30 d7))) (dt (q100 (q30 p8))) ?_)
            refine wspd (k100 (k30 d8)) (q100 (q30 p8)) (q100 (q30 p8)) (fun h341=>?_) (fun h341=>?_)
            · replace h:=iT h341 h
              refine wy rfl (k100 (k30 d8)) (s_move (et d0) (dt (q100 (q30 p9))) ?_)
              refine wy rfl (k100 (k30 d8)) (s_nilck (et (k100 (k30 d9))) (dt (q100 (q40 p0))) ?_)
              refine wy rfl (k100 (k30 d8)) (s_fa fa25_1 (et (k100 (k40 d0))) rfl (dt (q100 (q40 p1))) ?_)
              refine wy rfl (k100 (k30 d8)) (s_load ti23 (et (k100 (k40 d1))) ((hS.blk d0).cell d1) (dt (q100 (q40 p2))) ?_)
              refine wy rfl (k100 (k30 d8)) (s_lenv Tryd.underlying23 (et (k100 (k40 d2))) (hS.get d2).isSl (dt (q100 (q40 p3))) ?_)
              refine wy rfl (k100 (k30 d8)) (s_eqi (et (k100 (k40 d3))) ec (dt (q100 (q40 p4))) ?_)
              refine wl (s_pickt (et (k100 (k30 d8))) (et (k100 (k40 d4))) (dt (q100 (q40 p5))) ?_)
              refine wnil ?_
              refine xl ?_
              exact ⟨_,_,rfl,(aK50 (aK50 (aK20 (aK9 (aO10 (aO6 (aI aZ))))))),_,(decide ((unit_6.length:Int)=0)),rfl,h,Le.r,hS⟩
            · replace h:=iF h341 h
              refine wn rfl (k100 (k30 d8)) rfl (dt (q100 (q30 p9))) ?_
              refine wn rfl (k100 (k30 d8)) rfl (dt (q100 (q40 p0))) ?_
              refine wn rfl (k100 (k30 d8)) rfl (dt (q100 (q40 p1))) ?_
              refine wn rfl (k100 (k30 d8)) rfl (dt (q100 (q40 p2))) ?_
              refine wn rfl (k100 (k30 d8)) rfl (dt (q100 (q40 p3))) ?_
              refine wn rfl (k100 (k30 d8)) rfl (dt (q100 (q40 p4))) ?_
              refine wl (s_pickf (et (k100 (k30 d8))) ec (dt (q100 (q40 p5))) ?_)
              refine wnil ?_
              refine xl ?_
              exact ⟨_,_,rfl,(aK50 (aK50 (aK20 (aK9 (aO10 (aO6 (aI aZ))))))),_,false,rfl,h,Le.r,hS⟩
          · replace h:=iF h340 h
            refine wn rfl (k100 (k30 d3)) rfl (dt (q100 (q30 p4))) ?_
            refine wn rfl (k100 (k30 d3)) rfl (dt (q100 (q30 p5))) ?_
            refine wn rfl (k100 (k30 d3)) rfl (dt (q100 (q30 p6))) ?_
            refine wl (s_pickf (et (k100 (k30 d3))) ec (dt (q100 (q30 p7))) ?_)
            refine wl (s_move (et (k100 (k30 d7))) (dt (q100 (q30 p8))) ?_)
            refine wn rfl (k100 (k30 d8)) rfl (dt (q100 (q30 p9))) ?_
            refine wn rfl (k100 (k30 d8)) rfl (dt (q100 (q40 p0))) ?_
            refine wn rfl (k100 (k30 d8)) rfl (dt (q100 (q40 p1))) ?_
            refine wn rfl (k100 (k30 d8)) rfl (dt (q100 (q40 p2))) ?_
            refine wn rfl (k100 (k30 d8)) rfl (dt (q100 (q40 p3))) ?_
            refine wn rfl (k100 (k30 d8)) rfl (dt (q100 (q40 p4))) ?_
            refine wl (s_pickf (et (k100 (k30 d8))) ec (dt (q100 (q40 p5))) ?_)
            refine wnil ?_
            refine xl ?_
            exact ⟨_,_,rfl,(aK50 (aK50 (aK20 (aK9 (aO10 (aO6 (aI aZ))))))),_,false,rfl,h,Le.r,hS⟩
        · rintro _ t w24 ⟨μ14,b331,rfl,h,le342,hS⟩
          unfold r13_line_j7 at h
          refine nrm (mK50 (mK50 (mK20 (mK9 (mO10 (mO6 (mi mz))))))) ?_
          refine xn ?_
          refine cifb (et (k100 (k40 d5))) (fun h343=>?_) (fun h343=>?_)
          · replace h:=iT h343 h
            refine cseq ?_
            refine ccutE (rg 146 16) (by decide) (fun m w=>∃ (μx:M) (l346:List TBi) (v344:Value) (cs345:List Value),m=(yK50 (yK50 (yK20 (yK20 (yK6 (yO10 146 (yO6 156 [])))))))∧r13_line_j8 unit_6 l346=some r∧Le μ14 μx∧Sq μx w0 w (.blk b1 25 [v344,v7]::.row v344 52 2 l346.length cs345::.row v7 55 6 unit_6.length cs8::.row v9 59 3 (lcode (β:=TInstr) unit_6).length cs10::rsF)∧Rw μx cs345 l346) (by rintro _ _ ⟨_,_,_,_,rfl,_⟩; rfl) ?_ ?_
            · refine cdraw (by kernel_rfl) rfl fun w25 hh_ ho_ ht_ hu_=>?_
              replace hS:=hS.drew hh_ ho_ ht_ hu_
              refine sf_start ?_
              refine sf_pu (i:=0) [0,14,15,16] (blind_of fun _ _ _ h=>h.2) rfl rfl rfl (u_move (et d0)) (q100 (q40 p6)) ?_
              refine sf_pu (i:=1) [1,2,3,4,13,14,15,16] (blind_of fun _ _ _ h=>h.2) rfl rfl rfl (u_move (et d0)) (q100 (q40 p7)) ?_
              refine sf_pu (i:=2) [2,3,4,13,14,15,16] (blind_of fun _ _ _ h=>h.2) rfl rfl rfl (u_nilck (et (k100 (k40 d7)))) (q100 (q40 p8)) ?_
              refine sf_pu (i:=3) [3,4,13,14,15,16] (blind_of fun _ _ _ h=>h.2) rfl rfl rfl (u_fa fa25_0 (et (k100 (k40 d8))) rfl) (q100 (q40 p9)) ?_
              refine sf_rd (i:=4) [4,13,14,15,16] (blind_of fun _ _ _ h=>h.2) rfl rfl rfl (u_load ti22 (et (k100 (k40 d9))) ((hS.blk d0).cell d0)) (q100 (q50 p0)) ?_
              refine sf_pu (i:=5) [5,6,7,11,12,13,14,15,16] (blind_of fun _ _ _ h=>h.2) rfl rfl rfl (u_move (et (k10 d4))) (q100 (q50 p1)) ?_
              replace hS:=hS.bg (Bg.s (Bg.s (Bg.s (Bg.s Bg.z))))
              obtain ⟨μ15,a348,c349,e352,le351,m350,hq_⟩:=Sep.frzRow hS (m308.up le342) rfl; clear hS
              subst e352; have hS:=hq_; clear hq_
              replace h:=bI h; obtain ⟨x353,g354,h⟩:=h
              obtain ⟨b355,o356,cs357,e358,f359,m360⟩:=SlR.elem m350 g354
              obtain rfl:=m360
              refine sf_pu (i:=6) [6,7,11,12,13,14,15,16] (blind_of fun _ _ _ h=>h.2) rfl rfl rfl (u_iax Tryd.underlying43 ti3 (et (k100 (k50 d1))) ec e358) (q100 (q50 p2)) ?_
              refine sf_rd (i:=7) [7,11,12,13,14,15,16] (blind_of fun _ _ _ h=>h.2) rfl rfl rfl (u_load ti3 (et (k100 (k50 d2))) ((f359 _ hS.a).one d0)) (q100 (q50 p3)) ?_
              refine sf_pu (i:=8) [8,9,10,11,12,13,14,15,16] (blind_of fun _ _ _ h=>h.2) rfl rfl rfl (u_move (et (k10 d4))) (q100 (q50 p4)) ?_
              replace h:=bI h; obtain ⟨x361,g362,h⟩:=h
              obtain ⟨b363,o364,cs365,e366,f367,m368⟩:=SlR.elem m350 g362
              obtain rfl:=m368
              refine sf_pu (i:=9) [9,10,11,12,13,14,15,16] (blind_of fun _ _ _ h=>h.2) rfl rfl rfl (u_iax Tryd.underlying43 ti3 (et (k100 (k50 d4))) ec e366) (q100 (q50 p5)) ?_
              refine sf_rd (i:=10) [10,11,12,13,14,15,16] (blind_of fun _ _ _ h=>h.2) rfl rfl rfl (u_load ti3 (et (k100 (k50 d5))) ((f367 _ hS.a).one d0)) (q100 (q50 p6)) ?_
              refine sf_pu (i:=11) [11,12,13,14,15,16] (blind_of fun _ _ _ h=>h.2) rfl rfl rfl (u_build ti52 pl52 (Fl.o rfl (et (k100 (k50 d3))) rfl rfl p0 (Fl.o rfl (et (k100 (k50 d6))) rfl rfl p1 Fl.z))) (q100 (q50 p7)) ?_
              refine sf1 rfl rfl rfl rfl (wn0 rfl) (s_bsl1 Tryd.underlying22 ti52 rfl (et (k100 (k50 d7))) rfl hS ?_); clear hS; intro b369 w26 hb370 hS; refine pu (dt (q100 (q50 p8))) ?_
              refine ⟨(Mons.s (u_load ti22 (et (k100 (k40 d9))) ((hS.blk d1).cell d0)) Mons.z),?_⟩
              replace h:=bI h; obtain ⟨l373,g374,h⟩:=h
              have m375:Rw μ15 [.int .i64 x353,.int .i64 x361] [(TBi.mk x353 x361)]:=(Rw.one (α:=TBi) rfl)
              have m372:=Rw.app (m5.up (le24.t (le251.t (le307.t (le342.t le351))))) m375 g374
              refine sf1 rfl rfl rfl rfl (wn0 rfl) (s_app1 Tryd.underlying22 ti52 rfl (et (k100 (k50 d0))) (et (k100 (k50 d8))) hS d2 (hS.blk d0).cells m375 rfl g374 (by decide) ?_); clear hS; intro v371 w27 rs_ hp_ hS; cases (show _=rs_ from hp_)
              replace hS:=Sep.reput hS p2; refine pu (dt (q100 (q50 p9))) ?_
              replace hS:=hS.drop Rm.z
              refine ⟨Mons.z,?_⟩
              refine sf_pu (i:=14) [14,15,16] (blind_of fun _ _ _ h=>h.2) rfl rfl rfl (u_nilck (et (k100 (k40 d6)))) (q100 (q60 p0)) ?_
              refine sf_pu (i:=15) [15,16] (blind_of fun _ _ _ h=>h.2) rfl rfl rfl (u_fa fa25_0 (et (k100 (k60 d0))) rfl) (q100 (q60 p1)) ?_
              refine sf1 rfl rfl rfl rfl (wn0 rfl) (s_store1 ti22 (et (k100 (k60 d1))) (et (k100 (k50 d9))) (hS.get d1).cellV hS d0 p0 rfl p0 dn ?_)
              clear hS; intro w28 hS
              refine ⟨Mons.z,?_⟩
              refine sf_nil ?_
              refine xl ?_
              exact ⟨_,_,rfl,(aK50 (aK50 (aK20 (aK20 (aK6 (aO10 (aO6 aZ))))))),_,l373,v371,(cs4++[.int .i64 x353,.int .i64 x361]),rfl,h,le351,hS,m372⟩
            · rintro _ t w29 ⟨μ16,l346,v344,cs345,rfl,h,le376,hS,m377⟩
              unfold r13_line_j8 at h
              refine nrm (mK50 (mK50 (mK20 (mK20 (mK6 (mO10 (mO6 mz))))))) ?_
              refine xn ?_
              refine cseq ?_
              refine creg ?_
              refine wl (s_assign ec (dt p4) ?_)
              refine wnil ?_
              refine xn ?_
              refine cret ?_
              refine xr ?_
              obtain rfl:=oI h
              refine ret1 rfl d4 ?_
              exact ⟨_,v344,cs345,v7,cs8,v9,cs10,rfl,(le24.t (le251.t (le307.t (le342.t le376)))),hS,m377,(m11.up (le24.t (le251.t (le307.t (le342.t le376)))))⟩
          · replace h:=iF h343 h
            refine cskip ?_
            refine xn ?_
            refine cseq ?_
            refine creg ?_
            refine wl (s_mkmap hS ?_); clear hS; intro b378 w30 hb379 hS; refine pu (dt (q100 (q60 p2))) ?_
            refine wl (s_minsM (κ:=List UInt8) (β:=Int) (kk:=[102,110]) (xx:=2) Tryd.underlying87 Tryd.underlying9 (et (k100 (k60 d2))) ec ec rfl hS d0 (Mq.nil (κ:=List UInt8) (β:=Int) (μ:=μ14) (c:=0)) dn ?_); clear hS; intro es380 c381 w31 rs_ m382 hp_ hS; cases (show _=rs_ from hp_)
            replace hS:=Sep.reput hS p0
            refine wl (s_minsM (κ:=List UInt8) (β:=Int) (kk:=[103,101,110]) (xx:=3) Tryd.underlying87 Tryd.underlying9 (et (k100 (k60 d2))) ec ec rfl hS d0 m382 dn ?_); clear hS; intro es383 c384 w32 rs_ m385 hp_ hS; cases (show _=rs_ from hp_)
            replace hS:=Sep.reput hS p0
            refine wl (s_minsM (κ:=List UInt8) (β:=Int) (kk:=[116,97,115,107]) (xx:=4) Tryd.underlying87 Tryd.underlying9 (et (k100 (k60 d2))) ec ec rfl hS d0 m385 dn ?_); clear hS; intro es386 c387 w33 rs_ m388 hp_ hS; cases (show _=rs_ from hp_)
            replace hS:=Sep.reput hS p0
            refine wl (s_move (et (k100 (k60 d2))) (dt (q100 (q60 p3))) ?_)
            refine wl (s_move (et (k10 d3)) (dt (q100 (q60 p4))) ?_)
            replace h:=bI h; obtain ⟨x389,g390,h⟩:=h
            obtain ⟨b391,o392,cs393,e394,f395,m396⟩:=SlR.elem (m254.up (le307.t le342)) g390
            obtain rfl:=m396
            refine wl (s_iax Tryd.underlying56 ti9 (et (k100 (k60 d4))) ec e394 (dt (q100 (q60 p5))) ?_)
            refine wl (s_load ti9 (et (k100 (k60 d5))) ((f395 _ hS.a).one d0) (dt (q100 (q60 p6))) ?_)
            refine wl (s_mget1 (κ:=List UInt8) (k:=x389) (β:=Int) (zx:=0) Tryd.underlying87 Tryd.underlying9 (et (k100 (k60 d3))) (et (k100 (k60 d6))) zv3 rfl (hS.get d0) m388 ?_); rintro _ rfl; refine pu (dt (q100 (q60 p7))) ?_
            refine wl (s_assign (et (k100 (k60 d7))) (dt (q10 p9)) ?_)
            refine wnil ?_
            refine xn ?_
            refine cseq ?_
            refine cseq ?_
            refine ccutE (rg 168 6) (by decide) (fun m w=>∃ (μx:M) (b399:Bool),m=(yK50 (yK50 (yK50 (yK10 (yK8 (yO6 168 (.i (.bool b399)::[])))))))∧r13_line_j9 boxe_2 unit_6 l285 x389 b399=some r∧Le μ14 μx∧Sq μx w0 w (.blk b1 25 [v3,v7]::.row v3 52 2 boxe_2.length cs4::.row v7 55 6 unit_6.length cs8::.row v9 59 3 (lcode (β:=TInstr) unit_6).length cs10::.row v283 3 1 l285.length cs284::rsF)) (by rintro _ _ ⟨_,_,rfl,_⟩; rfl) ?_ ?_
            · refine creg ?_
              refine wl (s_move (et (k10 d9)) (dt (q100 (q60 p8))) ?_)
              refine wl (s_eqi (et (k100 (k60 d8))) ec (dt (q100 (q60 p9))) ?_)
              refine wl (s_move (et (k100 (k60 d9))) (dt (q100 (q70 p0))) ?_)
              refine wspd (k100 (k70 d0)) (q100 (q70 p0)) (q100 (q70 p0)) (fun h400=>?_) (fun h400=>?_)
              · replace h:=iT h400 h
                refine wn rfl (k100 (k70 d0)) rfl (dt (q100 (q70 p1))) ?_
                refine wn rfl (k100 (k70 d0)) rfl (dt (q100 (q70 p2))) ?_
                refine wn rfl (k100 (k70 d0)) rfl (dt (q100 (q70 p3))) ?_
                refine wl (s_pickt (et (k100 (k70 d0))) ec (dt (q100 (q70 p4))) ?_)
                refine wnil ?_
                refine xl ?_
                replace hS:=hS.drop Rm.z
                exact ⟨_,_,rfl,(aK50 (aK50 (aK50 (aK10 (aK8 (aO6 (aI aZ))))))),_,true,rfl,h,Le.r,hS⟩
              · replace h:=iF h400 h
                refine wy rfl (k100 (k70 d0)) (s_move (et (k10 d4)) (dt (q100 (q70 p1))) ?_)
                refine wy rfl (k100 (k70 d0)) (s_lenv Tryd.underlying43 (et (k100 (k70 d1))) (hS.get d5).isSl (dt (q100 (q70 p2))) ?_)
                refine wy rfl (k100 (k70 d0)) (s_lss (et (k100 (k70 d2))) ec (dt (q100 (q70 p3))) ?_)
                refine wl (s_pickf (et (k100 (k70 d0))) (et (k100 (k70 d3))) (dt (q100 (q70 p4))) ?_)
                refine wnil ?_
                refine xl ?_
                replace hS:=hS.drop Rm.z
                exact ⟨_,_,rfl,(aK50 (aK50 (aK50 (aK10 (aK8 (aO6 (aI aZ))))))),_,(decide ((l285.length:Int)<3)),rfl,h,Le.r,hS⟩
            · rintro _ t w34 ⟨μ17,b399,rfl,h,le401,hS⟩
              unfold r13_line_j9 at h
              refine nrm (mK50 (mK50 (mK50 (mK10 (mK8 (mO6 (mi mz))))))) ?_
              refine xn ?_
              refine cifb (et (k100 (k70 d4))) (fun h402=>?_) (fun h402=>?_)
              · replace h:=iT h402 h
                refine cseq ?_
                refine creg ?_
                refine wl (s_assign ec (dt p4) ?_)
                refine wnil ?_
                refine xn ?_
                refine cret ?_
                refine xr ?_
                obtain rfl:=oI h
                refine ret1 rfl d4 ?_
                replace hS:=hS.drop (Rm.s (Rm.s (Rm.s (Rm.s Rm.z))))
                exact ⟨_,v3,cs4,v7,cs8,v9,cs10,rfl,(le24.t (le251.t (le307.t (le342.t le401)))),hS,(m5.up (le24.t (le251.t (le307.t (le342.t le401))))),(m11.up (le24.t (le251.t (le307.t (le342.t le401)))))⟩
              · replace h:=iF h402 h
                refine cskip ?_
                refine xn ?_
                refine cseq ?_
                refine ccutE (rg 175 22) (by decide +kernel) (fun m w=>∃ (μx:M) (l407:List TUnit) (v405:Value) (cs406:List Value) (v403:Value) (cs404:List Value),m=(yK50 (yK50 (yK50 (yK20 (yK5 (yO20 175 (yO2 195 [])))))))∧r13_line_j10 boxe_2 l407=some r∧Le μ17 μx∧Sq μx w0 w (.blk b1 25 [v3,v405]::.row v3 52 2 boxe_2.length cs4::.row v405 55 6 l407.length cs406::.row v403 59 3 (lcode (β:=TInstr) l407).length cs404::rsF)∧Ru (β:=TInstr) μx cs406 v403 cs404 l407) (by rintro _ _ ⟨_,_,_,_,_,_,rfl,_⟩; rfl) ?_ ?_
                · refine cdraw (by kernel_rfl) rfl fun w35 hh_ ho_ ht_ hu_=>?_
                  replace hS:=hS.drew hh_ ho_ ht_ hu_
                  refine sf_start ?_
                  refine sf_pu (i:=0) [0,20,21,22] (blind_of fun _ _ _ h=>h.2) rfl rfl rfl (u_move (et d0)) (q100 (q70 p5)) ?_
                  refine sf_pu (i:=1) [1,2,3,4,19,20,21,22] (blind_of fun _ _ _ h=>h.2) rfl rfl rfl (u_move (et d0)) (q100 (q70 p6)) ?_
                  refine sf_pu (i:=2) [2,3,4,19,20,21,22] (blind_of fun _ _ _ h=>h.2) rfl rfl rfl (u_nilck (et (k100 (k70 d6)))) (q100 (q70 p7)) ?_
                  refine sf_pu (i:=3) [3,4,19,20,21,22] (blind_of fun _ _ _ h=>h.2) rfl rfl rfl (u_fa fa25_1 (et (k100 (k70 d7))) rfl) (q100 (q70 p8)) ?_
                  refine sf_rd (i:=4) [4,19,20,21,22] (blind_of fun _ _ _ h=>h.2) rfl rfl rfl (u_load ti23 (et (k100 (k70 d8))) ((hS.blk d0).cell d1)) (q100 (q70 p9)) ?_
                  refine sf_pu (i:=5) [5,17,18,19,20,21,22] (blind_of fun _ _ _ h=>h.2) rfl rfl rfl (u_move (et (k10 d9))) (q100 (q80 p0)) ?_
                  refine sf_pu (i:=6) [6,7,8,17,18,19,20,21,22] (blind_of fun _ _ _ h=>h.2) rfl rfl rfl (u_move (et (k10 d4))) (q100 (q80 p1)) ?_
                  replace hS:=hS.bg (Bg.s (Bg.s (Bg.s (Bg.s Bg.z))))
                  obtain ⟨μ18,a409,c410,e413,le412,m411,hq_⟩:=Sep.frzRow hS (m308.up (le342.t le401)) rfl; clear hS
                  subst e413; have hS:=hq_; clear hq_
                  replace h:=bI h; obtain ⟨x414,g415,h⟩:=h
                  obtain ⟨b416,o417,cs418,e419,f420,m421⟩:=SlR.elem m411 g415
                  obtain rfl:=m421
                  refine sf_pu (i:=7) [7,8,17,18,19,20,21,22] (blind_of fun _ _ _ h=>h.2) rfl rfl rfl (u_iax Tryd.underlying43 ti3 (et (k100 (k80 d1))) ec e419) (q100 (q80 p2)) ?_
                  refine sf_rd (i:=8) [8,17,18,19,20,21,22] (blind_of fun _ _ _ h=>h.2) rfl rfl rfl (u_load ti3 (et (k100 (k80 d2))) ((f420 _ hS.a).one d0)) (q100 (q80 p3)) ?_
                  refine sf_pu (i:=9) [9,10,11,17,18,19,20,21,22] (blind_of fun _ _ _ h=>h.2) rfl rfl rfl (u_move (et (k10 d4))) (q100 (q80 p4)) ?_
                  replace h:=bI h; obtain ⟨x422,g423,h⟩:=h
                  obtain ⟨b424,o425,cs426,e427,f428,m429⟩:=SlR.elem m411 g423
                  obtain rfl:=m429
                  refine sf_pu (i:=10) [10,11,17,18,19,20,21,22] (blind_of fun _ _ _ h=>h.2) rfl rfl rfl (u_iax Tryd.underlying43 ti3 (et (k100 (k80 d4))) ec e427) (q100 (q80 p5)) ?_
                  refine sf_rd (i:=11) [11,17,18,19,20,21,22] (blind_of fun _ _ _ h=>h.2) rfl rfl rfl (u_load ti3 (et (k100 (k80 d5))) ((f428 _ hS.a).one d0)) (q100 (q80 p6)) ?_
                  refine sf_pu (i:=12) [12,13,14,17,18,19,20,21,22] (blind_of fun _ _ _ h=>h.2) rfl rfl rfl (u_move (et (k10 d4))) (q100 (q80 p7)) ?_
                  replace h:=bI h; obtain ⟨x430,g431,h⟩:=h
                  obtain ⟨b432,o433,cs434,e435,f436,m437⟩:=SlR.elem m411 g431
                  obtain rfl:=m437
                  refine sf_pu (i:=13) [13,14,17,18,19,20,21,22] (blind_of fun _ _ _ h=>h.2) rfl rfl rfl (u_iax Tryd.underlying43 ti3 (et (k100 (k80 d7))) ec e435) (q100 (q80 p8)) ?_
                  refine sf_rd (i:=14) [14,17,18,19,20,21,22] (blind_of fun _ _ _ h=>h.2) rfl rfl rfl (u_load ti3 (et (k100 (k80 d8))) ((f436 _ hS.a).one d0)) (q100 (q80 p9)) ?_
                  refine sf_pu (i:=15) [15,16,17,18,19,20,21,22] (blind_of fun _ _ _ h=>h.2) rfl rfl rfl (u_move (et (k10 d4))) (q100 (q90 p0)) ?_
                  replace h:=bI h; obtain ⟨l438,g439,h⟩:=h
                  obtain ⟨a440,c441,e442,m443⟩:=Sl.slc (i:=some 3) (j:=none) m411 g439
                  refine sf_pu (i:=16) [16,17,18,19,20,21,22] (blind_of fun _ _ _ h=>h.2) rfl rfl rfl (u_slc Tryd.underlying43 ti3 (et (k100 (k90 d0))) (.s ec) .n e442) (q100 (q90 p1)) ?_
                  refine sf_pu (i:=17) [17,18,19,20,21,22] (blind_of fun _ _ _ h=>h.2) rfl rfl rfl (u_build ti55 pl55 (Fl.o rfl (et (k100 (k80 d0))) rfl rfl p0 (Fl.o rfl (et (k100 (k80 d3))) rfl rfl p1 (Fl.o rfl (et (k100 (k80 d6))) rfl rfl p3 (Fl.o rfl (et (k100 (k80 d9))) rfl rfl p4 (Fl.o rfl (et (k100 (k90 d1))) rfl rfl p2 Fl.z)))))) (q100 (q90 p2)) ?_
                  refine sf1 rfl rfl rfl rfl (wn0 rfl) (s_bsl1 Tryd.underlying23 ti55 rfl (et (k100 (k90 d2))) rfl hS ?_); clear hS; intro b444 w36 hb445 hS; refine pu (dt (q100 (q90 p3))) ?_
                  refine ⟨(Mons.s (u_load ti23 (et (k100 (k70 d8))) ((hS.blk d1).cell d1)) Mons.z),?_⟩
                  replace hS:=hS.bg (Bg.s (Bg.s (Bg.s (Bg.s Bg.z))))
                  obtain ⟨μ19,le447,m446,hq_⟩:=Sep.frzCode hS (m11.up (le24.t (le251.t (le307.t (le342.t (le401.t le412)))))); clear hS; have hS:=hq_; clear hq_
                  replace h:=bI h; obtain ⟨l450,g451,h⟩:=h
                  have m452:Rw μ19 [.int .i64 ((mget (mput (mput (mput ([]:List (List UInt8×Int)) [102,110] 2) [103,101,110] 3) [116,97,115,107] 4) x389).getD 0),.int .i64 x414,.slice a440 l438.length c441,.int .i64 x422,.int .i64 x430,.slice none 0 0] [(TUnit.mk ((mget (mput (mput (mput ([]:List (List UInt8×Int)) [102,110] 2) [103,101,110] 3) [116,97,115,107] 4) x389).getD 0) x414 l438 x422 x430 ([]:List TInstr))]:=(Rw.one (α:=TUnit) (TUnit.i ⟨a440,c441,none,0,rfl,(m443.up le447),Sl.nil⟩))
                  have m449:=Rw.app m446 m452 g451
                  refine sf1 rfl rfl rfl rfl (wn0 rfl) (s_app1 Tryd.underlying23 ti55 rfl (et (k100 (k70 d9))) (et (k100 (k90 d3))) hS d3 (hS.blk d0).cells m452 rfl g451 (by decide) ?_); clear hS; intro v448 w37 rs_ hp_ hS; cases (show _=rs_ from hp_)
                  replace hS:=Sep.reput hS p3; refine pu (dt (q100 (q90 p4))) ?_
                  replace hS:=hS.drop Rm.z
                  have m453:=Ru.push (α:=TUnit) (β:=TInstr) (x:=(TUnit.mk ((mget (mput (mput (mput ([]:List (List UInt8×Int)) [102,110] 2) [103,101,110] 3) [116,97,115,107] 4) x389).getD 0) x414 l438 x422 x430 ([]:List TInstr))) (lc:=[.int .i64 ((mget (mput (mput (mput ([]:List (List UInt8×Int)) [102,110] 2) [103,101,110] 3) [116,97,115,107] 4) x389).getD 0),.int .i64 x414,.slice a440 l438.length c441,.int .i64 x422,.int .i64 x430]) m446 ⟨a440,c441,rfl,(m443.up le447)⟩ rfl g451
                  replace hS:=hS.nilRow 59 (Mo.sz TInstr)
                  replace hS:Sq μ19 w0 w37 (.row (.slice none 0 0) 59 3 (lcode (β:=TInstr) l450).length ([]:List Value)::.blk b1 25 [v3,v7]::.row v3 52 2 boxe_2.length cs4::.row v448 55 6 l450.length (cs8++[.int .i64 ((mget (mput (mput (mput ([]:List (List UInt8×Int)) [102,110] 2) [103,101,110] 3) [116,97,115,107] 4) x389).getD 0),.int .i64 x414,.slice a440 l438.length c441,.int .i64 x422,.int .i64 x430,.slice none 0 0])::rsF):=by rw [lcode_push (α:=TUnit) (β:=TInstr) (x:=(TUnit.mk ((mget (mput (mput (mput ([]:List (List UInt8×Int)) [102,110] 2) [103,101,110] 3) [116,97,115,107] 4) x389).getD 0) x414 l438 x422 x430 ([]:List TInstr))) rfl g451]; exact hS
                  refine ⟨Mons.z,?_⟩
                  refine sf_pu (i:=20) [20,21,22] (blind_of fun _ _ _ h=>h.2) rfl rfl rfl (u_nilck (et (k100 (k70 d5)))) (q100 (q90 p5)) ?_
                  refine sf_pu (i:=21) [21,22] (blind_of fun _ _ _ h=>h.2) rfl rfl rfl (u_fa fa25_1 (et (k100 (k90 d5))) rfl) (q100 (q90 p6)) ?_
                  refine sf1 rfl rfl rfl rfl (wn0 rfl) (s_store1 ti23 (et (k100 (k90 d6))) (et (k100 (k90 d4))) (hS.get d3).cellV hS d1 p1 rfl p1 dn ?_)
                  clear hS; intro w38 hS
                  refine ⟨Mons.z,?_⟩
                  refine sf_nil ?_
                  refine xl ?_
                  replace hS:=hS.bg (Bg.s (Bg.s (Bg.s Bg.z)))
                  replace hS:=hS.bg (Bg.s (Bg.s (Bg.s Bg.z)))
                  replace hS:=hS.bg (Bg.s (Bg.s (Bg.s Bg.z)))
                  exact ⟨_,_,rfl,(aK50 (aK50 (aK50 (aK20 (aK5 (aO20 (aO2 aZ))))))),_,l450,v448,(cs8++[.int .i64 ((mget (mput (mput (mput ([]:List (List UInt8×Int)) [102,110] 2) [103,101,110] 3) [116,97,115,107] 4) x389).getD 0),.int .i64 x414,.slice a440 l438.length c441,.int .i64 x422,.int .i64 x430,.slice none 0 0]),(.slice none 0 0),([]:List Value),rfl,h,(le412.t le447),hS,m453⟩
                · rintro _ t w39 ⟨μ20,l407,v405,cs406,v403,cs404,rfl,h,le454,hS,m455⟩
                  unfold r13_line_j10 at h
                  refine nrm (mK50 (mK50 (mK50 (mK20 (mK5 (mO20 (mO2 mz))))))) ?_
                  refine xn ?_
                  refine cseq ?_
                  refine creg ?_
                  refine wl (s_assign ec (dt p4) ?_)
                  refine wnil ?_
                  refine xn ?_
                  refine cret ?_
                  obtain rfl:=oI h
                  refine ret1 rfl d4 ?_
                  exact ⟨_,v3,cs4,v405,cs406,v403,cs404,rfl,(le24.t (le251.t (le307.t (le342.t (le401.t le454))))),hS,(m5.up (le24.t (le251.t (le307.t (le342.t (le401.t le454)))))),m455⟩
theorem r13_read_w {fu:Nat} {μ0:M} {w0 w:World} {rsF:List Res} (hg:Le Gm μ0) {p_1:List UInt8} {r:TModule×TFault}  (h:r13_read fu p_1=some r) (hS:Sq μ0 w0 w (rsF)):CallsV Tryd.prog 8 [S p_1] w (fun v w'=>∃ (μ':M) (a1:Option Addr) (c2:Nat) (a4:Option Addr) (c5:Nat),v=.tuple ⟨[.agg ⟨[.slice a1 r.1.Boxes.length c2,.slice a4 r.1.Units.length c5]⟩,.agg ⟨[.int .i64 r.2.Err,.int .i64 r.2.At]⟩]⟩∧Le μ0 μ'∧Sq μ' w0 w' (rsF)∧Sl μ' a1 c2 r.1.Boxes∧Sl μ' a4 c5 r.1.Units):=by
  unfold r13_read at h
  refine enter Tryd.func8 rfl (frm:=[_,_,_,_,_,_,_,_,_,_,_,_,_,_,_,_,_,_,_,_,_,_,_,_,_,_,_,_,_,_,_,_,_,_,_,_,_,_,_,_,_,_,_,_,_]) rfl ?_
  refine cseq ?_
  refine creg ?_
  refine wl (s_alloc ti25 hS ?_); clear hS; intro b7 w1 hb8 hS; refine pu (dt p2) ?_
  refine wl (s_alloc ti32 hS ?_); clear hS; intro b9 w2 hb10 hS; refine pu (dt p3) ?_
  refine wnil ?_
  refine xn ?_
  refine cseq ?_
  refine cseq ?_
  refine creg ?_
  refine wl (s_move (et d0) (dt p8) ?_)
  refine wl (s_lens Tryd.underlying9 (et d8) (dt p9) ?_)
  refine wl (s_gtr (et d9) ec (dt (q10 p0)) ?_)
  refine wnil ?_
  refine xn ?_
  refine cifd (et (k10 d0)) (fun h11=>?_) (fun h11=>?_)
  · replace h:=iT h11 h
    refine cseq ?_
    refine creg ?_
    refine wl (s_build ti25 pl25 Fl.z (dt (q10 p1)) ?_)
    refine wl (s_build ti32 pl32 (Fl.o rfl ec rfl rfl p0 Fl.z) (dt (q10 p2)) ?_)
    refine wl (s_storeA ti25 (et d2) (et (k10 d1)) rfl rfl hS d1 rfl p1 dn ?_)
    clear hS; intro w3 hS
    refine wl (s_storeA ti32 (et d3) (et (k10 d2)) rfl rfl hS d0 rfl p0 dn ?_)
    clear hS; intro w4 hS
    refine wnil ?_
    refine xn ?_
    refine cret ?_
    refine xr ?_
    obtain rfl:=oI h
    refine retN rfl (RVs.s (.a d2 ti25 (hS.blk d1).cells rfl) (RVs.s (.a d3 ti32 (hS.blk d0).cells rfl) RVs.z)) ?_
    replace hS:=hS.drop Rm.z
    replace hS:=hS.drop Rm.z
    exact ⟨_,none,0,none,0,rfl,Le.r,hS,Sl.nil,Sl.nil⟩
  · replace h:=iF h11 h
    refine cskip ?_
    refine xn ?_
    refine cseq ?_
    refine creg ?_
    refine wl (s_alloc ti25 hS ?_); clear hS; intro b12 w5 hb13 hS; refine pu (dt p4) ?_
    refine wnil ?_
    refine xn ?_
    refine cseq ?_
    refine creg ?_
    refine wl (s_assign ec (dt p5) ?_)
    refine wl (s_assign ec (dt p6) ?_)
    refine wnil ?_
    refine xn ?_
    refine cseq ?_
    refine cseq ?_
    refine creg ?_
    refine wl (s_assign ec (dt p7) ?_)
    refine wnil ?_
    refine xn ?_
    refine cblock ?_
    replace hS:=(hS.nilRow 59 (Mo.sz TInstr)).nilRow 55 (Mo.sz TUnit)
    replace hS:=hS.nilRow 52 (Mo.sz TBi)
    replace hS:=hS.bg (Bg.s (Bg.s Bg.z))
    replace hS:=hS.bg (Bg.s (Bg.s Bg.z))
    replace hS:=hS.bg (Bg.s (Bg.s (Bg.s Bg.z)))
    replace hS:=hS.bg (Bg.s (Bg.s (Bg.s (Bg.s Bg.z))))
    replace hS:=hS.bg (Bg.s (Bg.s (Bg.s (Bg.s (Bg.s Bg.z)))))
    refine cloopE (rg 13 23) (by decide +kernel) (fun n m w=>∃ (μx:M) (i49:Int) (i50:Int) (i51:Int) (l56:List TUnit) (v54:Value) (cs55:List Value) (v52:Value) (cs53:List Value) (l60:List TBi) (v58:Value) (cs59:List Value),m=(yK5 (.i (.int .i64 i49)::(.i (.int .i64 i50)::(.i (.int .i64 i51)::(yK5 (yO20 13 (yO3 33 [])))))))∧r13_read_l1 fu p_1 n i49 i50 i51 l56 l60=some r∧Le μ0 μx∧Sq μx w0 w (.blk b7 25 [.slice none 0 0,.slice none 0 0]::.blk b9 32 [.int .i64 0,.int .i64 0]::.blk b12 25 [v58,v54]::.row v54 55 6 l56.length cs55::.row v52 59 3 (lcode (β:=TInstr) l56).length cs53::.row v58 52 2 l60.length cs59::rsF)∧Ru (β:=TInstr) μx cs55 v52 cs53 l56∧Rw μx cs59 l60) (by rintro _ _ _ ⟨_,_,_,_,_,_,_,_,_,_,_,_,rfl,_⟩; rfl) _ _ (aK5 (aI (aI (aI (aK5 (aO20 (aO3 aZ))))))) ⟨_,0,0,0,([]:List TUnit),(.slice none 0 0),([]:List Value),(.slice none 0 0),([]:List Value),[],(.slice none 0 0),[],rfl,h,Le.r,hS,(Ru.nil (α:=TUnit) (β:=TInstr) (μ:=μ0)),Rw.nil⟩ ?_
    rintro n_1 _ t w6 ⟨μ1,i49,i50,i51,l56,v54,cs55,v52,cs53,l60,v58,cs59,rfl,h,le95,hS,m96,m97⟩
    cases n_1 with
    | zero=>cases h
    | succ n_1 =>
    unfold r13_read_l1 at h
    refine cnrm (mK5 (mi (mi (mi (mK5 (mO20 (mO3 mz))))))) ?_
    refine cseq ?_
    refine cseq ?_
    refine creg ?_
    refine wl (s_move (et d7) (dt (q10 p3)) ?_)
    refine wl (s_move (et d0) (dt (q10 p4)) ?_)
    refine wl (s_lens Tryd.underlying9 (et (k10 d4)) (dt (q10 p5)) ?_)
    refine wl (s_lss (et (k10 d3)) (et (k10 d5)) (dt (q10 p6)) ?_)
    refine wnil ?_
    refine xn ?_
    refine cifd (et (k10 d6)) (fun h98=>?_) (fun h98=>?_)
    · replace h:=iT h98 h
      refine cskip ?_
      refine xn ?_
      refine cseq ?_
      refine cblock ?_
      refine cseq ?_
      refine cseq ?_
      refine creg ?_
      refine wl (s_move (et d0) (dt (q10 p9)) ?_)
      refine wl (s_move (et d7) (dt (q20 p0)) ?_)
      replace h:=bI h; obtain ⟨u99,g100,h⟩:=h
      refine wl (s_idxc Tryd.underlying9 (et (k10 d9)) (et (k20 d0)) g100 (dt (q20 p1)) ?_)
      refine wl (s_nei (et (k20 d1)) ec (dt (q20 p2)) ?_)
      refine wnil ?_
      refine xn ?_
      refine cifd (et (k20 d2)) (fun h101=>?_) (fun h101=>?_)
      · replace h:=iT h101 h
        refine cexit ?_
        refine (fun h=>xe (bh h)) ?_
        refine xn ?_
        refine creg ?_
        refine wl (s_move (et d7) (dt (q10 p7)) ?_)
        replace h:=bI h; obtain ⟨i102,g103,h⟩:=h
        refine wl (s_addc (et (k10 d7)) ec g103 (dt (q10 p8)) ?_)
        refine wl (s_assign (et (k10 d8)) (dt p7) ?_)
        refine wnil ?_
        refine xl ?_
        exact ⟨n_1,_,_,rfl,(aK5 (aI (aI (aI (aK5 (aO20 (aO3 aZ))))))),⟨_,i49,i50,i102,l56,v54,cs55,v52,cs53,l60,v58,cs59,rfl,h,le95,hS,m96,m97⟩,Nat.lt_succ_self _⟩
      · replace h:=iF h101 h
        refine cskip ?_
        refine xn ?_
        refine cseq ?_
        refine cseq ?_
        refine creg ?_
        refine wl (s_move (et d0) (dt (q20 p3)) ?_)
        refine wl (s_move (et d5) (dt (q20 p4)) ?_)
        refine wl (s_move (et d7) (dt (q20 p5)) ?_)
        replace h:=bI h; obtain ⟨s104,g105,h⟩:=h
        refine wl (s_cut2c Tryd.underlying9 (et (k20 d3)) (et (k20 d4)) (et (k20 d5)) g105 (dt (q20 p6)) ?_)
        replace h:=bI h; obtain ⟨r106,g107,h⟩:=h
        replace hS:=hS.bg (Bg.s (Bg.s (Bg.s (Bg.s Bg.z))))
        replace hS:=hS.bg (Bg.s (Bg.s (Bg.s (Bg.s Bg.z))))
        replace hS:=hS.bg (Bg.s (Bg.s (Bg.s (Bg.s (Bg.s Bg.z)))))
        replace hS:=hS.bg (Bg.s (Bg.s (Bg.s (Bg.s (Bg.s Bg.z)))))
        refine wl (s_callv isfn28 ef (e1 (et d4) (e1 (et (k20 d6)) e0)) (r13_line_w (hg.t le95) m97 m96 g107 hS) ?_)
        rintro _ w7 ⟨μ2,v109,cs110,v112,cs113,v114,cs115,rfl,le108,hS,m111,m116⟩
        refine pu (dt (q20 p7)) ?_
        refine wl (s_not (et (k20 d7)) (dt (q20 p8)) ?_)
        refine wnil ?_
        refine xn ?_
        refine cifnb (et (k20 d8)) (fun h117=>?_) (fun h117=>?_)
        · replace h:=iF h117 h
          refine cseq ?_
          refine creg ?_
          refine wl (s_build ti25 pl25 Fl.z (dt (q20 p9)) ?_)
          refine wl (s_move (et d6) (dt (q30 p0)) ?_)
          refine wl (s_build ti32 pl32 (Fl.o rfl ec rfl rfl p0 (Fl.o rfl (et (k30 d0)) rfl rfl p1 Fl.z)) (dt (q30 p1)) ?_)
          refine wl (s_storeA ti25 (et d2) (et (k20 d9)) rfl rfl hS d4 rfl p4 dn ?_)
          clear hS; intro w8 hS
          refine wl (s_storeA ti32 (et d3) (et (k30 d1)) rfl rfl hS d5 rfl p5 dn ?_)
          clear hS; intro w9 hS
          refine wnil ?_
          refine xn ?_
          refine cret ?_
          refine (fun h=>xr (br (xr (xr (br (xr h)))))) ?_
          obtain rfl:=oI h
          refine retN rfl (RVs.s (.a d2 ti25 (hS.blk d4).cells rfl) (RVs.s (.a d3 ti32 (hS.blk d5).cells rfl) RVs.z)) ?_
          replace hS:=hS.drop Rm.z
          replace hS:=hS.drop Rm.z
          replace hS:=hS.drop Rm.z
          replace hS:=hS.drop Rm.z
          replace hS:=hS.drop Rm.z
          replace hS:=hS.drop Rm.z
          exact ⟨_,none,0,none,0,rfl,(le95.t le108),hS,Sl.nil,Sl.nil⟩
        · replace h:=iT h117 h
          refine cskip ?_
          refine xn ?_
          refine cseq ?_
          refine creg ?_
          refine wl (s_move (et d7) (dt (q30 p2)) ?_)
          replace h:=bI h; obtain ⟨i118,g119,h⟩:=h
          refine wl (s_addc (et (k30 d2)) ec g119 (dt (q30 p3)) ?_)
          refine wl (s_assign (et (k30 d3)) (dt p5) ?_)
          refine wnil ?_
          refine xn ?_
          refine creg ?_
          refine wl (s_move (et d6) (dt (q30 p4)) ?_)
          replace h:=bI h; obtain ⟨i120,g121,h⟩:=h
          refine wl (s_addc (et (k30 d4)) ec g121 (dt (q30 p5)) ?_)
          refine wl (s_assign (et (k30 d5)) (dt p6) ?_)
          refine wnil ?_
          refine (fun h=>bn (xn h)) ?_
          refine creg ?_
          refine wl (s_move (et d7) (dt (q10 p7)) ?_)
          replace h:=bI h; obtain ⟨i122,g123,h⟩:=h
          refine wl (s_addc (et (k10 d7)) ec g123 (dt (q10 p8)) ?_)
          refine wl (s_assign (et (k10 d8)) (dt p7) ?_)
          refine wnil ?_
          refine xl ?_
          replace hS:=hS.bg (Bg.s Bg.z)
          replace hS:=hS.bg (Bg.s (Bg.s (Bg.s Bg.z)))
          replace hS:=hS.bg (Bg.s (Bg.s (Bg.s Bg.z)))
          replace hS:=hS.bg (Bg.s (Bg.s (Bg.s Bg.z)))
          replace hS:=hS.bg (Bg.s (Bg.s (Bg.s (Bg.s (Bg.s Bg.z)))))
          replace hS:=hS.bg (Bg.s (Bg.s (Bg.s (Bg.s (Bg.s Bg.z)))))
          exact ⟨n_1,_,_,rfl,(aK5 (aI (aI (aI (aK5 (aO20 (aO3 aZ))))))),⟨_,i118,i120,i122,r106.2.2,v112,cs113,v114,cs115,r106.2.1,v109,cs110,rfl,h,(le95.t le108),hS,m116,m111⟩,Nat.lt_succ_self _⟩
    · replace h:=iF h98 h
      refine cexit ?_
      refine (fun h=>xe (xe (bh h))) ?_
      refine xn ?_
      refine cseq ?_
      refine cseq ?_
      refine creg ?_
      refine wl (s_move (et d5) (dt (q30 p6)) ?_)
      refine wl (s_move (et d0) (dt (q30 p7)) ?_)
      refine wl (s_lens Tryd.underlying9 (et (k30 d7)) (dt (q30 p8)) ?_)
      refine wl (s_lss (et (k30 d6)) (et (k30 d8)) (dt (q30 p9)) ?_)
      refine wnil ?_
      refine xn ?_
      refine cifd (et (k30 d9)) (fun h124=>?_) (fun h124=>?_)
      · replace h:=iT h124 h
        refine cseq ?_
        refine creg ?_
        refine wl (s_build ti25 pl25 Fl.z (dt (q40 p0)) ?_)
        refine wl (s_move (et d6) (dt (q40 p1)) ?_)
        refine wl (s_build ti32 pl32 (Fl.o rfl ec rfl rfl p0 (Fl.o rfl (et (k40 d1)) rfl rfl p1 Fl.z)) (dt (q40 p2)) ?_)
        refine wl (s_storeA ti25 (et d2) (et (k40 d0)) rfl rfl hS d0 rfl p0 dn ?_)
        clear hS; intro w10 hS
        refine wl (s_storeA ti32 (et d3) (et (k40 d2)) rfl rfl hS d1 rfl p1 dn ?_)
        clear hS; intro w11 hS
        refine wnil ?_
        refine xn ?_
        refine cret ?_
        refine xr ?_
        obtain rfl:=oI h
        refine retN rfl (RVs.s (.a d2 ti25 (hS.blk d0).cells rfl) (RVs.s (.a d3 ti32 (hS.blk d1).cells rfl) RVs.z)) ?_
        replace hS:=hS.drop Rm.z
        replace hS:=hS.drop Rm.z
        replace hS:=hS.drop Rm.z
        replace hS:=hS.drop Rm.z
        replace hS:=hS.drop Rm.z
        replace hS:=hS.drop Rm.z
        exact ⟨_,none,0,none,0,rfl,le95,hS,Sl.nil,Sl.nil⟩
      · replace h:=iF h124 h
        refine cskip ?_
        refine xn ?_
        refine cseq ?_
        refine creg ?_
        refine wl (s_loads ti25 (et d4) (hS.blk d2).cells rfl (dt (q40 p3)) ?_)
        refine wl (s_build ti32 pl32 Fl.z (dt (q40 p4)) ?_)
        refine wl (s_storeA ti25 (et d2) (et (k40 d3)) rfl (cv_s ((hS.get d5).cellV) (cv_s ((hS.get d3).cellV) cv_z)) hS d0 rfl p0 dn ?_)
        clear hS; intro w12 hS
        refine wl (s_storeA ti32 (et d3) (et (k40 d4)) rfl rfl hS d1 rfl p1 dn ?_)
        clear hS; intro w13 hS
        refine wnil ?_
        refine xn ?_
        refine cret ?_
        replace hS:=hS.bg (Bg.s (Bg.s (Bg.s (Bg.s (Bg.s Bg.z)))))
        obtain ⟨μ3,a125,c126,e129,le128,m127,hq_⟩:=Sep.frzRow hS m97 rfl; clear hS
        subst e129; have hS:=hq_; clear hq_
        replace hS:=hS.bg (Bg.s (Bg.s (Bg.s (Bg.s Bg.z))))
        obtain ⟨μ4,le131,m130,hq_⟩:=Sep.frzCode hS (m96.up le128); clear hS; have hS:=hq_; clear hq_
        replace hS:=hS.bg (Bg.s (Bg.s (Bg.s Bg.z)))
        obtain ⟨μ5,a132,c133,e136,le135,m134,hq_⟩:=Sep.frzRow hS m130 rfl; clear hS
        subst e136; have hS:=hq_; clear hq_
        obtain rfl:=oI h
        refine retN rfl (RVs.s (.a d2 ti25 (hS.blk d0).cells rfl) (RVs.s (.a d3 ti32 (hS.blk d1).cells rfl) RVs.z)) ?_
        replace hS:=hS.drop Rm.z
        replace hS:=hS.drop Rm.z
        replace hS:=hS.drop Rm.z
        exact ⟨_,a125,c126,a132,c133,rfl,(le95.t (le128.t (le131.t le135))),hS,(m127.up (le131.t le135)),m134⟩
end Go.Proofs.YtnjpnifbgldmiaaDoor
set_option maxRecDepth 100000
set_option maxHeartbeats 20000000
namespace Go.Proofs.YtnjpnifbgldmiaaDoor
open Go.Wk Go.Xt Go.Y
theorem law_asmt_w {fu:Nat} {μ0:M} {w0 w:World} {rsF:List Res} (hg:Le Gm μ0) {p_1:TModule} {a1:Option Addr} {c2:Nat} {a4:Option Addr} {c5:Nat} {p_2:List UInt8} {r:Bool} (m3:Sl μ0 a1 c2 p_1.Boxes) (m6:Sl μ0 a4 c5 p_1.Units) (h:law_asmt fu p_1 p_2=some r) (hS:Sq μ0 w0 w (rsF)):CallsV Tryd.prog 3 [.agg ⟨[.slice a1 p_1.Boxes.length c2,.slice a4 p_1.Units.length c5]⟩,S p_2] w (fun v w'=>∃ (μ':M) ,v=.bool r∧Le μ0 μ'∧Sq μ' w0 w' (rsF)):=by
  unfold law_asmt at h
  refine enter Tryd.func3 rfl (frm:=[_,_,_,_,_,_,_,_,_,_,_,_,_,_,_,_,_,_,_,_,_,_,_,_,_,_,_,_,_,_,_,_,_,_,_,_,_,_,_,_,_,_,_,_,_,_,_,_,_]) rfl ?_
  refine cseq ?_
  refine creg ?_
  refine wl (s_box (et d0) rfl hS ?_); clear hS; intro b7 w1 hb8 hS; refine pu (dt p2) ?_
  refine wl (s_assign ec (dt p4) ?_)
  refine wnil ?_
  refine xn ?_
  refine cseq ?_
  refine creg ?_
  refine wl (s_loads ti25 (et d2) (hS.blk d0).cells rfl (dt (q10 p4)) ?_)
  replace h:=bI h; obtain ⟨r9,g10,h⟩:=h
  refine wl (s_callv isfn5 ef (e1 (et (k10 d4)) e0) (asm_print_w hg m3 m6 g10 hS) ?_)
  rintro _ w2 ⟨μ1,rfl,le11,hS⟩
  refine pu (dt (q10 p5)) ?_
  refine wl (s_move (et (k10 d5)) (dt (q10 p3)) ?_)
  refine wl (s_extr (et (k10 d3)) d0 (dt (q10 p6)) ?_)
  refine wl (s_extr (et (k10 d3)) d1 (dt (q10 p7)) ?_)
  refine wl (s_alloc ti28 hS ?_); clear hS; intro b12 w3 hb13 hS; refine pu (dt p6) ?_
  refine wl (s_assign (et (k10 d6)) (dt p5) ?_)
  refine wl (s_storeA ti28 (et d6) (et (k10 d7)) rfl rfl hS d0 rfl p0 dn ?_)
  clear hS; intro w4 hS
  refine wnil ?_
  refine xn ?_
  refine cseq ?_
  refine creg ?_
  refine wl (s_loads ti25 (et d2) (hS.blk d1).cells rfl (dt (q10 p9)) ?_)
  replace h:=bI h; obtain ⟨r14,g15,h⟩:=h
  refine wl (s_callv isfn6 ef (e1 (et (k10 d9)) e0) (r13_print_w (hg.t le11) (m3.up le11) (m6.up le11) g15 hS) ?_)
  rintro _ w5 ⟨μ2,rfl,le16,hS⟩
  refine pu (dt (q20 p0)) ?_
  refine wl (s_move (et (k20 d0)) (dt (q10 p8)) ?_)
  refine wl (s_extr (et (k10 d8)) d0 (dt (q20 p1)) ?_)
  refine wl (s_extr (et (k10 d8)) d1 (dt (q20 p2)) ?_)
  refine wl (s_alloc ti28 hS ?_); clear hS; intro b17 w6 hb18 hS; refine pu (dt p8) ?_
  refine wl (s_assign (et (k20 d1)) (dt p7) ?_)
  refine wl (s_storeA ti28 (et d8) (et (k20 d2)) rfl rfl hS d0 rfl p0 dn ?_)
  clear hS; intro w7 hS
  refine wnil ?_
  refine xn ?_
  refine cseq ?_
  refine cseq ?_
  refine ccutE (rg 23 7) (by decide) (fun m w=>∃ (μx:M) (b19:Bool),m=(yK20 (yK3 (yO7 23 (.i (.bool b19)::[]))))∧law_asmt_j1 fu p_2 b19=some r∧Le μ2 μx∧Sq μx w0 w (rsF)) (by rintro _ _ ⟨_,_,rfl,_⟩; rfl) ?_ ?_
  · refine creg ?_
    refine wl (s_move (et d5) (dt (q20 p3)) ?_)
    refine wl (s_move (et d7) (dt (q20 p4)) ?_)
    refine wl (s_nes (et (k20 d3)) (et (k20 d4)) (dt (q20 p5)) ?_)
    refine wl (s_move (et (k20 d5)) (dt (q20 p6)) ?_)
    refine wspd (k20 d6) (q20 p6) (q20 p6) (fun h20=>?_) (fun h20=>?_)
    · replace h:=iT h20 h
      refine wn rfl (k20 d6) rfl (dt (q20 p7)) ?_
      refine wn rfl (k20 d6) rfl (dt (q20 p8)) ?_
      refine wn rfl (k20 d6) rfl (dt (q20 p9)) ?_
      refine wl (s_pickt (et (k20 d6)) ec (dt (q30 p0)) ?_)
      refine wnil ?_
      refine xl ?_
      replace hS:=hS.drop Rm.z
      replace hS:=hS.drop Rm.z
      replace hS:=hS.drop Rm.z
      exact ⟨_,_,rfl,(aK20 (aK3 (aO7 (aI aZ)))),_,true,rfl,h,Le.r,hS⟩
    · replace h:=iF h20 h
      refine wy rfl (k20 d6) (s_loads ti28 (et d6) (hS.blk d1).cells rfl (dt (q20 p7)) ?_)
      refine wy rfl (k20 d6) (s_loads ti28 (et d8) (hS.blk d0).cells rfl (dt (q20 p8)) ?_)
      refine wy rfl (k20 d6) (s_nea (ES.mk Tryd.underlying28 eh28 eg28) (et (k20 d7)) (et (k20 d8)) (EqFs.o rfl rfl rfl ti26 d0 d0 (eq_int Tryd.underlying26) (EqFs.o rfl rfl rfl ti3 d1 d1 (eq_int Tryd.underlying3) (EqFs.o rfl rfl rfl ti3 d2 d2 (eq_int Tryd.underlying3) EqFs.z))) rfl (dt (q20 p9)) ?_)
      refine wl (s_pickf (et (k20 d6)) (et (k20 d9)) (dt (q30 p0)) ?_)
      refine wnil ?_
      refine xl ?_
      replace hS:=hS.drop Rm.z
      replace hS:=hS.drop Rm.z
      replace hS:=hS.drop Rm.z
      exact ⟨_,_,rfl,(aK20 (aK3 (aO7 (aI aZ)))),_,(!(andL [(decide (r9.2.Err=r14.2.Err)),(decide (r9.2.Unit=r14.2.Unit)),(decide (r9.2.At=r14.2.At))])),rfl,h,Le.r,hS⟩
  · rintro _ t w8 ⟨μ3,b19,rfl,h,le21,hS⟩
    unfold law_asmt_j1 at h
    refine nrm (mK20 (mK3 (mO7 (mi mz)))) ?_
    refine xn ?_
    refine cifb (et (k30 d0)) (fun h22=>?_) (fun h22=>?_)
    · replace h:=iT h22 h
      refine cseq ?_
      refine creg ?_
      refine wl (s_assign ec (dt p4) ?_)
      refine wnil ?_
      refine xn ?_
      refine cret ?_
      refine xr ?_
      obtain rfl:=oI h
      refine ret1 rfl d4 ?_
      exact ⟨_,rfl,(le11.t (le16.t le21)),hS⟩
    · replace h:=iF h22 h
      refine cskip ?_
      refine xn ?_
      refine cseq ?_
      refine creg ?_
      refine wl (s_move (et d1) (dt (q30 p2)) ?_)
      replace h:=bI h; obtain ⟨r23,g24,h⟩:=h
      refine wl (s_callv isfn7 ef (e1 (et (k30 d2)) e0) (asm_read_w (hg.t (le11.t (le16.t le21))) g24 hS) ?_)
      rintro _ w9 ⟨μ4,a26,c27,a29,c30,rfl,le25,hS,m28,m31⟩
      refine pu (dt (q30 p3)) ?_
      refine wl (s_move (et (k30 d3)) (dt (q30 p1)) ?_)
      refine wl (s_extr (et (k30 d1)) d0 (dt (q30 p4)) ?_)
      refine wl (s_extr (et (k30 d1)) d1 (dt (q30 p5)) ?_)
      refine wl (s_alloc ti25 hS ?_); clear hS; intro b32 w10 hb33 hS; refine pu (dt p9) ?_
      refine wl (s_alloc ti32 hS ?_); clear hS; intro b34 w11 hb35 hS; refine pu (dt (q10 p0)) ?_
      refine wl (s_storeA ti25 (et d9) (et (k30 d4)) rfl rfl hS d1 rfl p1 dn ?_)
      clear hS; intro w12 hS
      refine wl (s_storeA ti32 (et (k10 d0)) (et (k30 d5)) rfl rfl hS d0 rfl p0 dn ?_)
      clear hS; intro w13 hS
      refine wnil ?_
      refine xn ?_
      refine cseq ?_
      refine creg ?_
      refine wl (s_move (et d1) (dt (q30 p7)) ?_)
      replace h:=bI h; obtain ⟨r36,g37,h⟩:=h
      refine wl (s_callv isfn8 ef (e1 (et (k30 d7)) e0) (r13_read_w (hg.t (le11.t (le16.t (le21.t le25)))) g37 hS) ?_)
      rintro _ w14 ⟨μ5,a39,c40,a42,c43,rfl,le38,hS,m41,m44⟩
      refine pu (dt (q30 p8)) ?_
      refine wl (s_move (et (k30 d8)) (dt (q30 p6)) ?_)
      refine wl (s_extr (et (k30 d6)) d0 (dt (q30 p9)) ?_)
      refine wl (s_extr (et (k30 d6)) d1 (dt (q40 p0)) ?_)
      refine wl (s_alloc ti25 hS ?_); clear hS; intro b45 w15 hb46 hS; refine pu (dt (q10 p1)) ?_
      refine wl (s_alloc ti32 hS ?_); clear hS; intro b47 w16 hb48 hS; refine pu (dt (q10 p2)) ?_
      refine wl (s_storeA ti25 (et (k10 d1)) (et (k30 d9)) rfl rfl hS d1 rfl p1 dn ?_)
      clear hS; intro w17 hS
      refine wl (s_storeA ti32 (et (k10 d2)) (et (k40 d0)) rfl rfl hS d0 rfl p0 dn ?_)
      clear hS; intro w18 hS
      refine wnil ?_
      refine xn ?_
      refine cseq ?_
      refine creg ?_
      refine wl (s_loads ti32 (et (k10 d0)) (hS.blk d2).cells rfl (dt (q40 p1)) ?_)
      refine wl (s_loads ti32 (et (k10 d2)) (hS.blk d0).cells rfl (dt (q40 p2)) ?_)
      refine wl (s_eqa (ES.mk Tryd.underlying32 eh32 eg32) (et (k40 d1)) (et (k40 d2)) (EqFs.o rfl rfl rfl ti26 d0 d0 (eq_int Tryd.underlying26) (EqFs.o rfl rfl rfl ti3 d1 d1 (eq_int Tryd.underlying3) EqFs.z)) rfl (dt (q40 p3)) ?_)
      refine wl (s_move (et (k40 d3)) (dt (q40 p4)) ?_)
      refine wspb (k40 d4) (q40 p4) (q40 p4) (fun h49=>?_) (fun h49=>?_)
      · replace h:=iT h49 h
        refine wy rfl (k40 d4) (s_loads ti25 (et d9) (hS.blk d3).cells rfl (dt (q40 p5)) ?_)
        refine wy rfl (k40 d4) (s_loads ti25 (et (k10 d1)) (hS.blk d1).cells rfl (dt (q40 p6)) ?_)
        replace h:=bI h; obtain ⟨r50,g51,h⟩:=h
        refine wy rfl (k40 d4) (s_callv isfn9 ef (e1 (et (k40 d5)) (e1 (et (k40 d6)) e0)) (r6_same_w (hg.t (le11.t (le16.t (le21.t (le25.t le38))))) (m28.up le38) (m31.up le38) m41 m44 g51 hS) ?_)
        rintro _ w19 ⟨μ6,rfl,le52,hS⟩
        refine pu (dt (q40 p7)) ?_
        refine wl (s_pickt (et (k40 d4)) (et (k40 d7)) (dt (q40 p8)) ?_)
        refine wl (s_assign (et (k40 d8)) (dt p4) ?_)
        refine wnil ?_
        refine xn ?_
        refine cret ?_
        obtain rfl:=oI h
        refine ret1 rfl d4 ?_
        replace hS:=hS.drop Rm.z
        replace hS:=hS.drop Rm.z
        replace hS:=hS.drop Rm.z
        replace hS:=hS.drop Rm.z
        exact ⟨_,rfl,(le11.t (le16.t (le21.t (le25.t (le38.t le52))))),hS⟩
      · replace h:=iF h49 h
        refine wn rfl (k40 d4) rfl (dt (q40 p5)) ?_
        refine wn rfl (k40 d4) rfl (dt (q40 p6)) ?_
        refine wn rfl (k40 d4) rfl (dt (q40 p7)) ?_
        refine wl (s_pickf (et (k40 d4)) ec (dt (q40 p8)) ?_)
        refine wl (s_assign (et (k40 d8)) (dt p4) ?_)
        refine wnil ?_
        refine xn ?_
        refine cret ?_
        obtain rfl:=oI h
        refine ret1 rfl d4 ?_
        replace hS:=hS.drop Rm.z
        replace hS:=hS.drop Rm.z
        replace hS:=hS.drop Rm.z
        replace hS:=hS.drop Rm.z
        exact ⟨_,rfl,(le11.t (le16.t (le21.t (le25.t le38)))),hS⟩
end Go.Proofs.YtnjpnifbgldmiaaDoor
