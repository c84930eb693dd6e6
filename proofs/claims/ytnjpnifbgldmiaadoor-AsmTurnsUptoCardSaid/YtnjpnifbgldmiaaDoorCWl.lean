/- Texts of AsmTurns Wl. -/
import Derived.Test.YtnjpnifbgldmiaaDoorCMd
import Derived.Test.YtnjpnifbgldmiaaDoorCWa
import Derived.Test.YtnjpnifbgldmiaaDoorCWb
set_option linter.unusedSimpArgs false
set_option linter.unusedVariables false
set_option linter.unusedSectionVars false
set_option maxRecDepth 100000
set_option maxHeartbeats 20000000
namespace Go.Proofs.YtnjpnifbgldmiaaDoor
open Go.Wk Go.Xt Go.Y
theorem r13_word_w {μ0:M} {w0 w:World} {rsF:List Res} (hg:Le Gm μ0) {p_1:Int} {r:List UInt8×Int}  (h:r13_word p_1=some r) (hS:Sq μ0 w0 w (rsF)):CallsV Tryd.prog 23 [.int .i64 p_1] w (fun v w'=>∃ (μ':M) ,v=.tuple ⟨[S r.1,.int .i64 r.2]⟩∧Le μ0 μ'∧Sq μ' w0 w' (rsF)):=by
  unfold r13_word at h
  refine enter Tryd.func23 rfl (frm:=[_,_,_,_,_,_,_,_,_,_,_,_,_,_,_,_,_,_,_,_,_,_,_,_,_,_,_,_,_,_,_,_,_,_,_]) rfl ?_
  refine cseq ?_
  refine creg ?_
  refine wl (s_assign ec (dt p2) ?_)
  refine wl (s_assign ec (dt p3) ?_)
  refine wnil ?_
  refine xn ?_
  refine cseq ?_
  refine creg ?_
  refine wl (s_bsl Tryd.underlying56 ti9 (Parts.s ec rfl (Parts.s ec rfl (Parts.s ec rfl (Parts.s ec rfl (Parts.s ec rfl (Parts.s ec rfl (Parts.s ec rfl (Parts.s ec rfl (Parts.s ec rfl (Parts.s ec rfl (Parts.s ec rfl (Parts.s ec rfl (Parts.s ec rfl (Parts.s ec rfl (Parts.s ec rfl (Parts.s ec rfl (Parts.s ec rfl (Parts.s ec rfl (Parts.s ec rfl (Parts.s ec rfl (Parts.s ec rfl (Parts.s ec rfl (Parts.s ec rfl (Parts.s ec rfl (Parts.s ec rfl (Parts.s ec rfl (Parts.s ec rfl (Parts.s ec rfl (Parts.s ec rfl (Parts.s ec rfl (Parts.s ec rfl (Parts.s ec rfl Parts.z)))))))))))))))))))))))))))))))) rfl rfl hS ?_); clear hS; intro b1 w1 hb2 hS; refine pu (dt p8) ?_
  refine wl (s_assign (et d8) (dt p4) ?_)
  refine wnil ?_
  refine xn ?_
  refine cseq ?_
  refine cseq ?_
  refine ccutE (rg 9 7) (by decide) (fun m w=>∃ (μx:M) (b3:Bool),m=(yK9 (yO7 9 (.i (.bool b3)::[])))∧r13_word_j1 p_1 b3=some r∧Le μ0 μx∧Sq μx w0 w (.blk b1 9 [S [112,117,115,104],S [116,114,117,116,104],S [108,111,97,100],S [115,116,111,114,101],S [100,114,111,112],S [110,101,103],S [110,111,116],S [97,100,100],S [115,117,98],S [109,117,108],S [100,105,118],S [109,111,100],S [101,113],S [110,101],S [108,116],S [108,101],S [103,116],S [103,101],S [97,110,100],S [111,114],S [106,117,109,112],S [101,108,115,101],S [99,97,108,108],S [114,101,116],S [101,110,100],S [115,101,110,100],S [114,101,99,118],S [111,117,116],S [115,116,97,114,116],S [114,101,115,117,109,101],S [121,105,101,108,100],S [97,108,105,118,101]]::rsF)) (by rintro _ _ ⟨_,_,rfl,_⟩; rfl) ?_ ?_
  · refine creg ?_
    refine wl (s_move (et d0) (dt p9) ?_)
    refine wl (s_lss (et d9) ec (dt (q10 p0)) ?_)
    refine wl (s_move (et (k10 d0)) (dt (q10 p1)) ?_)
    refine wspd (k10 d1) (q10 p1) (q10 p1) (fun h4=>?_) (fun h4=>?_)
    · replace h:=iT h4 h
      refine wn rfl (k10 d1) rfl (dt (q10 p2)) ?_
      refine wn rfl (k10 d1) rfl (dt (q10 p3)) ?_
      refine wn rfl (k10 d1) rfl (dt (q10 p4)) ?_
      refine wn rfl (k10 d1) rfl (dt (q10 p5)) ?_
      refine wl (s_pickt (et (k10 d1)) ec (dt (q10 p6)) ?_)
      refine wnil ?_
      refine xl ?_
      exact ⟨_,_,rfl,(aK9 (aO7 (aI aZ))),_,true,rfl,h,Le.r,hS⟩
    · replace h:=iF h4 h
      refine wy rfl (k10 d1) (s_move (et d0) (dt (q10 p2)) ?_)
      refine wy rfl (k10 d1) (s_move (et d4) (dt (q10 p3)) ?_)
      refine wy rfl (k10 d1) (s_lensl Tryd.underlying56 (et (k10 d3)) (dt (q10 p4)) ?_)
      refine wy rfl (k10 d1) (s_gtr (et (k10 d2)) (et (k10 d4)) (dt (q10 p5)) ?_)
      refine wl (s_pickf (et (k10 d1)) (et (k10 d5)) (dt (q10 p6)) ?_)
      refine wnil ?_
      refine xl ?_
      exact ⟨_,_,rfl,(aK9 (aO7 (aI aZ))),_,(decide ((32:Int)<p_1)),rfl,h,Le.r,hS⟩
  · rintro _ t w2 ⟨μ1,b3,rfl,h,le5,hS⟩
    unfold r13_word_j1 at h
    refine nrm (mK9 (mO7 (mi mz))) ?_
    refine xn ?_
    refine cifb (et (k10 d6)) (fun h6=>?_) (fun h6=>?_)
    · replace h:=iT h6 h
      refine cseq ?_
      refine creg ?_
      refine wl (s_assign ec (dt p2) ?_)
      refine wl (s_assign ec (dt p3) ?_)
      refine wnil ?_
      refine xn ?_
      refine cret ?_
      refine xr ?_
      obtain rfl:=oI h
      refine ret2 rfl d2 d3 ?_
      replace hS:=hS.drop Rm.z
      exact ⟨_,rfl,le5,hS⟩
    · replace h:=iF h6 h
      refine cskip ?_
      refine xn ?_
      refine cseq ?_
      refine creg ?_
      refine wl (s_assign ec (dt p5) ?_)
      refine wnil ?_
      refine xn ?_
      refine cseq ?_
      refine cseq ?_
      refine creg ?_
      refine wl (s_bsl Tryd.underlying43 ti3 (Parts.s ec rfl (Parts.s ec rfl (Parts.s ec rfl (Parts.s ec rfl (Parts.s ec rfl (Parts.s ec rfl (Parts.s ec rfl (Parts.s ec rfl (Parts.s ec rfl Parts.z))))))))) rfl rfl hS ?_); clear hS; intro b7 w3 hb8 hS; refine pu (dt (q10 p7)) ?_
      refine wl (s_lensl Tryd.underlying43 (et (k10 d7)) (dt (q10 p8)) ?_)
      refine wl (s_move ec (dt (q10 p9)) ?_)
      refine wnil ?_
      refine xn ?_
      refine cblock ?_
      replace hS:=hS.bg (Bg.s Bg.z)
      obtain ⟨μ2,le10,m9,hS⟩:=Sep.frzBlk (l:=([[112,117,115,104],[116,114,117,116,104],[108,111,97,100],[115,116,111,114,101],[100,114,111,112],[110,101,103],[110,111,116],[97,100,100],[115,117,98],[109,117,108],[100,105,118],[109,111,100],[101,113],[110,101],[108,116],[108,101],[103,116],[103,101],[97,110,100],[111,114],[106,117,109,112],[101,108,115,101],[99,97,108,108],[114,101,116],[101,110,100],[115,101,110,100],[114,101,99,118],[111,117,116],[115,116,97,114,116],[114,101,115,117,109,101],[121,105,101,108,100],[97,108,105,118,101]]:List (List UInt8))) hS (Rw.cons (α:=List UInt8) (cs:=[S [112,117,115,104]]) rfl (Rw.cons (α:=List UInt8) (cs:=[S [116,114,117,116,104]]) rfl (Rw.cons (α:=List UInt8) (cs:=[S [108,111,97,100]]) rfl (Rw.cons (α:=List UInt8) (cs:=[S [115,116,111,114,101]]) rfl (Rw.cons (α:=List UInt8) (cs:=[S [100,114,111,112]]) rfl (Rw.cons (α:=List UInt8) (cs:=[S [110,101,103]]) rfl (Rw.cons (α:=List UInt8) (cs:=[S [110,111,116]]) rfl (Rw.cons (α:=List UInt8) (cs:=[S [97,100,100]]) rfl (Rw.cons (α:=List UInt8) (cs:=[S [115,117,98]]) rfl (Rw.cons (α:=List UInt8) (cs:=[S [109,117,108]]) rfl (Rw.cons (α:=List UInt8) (cs:=[S [100,105,118]]) rfl (Rw.cons (α:=List UInt8) (cs:=[S [109,111,100]]) rfl (Rw.cons (α:=List UInt8) (cs:=[S [101,113]]) rfl (Rw.cons (α:=List UInt8) (cs:=[S [110,101]]) rfl (Rw.cons (α:=List UInt8) (cs:=[S [108,116]]) rfl (Rw.cons (α:=List UInt8) (cs:=[S [108,101]]) rfl (Rw.cons (α:=List UInt8) (cs:=[S [103,116]]) rfl (Rw.cons (α:=List UInt8) (cs:=[S [103,101]]) rfl (Rw.cons (α:=List UInt8) (cs:=[S [97,110,100]]) rfl (Rw.cons (α:=List UInt8) (cs:=[S [111,114]]) rfl (Rw.cons (α:=List UInt8) (cs:=[S [106,117,109,112]]) rfl (Rw.cons (α:=List UInt8) (cs:=[S [101,108,115,101]]) rfl (Rw.cons (α:=List UInt8) (cs:=[S [99,97,108,108]]) rfl (Rw.cons (α:=List UInt8) (cs:=[S [114,101,116]]) rfl (Rw.cons (α:=List UInt8) (cs:=[S [101,110,100]]) rfl (Rw.cons (α:=List UInt8) (cs:=[S [115,101,110,100]]) rfl (Rw.cons (α:=List UInt8) (cs:=[S [114,101,99,118]]) rfl (Rw.cons (α:=List UInt8) (cs:=[S [111,117,116]]) rfl (Rw.cons (α:=List UInt8) (cs:=[S [115,116,97,114,116]]) rfl (Rw.cons (α:=List UInt8) (cs:=[S [114,101,115,117,109,101]]) rfl (Rw.cons (α:=List UInt8) (cs:=[S [121,105,101,108,100]]) rfl (Rw.cons (α:=List UInt8) (cs:=[S [97,108,105,118,101]]) rfl Rw.nil)))))))))))))))))))))))))))))))) (Nat.le_of_ble_eq_true rfl)
      obtain ⟨μ3,le12,m11,hS⟩:=Sep.frzBlk (l:=([2,3,4,21,22,23,26,27,29]:List Int)) hS (Rw.cons (α:=Int) (cs:=[.int .i64 2]) rfl (Rw.cons (α:=Int) (cs:=[.int .i64 3]) rfl (Rw.cons (α:=Int) (cs:=[.int .i64 4]) rfl (Rw.cons (α:=Int) (cs:=[.int .i64 21]) rfl (Rw.cons (α:=Int) (cs:=[.int .i64 22]) rfl (Rw.cons (α:=Int) (cs:=[.int .i64 23]) rfl (Rw.cons (α:=Int) (cs:=[.int .i64 26]) rfl (Rw.cons (α:=Int) (cs:=[.int .i64 27]) rfl (Rw.cons (α:=Int) (cs:=[.int .i64 29]) rfl Rw.nil))))))))) (Nat.le_of_ble_eq_true rfl)
      refine cloopE ([7]++rg 20 7) (by decide) (fun n m w=>∃ (μx:M) (i24:Int) (i25:Int),m=(yK5 (.i (.int .i64 i24)::(yK1 (yO1 7 (yK10 (yK1 (.i (.int .i64 i25)::(yO7 20 []))))))))∧r13_word_l1 p_1 n i24 i25=some r∧Le μ3 μx∧Sq μx w0 w (rsF)) (by rintro _ _ _ ⟨_,_,_,rfl,_⟩; rfl) _ _ (aK5 (aI (aK1 (aO1 (aK10 (aK1 (aI (aO7 aZ)))))))) ⟨_,0,0,rfl,h,Le.r,hS⟩ ?_
      rintro n_1 _ t w4 ⟨μ4,i24,i25,rfl,h,le37,hS⟩
      cases n_1 with
      | zero=>cases h
      | succ n_1 =>
      unfold r13_word_l1 at h
      refine cnrm (mK5 (mi (mK1 (mO1 (mK10 (mK1 (mi (mO7 mz)))))))) ?_
      refine cseq ?_
      refine creg ?_
      refine wl (s_lss (et (k10 d9)) (et (k10 d8)) (dt (q20 p0)) ?_)
      refine wnil ?_
      refine xn ?_
      refine cseq ?_
      refine cifd (et (k20 d0)) (fun h38=>?_) (fun h38=>?_)
      · replace h:=iT h38 h
        refine cskip ?_
        refine xn ?_
        refine cseq ?_
        refine cblock ?_
        refine cseq ?_
        refine creg ?_
        replace h:=bI h; obtain ⟨x39,g40,h⟩:=h
        obtain ⟨b41,o42,cs43,e44,f45,m46⟩:=SlR.elem (m11.up le37) g40
        obtain rfl:=m46
        refine wl (s_iax Tryd.underlying43 ti3 (et (k10 d7)) (et (k10 d9)) e44 (dt (q20 p1)) ?_)
        refine wl (s_load ti3 (et (k20 d1)) ((f45 _ hS.a).one d0) (dt (q20 p2)) ?_)
        refine wl (s_assign (et (k20 d2)) (dt p7) ?_)
        refine wnil ?_
        refine xn ?_
        refine cseq ?_
        refine creg ?_
        refine wl (s_move (et d7) (dt (q20 p3)) ?_)
        refine wl (s_move (et d0) (dt (q20 p4)) ?_)
        refine wl (s_eqi (et (k20 d3)) (et (k20 d4)) (dt (q20 p5)) ?_)
        refine wnil ?_
        refine xn ?_
        refine cifd (et (k20 d5)) (fun h47=>?_) (fun h47=>?_)
        · replace h:=iT h47 h
          refine creg ?_
          refine wl (s_assign ec (dt p5) ?_)
          refine wnil ?_
          refine (fun h=>bn (xn h)) ?_
          refine creg ?_
          replace h:=bI h; obtain ⟨i48,g49,h⟩:=h
          refine wl (s_addc (et (k10 d9)) ec g49 (dt (q20 p6)) ?_)
          refine wl (s_move (et (k20 d6)) (dt (q10 p9)) ?_)
          refine wnil ?_
          refine xl ?_
          exact ⟨n_1,_,_,rfl,(aK5 (aI (aK1 (aO1 (aK10 (aK1 (aI (aO7 aZ)))))))),⟨_,1,i48,rfl,h,le37,hS⟩,Nat.lt_succ_self _⟩
        · replace h:=iF h47 h
          refine cskip ?_
          refine (fun h=>bn (xn h)) ?_
          refine creg ?_
          replace h:=bI h; obtain ⟨i50,g51,h⟩:=h
          refine wl (s_addc (et (k10 d9)) ec g51 (dt (q20 p6)) ?_)
          refine wl (s_move (et (k20 d6)) (dt (q10 p9)) ?_)
          refine wnil ?_
          refine xl ?_
          exact ⟨n_1,_,_,rfl,(aK5 (aI (aK1 (aO1 (aK10 (aK1 (aI (aO7 aZ)))))))),⟨_,i24,i50,rfl,h,le37,hS⟩,Nat.lt_succ_self _⟩
      · replace h:=iF h38 h
        refine cexit ?_
        refine (fun h=>xe (xe (bh h))) ?_
        refine xn ?_
        refine cseq ?_
        refine cseq ?_
        refine creg ?_
        refine wl (s_move (et d0) (dt (q20 p7)) ?_)
        refine wl (s_eqi (et (k20 d7)) ec (dt (q20 p8)) ?_)
        refine wnil ?_
        refine xn ?_
        refine ccutE ([]) (by decide) (fun m w=>∃ (μx:M) (i52:Int),m=(yK5 (.i (.int .i64 i52)::[]))∧r13_word_j2 p_1 i52=some r∧Le μ4 μx∧Sq μx w0 w (rsF)) (by rintro _ _ ⟨_,_,rfl,_⟩; rfl) ?_ ?_
        · refine cifd (et (k20 d8)) (fun h53=>?_) (fun h53=>?_)
          · replace h:=iT h53 h
            refine creg ?_
            refine wl (s_assign ec (dt p5) ?_)
            refine wnil ?_
            refine xl ?_
            exact ⟨_,_,rfl,(aK5 (aI aZ)),_,2,rfl,h,Le.r,hS⟩
          · replace h:=iF h53 h
            refine cskip ?_
            refine xl ?_
            exact ⟨_,_,rfl,(aK5 (aI aZ)),_,i24,rfl,h,Le.r,hS⟩
        · rintro _ t w5 ⟨μ5,i52,rfl,h,le54,hS⟩
          unfold r13_word_j2 at h
          refine nrm (mK5 (mi mz)) ?_
          refine xn ?_
          refine cseq ?_
          refine creg ?_
          refine wl (s_move (et d4) (dt (q20 p9)) ?_)
          refine wl (s_move (et d0) (dt (q30 p0)) ?_)
          replace h:=bI h; obtain ⟨i55,g56,h⟩:=h
          refine wl (s_subc (et (k30 d0)) ec g56 (dt (q30 p1)) ?_)
          replace h:=bI h; obtain ⟨x57,g58,h⟩:=h
          obtain ⟨b59,o60,cs61,e62,f63,m64⟩:=SlR.elem (m9.up (le12.t (le37.t le54))) g58
          obtain rfl:=m64
          refine wl (s_iax Tryd.underlying56 ti9 (et (k20 d9)) (et (k30 d1)) e62 (dt (q30 p2)) ?_)
          refine wl (s_load ti9 (et (k30 d2)) ((f63 _ hS.a).one d0) (dt (q30 p3)) ?_)
          refine wl (s_move (et d5) (dt (q30 p4)) ?_)
          refine wl (s_assign (et (k30 d3)) (dt p2) ?_)
          refine wl (s_assign (et (k30 d4)) (dt p3) ?_)
          refine wnil ?_
          refine xn ?_
          refine cret ?_
          obtain rfl:=oI h
          refine ret2 rfl d2 d3 ?_
          exact ⟨_,rfl,(le5.t (le10.t (le12.t (le37.t le54)))),hS⟩
end Go.Proofs.YtnjpnifbgldmiaaDoor
set_option maxRecDepth 100000
set_option maxHeartbeats 20000000
namespace Go.Proofs.YtnjpnifbgldmiaaDoor
open Go.Wk Go.Xt Go.Y
theorem asm_alive_w {fu:Nat} {μ0:M} {w0 w:World} {rsF:List Res} (hg:Le Gm μ0)  {r:Bool}  (h:asm_alive fu =some r) (hS:Sq μ0 w0 w (rsF)):CallsV Tryd.prog 10 [] w (fun v w'=>∃ (μ':M) ,v=.bool r∧Le μ0 μ'∧Sq μ' w0 w' (rsF)):=by
  unfold asm_alive at h
  refine enter Tryd.func10 rfl (frm:=[_,_,_,_,_,_,_,_,_,_,_,_,_,_,_,_,_,_,_,_,_,_,_,_,_,_,_,_,_,_,_,_,_,_,_,_,_,_,_,_,_,_]) rfl ?_
  refine cseq ?_
  refine creg ?_
  refine wl (s_assign ec (dt p0) ?_)
  refine wnil ?_
  refine xn ?_
  refine cseq ?_
  refine creg ?_
  replace h:=bI h; obtain ⟨r1,g2,h⟩:=h
  refine wl (s_callv isfn7 ef (e1 ec e0) (asm_read_w hg g2 hS) ?_)
  rintro _ w1 ⟨μ1,a4,c5,a7,c8,rfl,le3,hS,m6,m9⟩
  refine pu (dt p4) ?_
  refine wl (s_move (et d4) (dt p3) ?_)
  refine wl (s_extr (et d3) d0 (dt p5) ?_)
  refine wl (s_extr (et d3) d1 (dt p6) ?_)
  refine wl (s_alloc ti25 hS ?_); clear hS; intro b10 w2 hb11 hS; refine pu (dt p1) ?_
  refine wl (s_alloc ti32 hS ?_); clear hS; intro b12 w3 hb13 hS; refine pu (dt p2) ?_
  refine wl (s_storeA ti25 (et d1) (et d5) rfl rfl hS d1 rfl p1 dn ?_)
  clear hS; intro w4 hS
  refine wl (s_storeA ti32 (et d2) (et d6) rfl rfl hS d0 rfl p0 dn ?_)
  clear hS; intro w5 hS
  refine wnil ?_
  refine xn ?_
  refine cseq ?_
  refine creg ?_
  refine wl (s_fa fa32_0 (et d2) rfl (dt p7) ?_)
  refine wl (s_load ti26 (et d7) ((hS.blk d0).cell d0) (dt p8) ?_)
  refine wl (s_eqi (et d8) ec (dt p9) ?_)
  refine wl (s_move (et d9) (dt (q10 p0)) ?_)
  refine wspd (k10 d0) (q10 p0) (q10 p0) (fun h14=>?_) (fun h14=>?_)
  · replace h:=iT h14 h
    refine wy rfl (k10 d0) (s_fa fa25_0 (et d1) rfl (dt (q10 p1)) ?_)
    refine wy rfl (k10 d0) (s_load ti22 (et (k10 d1)) ((hS.blk d1).cell d0) (dt (q10 p2)) ?_)
    refine wy rfl (k10 d0) (s_lensl Tryd.underlying22 (et (k10 d2)) (dt (q10 p3)) ?_)
    refine wy rfl (k10 d0) (s_eqi (et (k10 d3)) ec (dt (q10 p4)) ?_)
    refine wl (s_pickt (et (k10 d0)) (et (k10 d4)) (dt (q10 p5)) ?_)
    refine wl (s_move (et (k10 d5)) (dt (q10 p6)) ?_)
    refine wspd (k10 d6) (q10 p6) (q10 p6) (fun h15=>?_) (fun h15=>?_)
    · replace h:=iT h15 h
      refine wy rfl (k10 d6) (s_fa fa25_1 (et d1) rfl (dt (q10 p7)) ?_)
      refine wy rfl (k10 d6) (s_load ti23 (et (k10 d7)) ((hS.blk d1).cell d1) (dt (q10 p8)) ?_)
      refine wy rfl (k10 d6) (s_lensl Tryd.underlying23 (et (k10 d8)) (dt (q10 p9)) ?_)
      refine wy rfl (k10 d6) (s_eqi (et (k10 d9)) ec (dt (q20 p0)) ?_)
      refine wl (s_pickt (et (k10 d6)) (et (k20 d0)) (dt (q20 p1)) ?_)
      refine wl (s_move (et (k20 d1)) (dt (q20 p2)) ?_)
      refine wspd (k20 d2) (q20 p2) (q20 p2) (fun h16=>?_) (fun h16=>?_)
      · replace h:=iT h16 h
        refine wy rfl (k20 d2) (s_fa fa25_1 (et d1) rfl (dt (q20 p3)) ?_)
        refine wy rfl (k20 d2) (s_load ti23 (et (k20 d3)) ((hS.blk d1).cell d1) (dt (q20 p4)) ?_)
        replace h:=bI h; obtain ⟨x17,g18,h⟩:=h
        obtain ⟨b19,o20,cs21,e22,f23,m24⟩:=SlR.elem m9 g18
        obtain ⟨a25,c26,a28,c29,rfl,m27,m30⟩:=m24
        refine wy rfl (k20 d2) (s_iax Tryd.underlying23 ti55 (et (k20 d4)) ec e22 (dt (q20 p5)) ?_)
        refine wy rfl (k20 d2) (s_fa fa55_5 (et (k20 d5)) rfl (dt (q20 p6)) ?_)
        refine wy rfl (k20 d2) (s_load ti53 (et (k20 d6)) ((f23 _ hS.a).one d5) (dt (q20 p7)) ?_)
        refine wy rfl (k20 d2) (s_lensl Tryd.underlying53 (et (k20 d7)) (dt (q20 p8)) ?_)
        refine wy rfl (k20 d2) (s_eqi (et (k20 d8)) ec (dt (q20 p9)) ?_)
        refine wl (s_pickt (et (k20 d2)) (et (k20 d9)) (dt (q30 p0)) ?_)
        refine wl (s_move (et (k30 d0)) (dt (q30 p1)) ?_)
        refine wspd (k30 d1) (q30 p1) (q30 p1) (fun h31=>?_) (fun h31=>?_)
        · replace h:=iT h31 h
          refine wy rfl (k30 d1) (s_fa fa25_1 (et d1) rfl (dt (q30 p2)) ?_)
          refine wy rfl (k30 d1) (s_load ti23 (et (k30 d2)) ((hS.blk d1).cell d1) (dt (q30 p3)) ?_)
          replace h:=bI h; obtain ⟨x32,g33,h⟩:=h
          obtain ⟨b34,o35,cs36,e37,f38,m39⟩:=SlR.elem m9 g33
          obtain ⟨a40,c41,a43,c44,rfl,m42,m45⟩:=m39
          refine wy rfl (k30 d1) (s_iax Tryd.underlying23 ti55 (et (k30 d3)) ec e37 (dt (q30 p4)) ?_)
          refine wy rfl (k30 d1) (s_fa fa55_5 (et (k30 d4)) rfl (dt (q30 p5)) ?_)
          refine wy rfl (k30 d1) (s_load ti53 (et (k30 d5)) ((f38 _ hS.a).one d5) (dt (q30 p6)) ?_)
          replace h:=bI h; obtain ⟨x46,g47,h⟩:=h
          obtain ⟨b48,o49,cs50,e51,f52,m53⟩:=SlR.elem m45 g47
          obtain rfl:=m53
          refine wy rfl (k30 d1) (s_iax Tryd.underlying53 ti59 (et (k30 d6)) ec e51 (dt (q30 p7)) ?_)
          refine wy rfl (k30 d1) (s_fa fa59_2 (et (k30 d7)) rfl (dt (q30 p8)) ?_)
          refine wy rfl (k30 d1) (s_load ti2 (et (k30 d8)) ((f52 _ hS.a).one d2) (dt (q30 p9)) ?_)
          refine wy rfl (k30 d1) (s_eqi (et (k30 d9)) ec (dt (q40 p0)) ?_)
          refine wl (s_pickt (et (k30 d1)) (et (k40 d0)) (dt (q40 p1)) ?_)
          refine wl (s_assign (et (k40 d1)) (dt p0) ?_)
          refine wnil ?_
          refine xn ?_
          refine cret ?_
          obtain rfl:=oI h
          refine ret1 rfl d0 ?_
          replace hS:=hS.drop Rm.z
          replace hS:=hS.drop Rm.z
          exact ⟨_,rfl,le3,hS⟩
        · replace h:=iF h31 h
          refine wn rfl (k30 d1) rfl (dt (q30 p2)) ?_
          refine wn rfl (k30 d1) rfl (dt (q30 p3)) ?_
          refine wn rfl (k30 d1) rfl (dt (q30 p4)) ?_
          refine wn rfl (k30 d1) rfl (dt (q30 p5)) ?_
          refine wn rfl (k30 d1) rfl (dt (q30 p6)) ?_
          refine wn rfl (k30 d1) rfl (dt (q30 p7)) ?_
          refine wn rfl (k30 d1) rfl (dt (q30 p8)) ?_
          refine wn rfl (k30 d1) rfl (dt (q30 p9)) ?_
          refine wn rfl (k30 d1) rfl (dt (q40 p0)) ?_
          refine wl (s_pickf (et (k30 d1)) ec (dt (q40 p1)) ?_)
          refine wl (s_assign (et (k40 d1)) (dt p0) ?_)
          refine wnil ?_
          refine xn ?_
          refine cret ?_
          obtain rfl:=oI h
          refine ret1 rfl d0 ?_
          replace hS:=hS.drop Rm.z
          replace hS:=hS.drop Rm.z
          exact ⟨_,rfl,le3,hS⟩
      · replace h:=iF h16 h
        refine wn rfl (k20 d2) rfl (dt (q20 p3)) ?_
        refine wn rfl (k20 d2) rfl (dt (q20 p4)) ?_
        refine wn rfl (k20 d2) rfl (dt (q20 p5)) ?_
        refine wn rfl (k20 d2) rfl (dt (q20 p6)) ?_
        refine wn rfl (k20 d2) rfl (dt (q20 p7)) ?_
        refine wn rfl (k20 d2) rfl (dt (q20 p8)) ?_
        refine wn rfl (k20 d2) rfl (dt (q20 p9)) ?_
        refine wl (s_pickf (et (k20 d2)) ec (dt (q30 p0)) ?_)
        refine wl (s_move (et (k30 d0)) (dt (q30 p1)) ?_)
        refine wn rfl (k30 d1) rfl (dt (q30 p2)) ?_
        refine wn rfl (k30 d1) rfl (dt (q30 p3)) ?_
        refine wn rfl (k30 d1) rfl (dt (q30 p4)) ?_
        refine wn rfl (k30 d1) rfl (dt (q30 p5)) ?_
        refine wn rfl (k30 d1) rfl (dt (q30 p6)) ?_
        refine wn rfl (k30 d1) rfl (dt (q30 p7)) ?_
        refine wn rfl (k30 d1) rfl (dt (q30 p8)) ?_
        refine wn rfl (k30 d1) rfl (dt (q30 p9)) ?_
        refine wn rfl (k30 d1) rfl (dt (q40 p0)) ?_
        refine wl (s_pickf (et (k30 d1)) ec (dt (q40 p1)) ?_)
        refine wl (s_assign (et (k40 d1)) (dt p0) ?_)
        refine wnil ?_
        refine xn ?_
        refine cret ?_
        obtain rfl:=oI h
        refine ret1 rfl d0 ?_
        replace hS:=hS.drop Rm.z
        replace hS:=hS.drop Rm.z
        exact ⟨_,rfl,le3,hS⟩
    · replace h:=iF h15 h
      refine wn rfl (k10 d6) rfl (dt (q10 p7)) ?_
      refine wn rfl (k10 d6) rfl (dt (q10 p8)) ?_
      refine wn rfl (k10 d6) rfl (dt (q10 p9)) ?_
      refine wn rfl (k10 d6) rfl (dt (q20 p0)) ?_
      refine wl (s_pickf (et (k10 d6)) ec (dt (q20 p1)) ?_)
      refine wl (s_move (et (k20 d1)) (dt (q20 p2)) ?_)
      refine wn rfl (k20 d2) rfl (dt (q20 p3)) ?_
      refine wn rfl (k20 d2) rfl (dt (q20 p4)) ?_
      refine wn rfl (k20 d2) rfl (dt (q20 p5)) ?_
      refine wn rfl (k20 d2) rfl (dt (q20 p6)) ?_
      refine wn rfl (k20 d2) rfl (dt (q20 p7)) ?_
      refine wn rfl (k20 d2) rfl (dt (q20 p8)) ?_
      refine wn rfl (k20 d2) rfl (dt (q20 p9)) ?_
      refine wl (s_pickf (et (k20 d2)) ec (dt (q30 p0)) ?_)
      refine wl (s_move (et (k30 d0)) (dt (q30 p1)) ?_)
      refine wn rfl (k30 d1) rfl (dt (q30 p2)) ?_
      refine wn rfl (k30 d1) rfl (dt (q30 p3)) ?_
      refine wn rfl (k30 d1) rfl (dt (q30 p4)) ?_
      refine wn rfl (k30 d1) rfl (dt (q30 p5)) ?_
      refine wn rfl (k30 d1) rfl (dt (q30 p6)) ?_
      refine wn rfl (k30 d1) rfl (dt (q30 p7)) ?_
      refine wn rfl (k30 d1) rfl (dt (q30 p8)) ?_
      refine wn rfl (k30 d1) rfl (dt (q30 p9)) ?_
      refine wn rfl (k30 d1) rfl (dt (q40 p0)) ?_
      refine wl (s_pickf (et (k30 d1)) ec (dt (q40 p1)) ?_)
      refine wl (s_assign (et (k40 d1)) (dt p0) ?_)
      refine wnil ?_
      refine xn ?_
      refine cret ?_
      obtain rfl:=oI h
      refine ret1 rfl d0 ?_
      replace hS:=hS.drop Rm.z
      replace hS:=hS.drop Rm.z
      exact ⟨_,rfl,le3,hS⟩
  · replace h:=iF h14 h
    refine wn rfl (k10 d0) rfl (dt (q10 p1)) ?_
    refine wn rfl (k10 d0) rfl (dt (q10 p2)) ?_
    refine wn rfl (k10 d0) rfl (dt (q10 p3)) ?_
    refine wn rfl (k10 d0) rfl (dt (q10 p4)) ?_
    refine wl (s_pickf (et (k10 d0)) ec (dt (q10 p5)) ?_)
    refine wl (s_move (et (k10 d5)) (dt (q10 p6)) ?_)
    refine wn rfl (k10 d6) rfl (dt (q10 p7)) ?_
    refine wn rfl (k10 d6) rfl (dt (q10 p8)) ?_
    refine wn rfl (k10 d6) rfl (dt (q10 p9)) ?_
    refine wn rfl (k10 d6) rfl (dt (q20 p0)) ?_
    refine wl (s_pickf (et (k10 d6)) ec (dt (q20 p1)) ?_)
    refine wl (s_move (et (k20 d1)) (dt (q20 p2)) ?_)
    refine wn rfl (k20 d2) rfl (dt (q20 p3)) ?_
    refine wn rfl (k20 d2) rfl (dt (q20 p4)) ?_
    refine wn rfl (k20 d2) rfl (dt (q20 p5)) ?_
    refine wn rfl (k20 d2) rfl (dt (q20 p6)) ?_
    refine wn rfl (k20 d2) rfl (dt (q20 p7)) ?_
    refine wn rfl (k20 d2) rfl (dt (q20 p8)) ?_
    refine wn rfl (k20 d2) rfl (dt (q20 p9)) ?_
    refine wl (s_pickf (et (k20 d2)) ec (dt (q30 p0)) ?_)
    refine wl (s_move (et (k30 d0)) (dt (q30 p1)) ?_)
    refine wn rfl (k30 d1) rfl (dt (q30 p2)) ?_
    refine wn rfl (k30 d1) rfl (dt (q30 p3)) ?_
    refine wn rfl (k30 d1) rfl (dt (q30 p4)) ?_
    refine wn rfl (k30 d1) rfl (dt (q30 p5)) ?_
    refine wn rfl (k30 d1) rfl (dt (q30 p6)) ?_
    refine wn rfl (k30 d1) rfl (dt (q30 p7)) ?_
    refine wn rfl (k30 d1) rfl (dt (q30 p8)) ?_
    refine wn rfl (k30 d1) rfl (dt (q30 p9)) ?_
    refine wn rfl (k30 d1) rfl (dt (q40 p0)) ?_
    refine wl (s_pickf (et (k30 d1)) ec (dt (q40 p1)) ?_)
    refine wl (s_assign (et (k40 d1)) (dt p0) ?_)
    refine wnil ?_
    refine xn ?_
    refine cret ?_
    obtain rfl:=oI h
    refine ret1 rfl d0 ?_
    replace hS:=hS.drop Rm.z
    replace hS:=hS.drop Rm.z
    exact ⟨_,rfl,le3,hS⟩
theorem r13_bare_w {μ0:M} {w0 w:World} {rsF:List Res} (hg:Le Gm μ0) {p_1:TModule} {a1:Option Addr} {c2:Nat} {a4:Option Addr} {c5:Nat} {r:TModule} (m3:Sl μ0 a1 c2 p_1.Boxes) (m6:Sl μ0 a4 c5 p_1.Units) (h:r13_bare p_1=some r) (hS:Sq μ0 w0 w (rsF)):CallsV Tryd.prog 11 [.agg ⟨[.slice a1 p_1.Boxes.length c2,.slice a4 p_1.Units.length c5]⟩] w (fun v w'=>∃ (μ':M) (a7:Option Addr) (c8:Nat) (a10:Option Addr) (c11:Nat),v=.agg ⟨[.slice a7 r.Boxes.length c8,.slice a10 r.Units.length c11]⟩∧Le μ0 μ'∧Sq μ' w0 w' (rsF)∧Sl μ' a7 c8 r.Boxes∧Sl μ' a10 c11 r.Units):=by
  unfold r13_bare at h
  refine enter Tryd.func11 rfl (frm:=[_,_,_,_,_,_,_,_,_,_,_,_,_,_,_,_,_,_,_,_,_,_,_,_,_,_,_,_,_,_,_,_,_,_,_,_,_,_,_,_,_,_,_,_,_,_,_,_,_,_,_,_,_,_,_,_,_,_,_,_,_,_,_]) rfl ?_
  refine cseq ?_
  refine creg ?_
  refine wl (s_box (et d0) rfl hS ?_); clear hS; intro b13 w1 hb14 hS; refine pu (dt p1) ?_
  refine wl (s_alloc ti25 hS ?_); clear hS; intro b15 w2 hb16 hS; refine pu (dt p2) ?_
  refine wnil ?_
  refine xn ?_
  refine cseq ?_
  refine creg ?_
  refine wl (s_fa fa25_0 (et d1) rfl (dt (q10 p2)) ?_)
  refine wl (s_load ti22 (et (k10 d2)) ((hS.blk d1).cell d0) (dt (q10 p3)) ?_)
  refine wl (s_build ti25 pl25 (Fl.o rfl (et (k10 d3)) rfl rfl p0 Fl.z) (dt (q10 p4)) ?_)
  refine wl (s_alloc ti25 hS ?_); clear hS; intro b17 w3 hb18 hS; refine pu (dt p3) ?_
  refine wl (s_storeA ti25 (et d3) (et (k10 d4)) rfl rfl hS d0 rfl p0 dn ?_)
  clear hS; intro w4 hS
  refine wnil ?_
  refine xn ?_
  refine cseq ?_
  refine cseq ?_
  refine creg ?_
  refine wl (s_fa fa25_1 (et d1) rfl (dt (q10 p5)) ?_)
  refine wl (s_load ti23 (et (k10 d5)) ((hS.blk d2).cell d1) (dt (q10 p6)) ?_)
  refine wl (s_lensl Tryd.underlying23 (et (k10 d6)) (dt (q10 p7)) ?_)
  refine wl (s_move ec (dt (q10 p8)) ?_)
  refine wnil ?_
  refine xn ?_
  refine cblock ?_
  replace hS:=hS.nilRow 55 (Mo.sz TUnit)
  replace hS:=hS.drop (Rm.s (Rm.s (Rm.s Rm.z)))
  replace hS:=hS.bg (Bg.s Bg.z)
  replace hS:=hS.bg (Bg.s (Bg.s Bg.z))
  refine cloopE (rg 5 2++rg 8 4++rg 19 43) (by decide +kernel) (fun n m w=>∃ (μx:M) (i134:Int) (l137:List TUnit) (v135:Value) (cs136:List Value),m=(yK5 (yO2 5 (yK1 (yO4 8 (yK6 (.i (.int .i64 i134)::(yO20 19 (yO20 39 (yO3 59 [])))))))))∧r13_bare_l1 p_1 n i134 l137=some r∧Le μ0 μx∧Sq μx w0 w (.blk b15 25 [.slice none 0 0,.slice none 0 0]::.blk b17 25 [.slice a1 p_1.Boxes.length c2,v135]::.row v135 55 6 l137.length cs136::rsF)∧Rw μx cs136 l137) (by rintro _ _ _ ⟨_,_,_,_,_,rfl,_⟩; rfl) _ _ (aK5 (aO2 (aK1 (aO4 (aK6 (aI (aO20 (aO20 (aO3 aZ))))))))) ⟨_,0,[],(.slice none 0 0),[],rfl,h,Le.r,hS,Rw.nil⟩ ?_
  rintro n_1 _ t w5 ⟨μ1,i134,l137,v135,cs136,rfl,h,le253,hS,m254⟩
  cases n_1 with
  | zero=>cases h
  | succ n_1 =>
  unfold r13_bare_l1 at h
  refine cnrm (mK5 (mO2 (mK1 (mO4 (mK6 (mi (mO20 (mO20 (mO3 mz))))))))) ?_
  refine cseq ?_
  refine creg ?_
  refine wl (s_lss (et (k10 d8)) (et (k10 d7)) (dt (q10 p9)) ?_)
  refine wnil ?_
  refine xn ?_
  refine cseq ?_
  refine cifd (et (k10 d9)) (fun h255=>?_) (fun h255=>?_)
  · replace h:=iT h255 h
    refine cskip ?_
    refine xn ?_
    refine cseq ?_
    refine cblock ?_
    refine cseq ?_
    refine creg ?_
    replace h:=bI h; obtain ⟨x256,g257,h⟩:=h
    obtain ⟨b258,o259,cs260,e261,f262,m263⟩:=SlR.elem (m6.up le253) g257
    obtain ⟨a264,c265,a267,c268,rfl,m266,m269⟩:=m263
    refine wl (s_iax Tryd.underlying23 ti55 (et (k10 d6)) (et (k10 d8)) e261 (dt (q20 p0)) ?_)
    refine wl (s_loads ti55 (et (k20 d0)) (f262 _ hS.a) rfl (dt (q20 p1)) ?_)
    refine wl (s_alloc ti55 hS ?_); clear hS; intro b270 w6 hb271 hS; refine pu (dt p5) ?_
    refine wl (s_storeA ti55 (et d5) (et (k20 d1)) rfl rfl hS d0 rfl p0 dn ?_)
    clear hS; intro w7 hS
    refine wnil ?_
    refine xn ?_
    refine cseq ?_
    refine creg ?_
    refine wl (s_assign ec (dt p6) ?_)
    refine wnil ?_
    refine xn ?_
    refine cseq ?_
    refine cseq ?_
    refine creg ?_
    refine wl (s_fa fa55_5 (et d5) rfl (dt (q20 p2)) ?_)
    refine wl (s_load ti53 (et (k20 d2)) ((hS.blk d0).cell d5) (dt (q20 p3)) ?_)
    refine wl (s_lensl Tryd.underlying53 (et (k20 d3)) (dt (q20 p4)) ?_)
    refine wl (s_move ec (dt (q20 p5)) ?_)
    refine wnil ?_
    refine xn ?_
    refine cblock ?_
    replace hS:=hS.nilRow 59 (Mo.sz TInstr)
    replace hS:=hS.bg (Bg.s Bg.z)
    replace hS:=hS.bg (Bg.s (Bg.s (Bg.s (Bg.s Bg.z))))
    replace hS:=hS.bg (Bg.s (Bg.s (Bg.s (Bg.s Bg.z))))
    replace hS:=hS.bg (Bg.s (Bg.s (Bg.s (Bg.s Bg.z))))
    refine cloopE (rg 8 4++rg 26 27) (by decide +kernel) (fun n m w=>∃ (μx:M) (i299:Int) (l302:List TInstr) (v300:Value) (cs301:List Value),m=(yK6 (.i (v300)::(yK1 (yO4 8 (yK10 (yK3 (.i (.int .i64 i299)::(yO20 26 (yO7 46 [])))))))))∧r13_bare_l2 i134 l137 x256 (r13_bare_l1 p_1 n_1) n i299 l302=some r∧Le μ1 μx∧Sq μx w0 w (.blk b15 25 [.slice none 0 0,.slice none 0 0]::.blk b17 25 [.slice a1 p_1.Boxes.length c2,v135]::.row v135 55 6 l137.length cs136::.blk b270 55 [.int .i64 x256.Kind,.int .i64 x256.Params,.slice a264 x256.Locals.length c265,.int .i64 x256.Result,.int .i64 x256.Takes,.slice a267 x256.Code.length c268]::.row v300 59 3 l302.length cs301::rsF)∧Rw μx cs301 l302) (by rintro _ _ _ ⟨_,_,_,_,_,rfl,_⟩; rfl) _ _ (aK6 (aI (aK1 (aO4 (aK10 (aK3 (aI (aO20 (aO7 aZ))))))))) ⟨_,0,[],(.slice none 0 0),[],rfl,h,Le.r,hS,Rw.nil⟩ ?_
    rintro n_2 _ t w8 ⟨μ2,i299,l302,v300,cs301,rfl,h,le330,hS,m331⟩
    cases n_2 with
    | zero=>cases h
    | succ n_2 =>
    unfold r13_bare_l2 at h
    refine cnrm (mK6 (mi (mK1 (mO4 (mK10 (mK3 (mi (mO20 (mO7 mz))))))))) ?_
    refine cseq ?_
    refine creg ?_
    refine wl (s_lss (et (k20 d5)) (et (k20 d4)) (dt (q20 p6)) ?_)
    refine wnil ?_
    refine xn ?_
    refine cseq ?_
    refine cifd (et (k20 d6)) (fun h332=>?_) (fun h332=>?_)
    · replace h:=iT h332 h
      refine cskip ?_
      refine xn ?_
      refine cseq ?_
      refine cblock ?_
      refine cseq ?_
      refine creg ?_
      replace h:=bI h; obtain ⟨x333,g334,h⟩:=h
      obtain ⟨b335,o336,cs337,e338,f339,m340⟩:=SlR.elem (m269.up le330) g334
      obtain rfl:=m340
      refine wl (s_iax Tryd.underlying53 ti59 (et (k20 d3)) (et (k20 d5)) e338 (dt (q20 p7)) ?_)
      refine wl (s_loads ti59 (et (k20 d7)) (f339 _ hS.a) rfl (dt (q20 p8)) ?_)
      refine wl (s_alloc ti59 hS ?_); clear hS; intro b341 w9 hb342 hS; refine pu (dt p8) ?_
      refine wl (s_storeA ti59 (et d8) (et (k20 d8)) rfl rfl hS d0 rfl p0 dn ?_)
      clear hS; intro w10 hS
      refine wnil ?_
      refine xn ?_
      refine cseq ?_
      refine creg ?_
      refine wl (s_fa fa59_0 (et d8) rfl (dt (q30 p0)) ?_)
      refine wl (s_load ti3 (et (k30 d0)) ((hS.blk d0).cell d0) (dt (q30 p1)) ?_)
      replace h:=bI h; obtain ⟨r343,g344,h⟩:=h
      refine wl (s_callv isfn23 ef (e1 (et (k30 d1)) e0) (r13_word_w (hg.t (le253.t le330)) g344 hS) ?_)
      rintro _ w11 ⟨μ3,rfl,le345,hS⟩
      refine pu (dt (q30 p2)) ?_
      refine wl (s_move (et (k30 d2)) (dt (q20 p9)) ?_)
      refine wl (s_extr (et (k20 d9)) d0 (dt (q30 p3)) ?_)
      refine wl (s_extr (et (k20 d9)) d1 (dt (q30 p4)) ?_)
      refine wl (s_assign (et (k30 d3)) (dt p9) ?_)
      refine wl (s_assign (et (k30 d4)) (dt (q10 p0)) ?_)
      refine wnil ?_
      refine xn ?_
      refine cseq ?_
      refine creg ?_
      refine wl (s_fa fa59_0 (et d8) rfl (dt (q30 p5)) ?_)
      refine wl (s_load ti3 (et (k30 d5)) ((hS.blk d0).cell d0) (dt (q30 p6)) ?_)
      refine wl (s_build ti59 pl59 (Fl.o rfl (et (k30 d6)) rfl rfl p0 Fl.z) (dt (q30 p7)) ?_)
      refine wl (s_alloc ti59 hS ?_); clear hS; intro b346 w12 hb347 hS; refine pu (dt (q10 p1)) ?_
      refine wl (s_storeA ti59 (et (k10 d1)) (et (k30 d7)) rfl rfl hS d0 rfl p0 dn ?_)
      clear hS; intro w13 hS
      refine wnil ?_
      refine xn ?_
      refine cseq ?_
      refine cseq ?_
      refine creg ?_
      refine wl (s_move (et (k10 d0)) (dt (q30 p8)) ?_)
      refine wl (s_eqi (et (k30 d8)) ec (dt (q30 p9)) ?_)
      refine wnil ?_
      refine xn ?_
      refine ccutE (rg 40 3) (by decide) (fun m w=>∃ (μx:M) (i348:Int),m=(yK20 (yK20 (yO3 40 [])))∧r13_bare_j1 i299 l302 x333 r343 (r13_bare_l2 i134 l137 x256 (r13_bare_l1 p_1 n_1) n_2) i348=some r∧Le μ3 μx∧Sq μx w0 w (.blk b15 25 [.slice none 0 0,.slice none 0 0]::.blk b17 25 [.slice a1 p_1.Boxes.length c2,v135]::.row v135 55 6 l137.length cs136::.blk b270 55 [.int .i64 x256.Kind,.int .i64 x256.Params,.slice a264 x256.Locals.length c265,.int .i64 x256.Result,.int .i64 x256.Takes,.slice a267 x256.Code.length c268]::.row v300 59 3 l302.length cs301::.blk b341 59 [.int .i64 x333.Op,.int .i64 x333.A,.int .i64 x333.N]::.blk b346 59 [.int .i64 x333.Op,.int .i64 i348,.int .i64 0]::rsF)) (by rintro _ _ ⟨_,_,rfl,_⟩; rfl) ?_ ?_
      · refine cifd (et (k30 d9)) (fun h349=>?_) (fun h349=>?_)
        · replace h:=iT h349 h
          refine creg ?_
          refine wl (s_fa fa59_1 (et d8) rfl (dt (q40 p0)) ?_)
          refine wl (s_load ti3 (et (k40 d0)) ((hS.blk d1).cell d1) (dt (q40 p1)) ?_)
          refine wl (s_fa fa59_1 (et (k10 d1)) rfl (dt (q40 p2)) ?_)
          refine wl (s_store1 ti3 (et (k40 d2)) (et (k40 d1)) rfl hS d0 p1 rfl p0 dn ?_)
          clear hS; intro w14 hS
          refine wnil ?_
          refine xl ?_
          replace hS:=hS.bg (Bg.s Bg.z)
          replace hS:=hS.bg (Bg.s (Bg.s (Bg.s (Bg.s (Bg.s (Bg.s Bg.z))))))
          replace hS:=hS.bg (Bg.s (Bg.s (Bg.s (Bg.s (Bg.s (Bg.s Bg.z))))))
          replace hS:=hS.bg (Bg.s (Bg.s (Bg.s (Bg.s (Bg.s (Bg.s Bg.z))))))
          replace hS:=hS.bg (Bg.s (Bg.s (Bg.s (Bg.s (Bg.s (Bg.s Bg.z))))))
          replace hS:=hS.bg (Bg.s (Bg.s (Bg.s (Bg.s (Bg.s (Bg.s Bg.z))))))
          exact ⟨_,_,rfl,(aK20 (aK20 (aO3 aZ))),_,x333.A,rfl,h,Le.r,hS⟩
        · replace h:=iF h349 h
          refine cskip ?_
          refine xl ?_
          replace hS:=hS.bg (Bg.s Bg.z)
          replace hS:=hS.bg (Bg.s (Bg.s (Bg.s (Bg.s (Bg.s (Bg.s Bg.z))))))
          replace hS:=hS.bg (Bg.s (Bg.s (Bg.s (Bg.s (Bg.s (Bg.s Bg.z))))))
          replace hS:=hS.bg (Bg.s (Bg.s (Bg.s (Bg.s (Bg.s (Bg.s Bg.z))))))
          replace hS:=hS.bg (Bg.s (Bg.s (Bg.s (Bg.s (Bg.s (Bg.s Bg.z))))))
          replace hS:=hS.bg (Bg.s (Bg.s (Bg.s (Bg.s (Bg.s (Bg.s Bg.z))))))
          exact ⟨_,_,rfl,(aK20 (aK20 (aO3 aZ))),_,0,rfl,h,Le.r,hS⟩
      · rintro _ t w15 ⟨μ4,i348,rfl,h,le350,hS⟩
        unfold r13_bare_j1 at h
        refine nrm (mK20 (mK20 (mO3 mz))) ?_
        refine xn ?_
        refine cseq ?_
        refine cseq ?_
        refine creg ?_
        refine wl (s_move (et (k10 d0)) (dt (q40 p3)) ?_)
        refine wl (s_eqi (et (k40 d3)) ec (dt (q40 p4)) ?_)
        refine wnil ?_
        refine xn ?_
        refine ccutE (rg 45 3) (by decide) (fun m w=>∃ (μx:M) (i351:Int),m=(yK20 (yK20 (yK5 (yO3 45 []))))∧r13_bare_j2 i299 l302 x333 i348 (r13_bare_l2 i134 l137 x256 (r13_bare_l1 p_1 n_1) n_2) i351=some r∧Le μ4 μx∧Sq μx w0 w (.blk b15 25 [.slice none 0 0,.slice none 0 0]::.blk b17 25 [.slice a1 p_1.Boxes.length c2,v135]::.row v135 55 6 l137.length cs136::.blk b270 55 [.int .i64 x256.Kind,.int .i64 x256.Params,.slice a264 x256.Locals.length c265,.int .i64 x256.Result,.int .i64 x256.Takes,.slice a267 x256.Code.length c268]::.row v300 59 3 l302.length cs301::.blk b346 59 [.int .i64 x333.Op,.int .i64 i348,.int .i64 i351]::rsF)) (by rintro _ _ ⟨_,_,rfl,_⟩; rfl) ?_ ?_
        · refine cifd (et (k40 d4)) (fun h352=>?_) (fun h352=>?_)
          · replace h:=iT h352 h
            refine creg ?_
            refine wl (s_fa fa59_2 (et d8) rfl (dt (q40 p5)) ?_)
            refine wl (s_load ti2 (et (k40 d5)) ((hS.blk d5).cell d2) (dt (q40 p6)) ?_)
            refine wl (s_fa fa59_2 (et (k10 d1)) rfl (dt (q40 p7)) ?_)
            refine wl (s_store1 ti2 (et (k40 d7)) (et (k40 d6)) rfl hS d6 p2 rfl p6 dn ?_)
            clear hS; intro w16 hS
            refine wnil ?_
            refine xl ?_
            replace hS:=hS.drop (Rm.s (Rm.s (Rm.s (Rm.s (Rm.s Rm.z)))))
            exact ⟨_,_,rfl,(aK20 (aK20 (aK5 (aO3 aZ)))),_,x333.N,rfl,h,Le.r,hS⟩
          · replace h:=iF h352 h
            refine cskip ?_
            refine xl ?_
            replace hS:=hS.drop (Rm.s (Rm.s (Rm.s (Rm.s (Rm.s Rm.z)))))
            exact ⟨_,_,rfl,(aK20 (aK20 (aK5 (aO3 aZ)))),_,0,rfl,h,Le.r,hS⟩
        · rintro _ t w17 ⟨μ5,i351,rfl,h,le353,hS⟩
          unfold r13_bare_j2 at h
          refine nrm (mK20 (mK20 (mK5 (mO3 mz)))) ?_
          refine xn ?_
          refine creg ?_
          refine wl (s_move (et d6) (dt (q40 p8)) ?_)
          refine wl (s_loads ti59 (et (k10 d1)) (hS.blk d5).cells rfl (dt (q40 p9)) ?_)
          refine wl (s_bsl1 Tryd.underlying53 ti59 rfl (et (k40 d9)) rfl hS ?_); clear hS; intro b354 w18 hb355 hS; refine pu (dt (q50 p0)) ?_
          replace h:=bI h; obtain ⟨l358,g359,h⟩:=h
          have m360:Rw μ5 [.int .i64 x333.Op,.int .i64 i348,.int .i64 i351] [(TInstr.mk x333.Op i348 i351)]:=(Rw.one (α:=TInstr) rfl)
          have m357:=Rw.app (m331.up (le345.t (le350.t le353))) m360 g359
          refine wl (s_app1 Tryd.underlying53 ti59 rfl (et (k40 d8)) (et (k50 d0)) hS d5 (hS.blk d0).cells m360 rfl g359 (by decide) ?_); clear hS; intro v356 w19 rs_ hp_ hS; cases (show _=rs_ from hp_)
          replace hS:=Sep.reput hS p5; refine pu (dt (q50 p1)) ?_
          replace hS:=hS.drop Rm.z
          refine wl (s_assign (et (k50 d1)) (dt p6) ?_)
          refine wnil ?_
          refine (fun h=>bn (xn h)) ?_
          refine creg ?_
          replace h:=bI h; obtain ⟨i361,g362,h⟩:=h
          refine wl (s_addc (et (k20 d5)) ec g362 (dt (q50 p2)) ?_)
          refine wl (s_move (et (k50 d2)) (dt (q20 p5)) ?_)
          refine wnil ?_
          refine xl ?_
          replace hS:=hS.drop (Rm.s (Rm.s (Rm.s (Rm.s (Rm.s Rm.z)))))
          exact ⟨n_2,_,_,rfl,(aK6 (aI (aK1 (aO4 (aK10 (aK3 (aI (aO20 (aO7 aZ))))))))),⟨_,i361,l358,v356,(cs301++[.int .i64 x333.Op,.int .i64 i348,.int .i64 i351]),rfl,h,(le330.t (le345.t (le350.t le353))),hS,m357⟩,Nat.lt_succ_self _⟩
    · replace h:=iF h332 h
      refine cexit ?_
      refine (fun h=>xe (xe (bh h))) ?_
      refine xn ?_
      refine cseq ?_
      refine creg ?_
      refine wl (s_move (et d6) (dt (q50 p3)) ?_)
      refine wl (s_fa fa55_5 (et d5) rfl (dt (q50 p4)) ?_)
      refine wl (s_store1 ti53 (et (k50 d4)) (et (k50 d3)) (hS.get d4).cellV hS d3 p5 rfl p3 dn ?_)
      clear hS; intro w20 hS
      refine wnil ?_
      refine xn ?_
      refine creg ?_
      refine wl (s_fa fa25_1 (et d3) rfl (dt (q50 p5)) ?_)
      refine wl (s_load ti23 (et (k50 d5)) ((hS.blk d1).cell d1) (dt (q50 p6)) ?_)
      refine wl (s_loads ti55 (et d5) (hS.blk d3).cells rfl (dt (q50 p7)) ?_)
      replace hS:=hS.bg (Bg.s (Bg.s (Bg.s (Bg.s Bg.z))))
      obtain ⟨μ6,a363,c364,e367,le366,m365,hq_⟩:=Sep.frzRow hS m331 rfl; clear hS
      subst e367; have hS:=hq_; clear hq_
      refine wl (s_bsl1 Tryd.underlying23 ti55 rfl (et (k50 d7)) rfl hS ?_); clear hS; intro b368 w21 hb369 hS; refine pu (dt (q50 p8)) ?_
      replace h:=bI h; obtain ⟨l372,g373,h⟩:=h
      have m374:Rw μ6 [.int .i64 x256.Kind,.int .i64 x256.Params,.slice a264 x256.Locals.length c265,.int .i64 x256.Result,.int .i64 x256.Takes,.slice a363 l302.length c364] [(TUnit.mk x256.Kind x256.Params x256.Locals x256.Result x256.Takes l302)]:=(Rw.one (α:=TUnit) (TUnit.i ⟨a264,c265,a363,c364,rfl,(m266.up (le330.t le366)),m365⟩))
      have m371:=Rw.app (m254.up (le330.t le366)) m374 g373
      refine wl (s_app1 Tryd.underlying23 ti55 rfl (et (k50 d6)) (et (k50 d8)) hS d3 (hS.blk d0).cells m374 rfl g373 (by decide) ?_); clear hS; intro v370 w22 rs_ hp_ hS; cases (show _=rs_ from hp_)
      replace hS:=Sep.reput hS p3; refine pu (dt (q50 p9)) ?_
      replace hS:=hS.drop Rm.z
      refine wl (s_fa fa25_1 (et d3) rfl (dt (q60 p0)) ?_)
      refine wl (s_store1 ti23 (et (k60 d0)) (et (k50 d9)) (hS.get d2).cellV hS d1 p1 rfl p1 dn ?_)
      clear hS; intro w23 hS
      refine wnil ?_
      refine (fun h=>bn (xn h)) ?_
      refine creg ?_
      replace h:=bI h; obtain ⟨i375,g376,h⟩:=h
      refine wl (s_addc (et (k10 d8)) ec g376 (dt (q60 p1)) ?_)
      refine wl (s_move (et (k60 d1)) (dt (q10 p8)) ?_)
      refine wnil ?_
      refine xl ?_
      replace hS:=hS.drop (Rm.s (Rm.s (Rm.s Rm.z)))
      exact ⟨n_1,_,_,rfl,(aK5 (aO2 (aK1 (aO4 (aK6 (aI (aO20 (aO20 (aO3 aZ))))))))),⟨_,i375,l372,v370,(cs136++[.int .i64 x256.Kind,.int .i64 x256.Params,.slice a264 x256.Locals.length c265,.int .i64 x256.Result,.int .i64 x256.Takes,.slice a363 l302.length c364]),rfl,h,(le253.t (le330.t le366)),hS,m371⟩,Nat.lt_succ_self _⟩
  · replace h:=iF h255 h
    refine cexit ?_
    refine (fun h=>xe (xe (bh h))) ?_
    refine xn ?_
    refine cseq ?_
    refine creg ?_
    refine wl (s_loads ti25 (et d3) (hS.blk d1).cells rfl (dt (q60 p2)) ?_)
    refine wl (s_storeA ti25 (et d2) (et (k60 d2)) rfl (cv_s rfl (cv_s ((hS.get d2).cellV) cv_z)) hS d0 rfl p0 dn ?_)
    clear hS; intro w24 hS
    refine wnil ?_
    refine xn ?_
    refine cret ?_
    replace hS:=hS.bg (Bg.s (Bg.s Bg.z))
    obtain ⟨μ7,a377,c378,e381,le380,m379,hq_⟩:=Sep.frzRow hS m254 rfl; clear hS
    subst e381; have hS:=hq_; clear hq_
    obtain rfl:=oI h
    refine retN rfl (RVs.s (.a d2 ti25 (hS.blk d0).cells rfl) RVs.z) ?_
    replace hS:=hS.drop Rm.z
    replace hS:=hS.drop Rm.z
    exact ⟨_,a1,c2,a377,c378,rfl,(le253.t le380),hS,(m3.up (le253.t le380)),m379⟩
theorem law_asmu_w {fu:Nat} {μ0:M} {w0 w:World} {rsF:List Res} (hg:Le Gm μ0) {p_1:TModule} {a1:Option Addr} {c2:Nat} {a4:Option Addr} {c5:Nat} {p_2:List UInt8} {r:Bool} (m3:Sl μ0 a1 c2 p_1.Boxes) (m6:Sl μ0 a4 c5 p_1.Units) (h:law_asmu fu p_1 p_2=some r) (hS:Sq μ0 w0 w (rsF)):CallsV Tryd.prog 4 [.agg ⟨[.slice a1 p_1.Boxes.length c2,.slice a4 p_1.Units.length c5]⟩,S p_2] w (fun v w'=>∃ (μ':M) ,v=.bool r∧Le μ0 μ'∧Sq μ' w0 w' (rsF)):=by
  unfold law_asmu at h
  refine enter Tryd.func4 rfl (frm:=[_,_,_,_,_,_,_,_,_,_,_,_,_,_,_,_,_,_,_,_,_,_,_,_,_,_,_,_,_,_,_,_,_,_,_,_,_,_,_,_,_,_,_,_,_,_,_,_,_,_,_,_,_,_,_,_,_,_,_]) rfl ?_
  refine cseq ?_
  refine creg ?_
  refine wl (s_box (et d0) rfl hS ?_); clear hS; intro b7 w1 hb8 hS; refine pu (dt p2) ?_
  refine wl (s_assign ec (dt p4) ?_)
  refine wnil ?_
  refine xn ?_
  refine cseq ?_
  refine cseq ?_
  refine creg ?_
  replace h:=bI h; obtain ⟨r9,g10,h⟩:=h
  refine wl (s_callv isfn10 ef e0 (asm_alive_w hg g10 hS) ?_)
  rintro _ w2 ⟨μ1,rfl,le11,hS⟩
  refine pu (dt (q10 p3)) ?_
  refine wl (s_not (et (k10 d3)) (dt (q10 p4)) ?_)
  refine wnil ?_
  refine xn ?_
  refine cifnb (et (k10 d4)) (fun h12=>?_) (fun h12=>?_)
  · replace h:=iF h12 h
    refine cseq ?_
    refine creg ?_
    refine wl (s_assign ec (dt p4) ?_)
    refine wnil ?_
    refine xn ?_
    refine cret ?_
    refine xr ?_
    obtain rfl:=oI h
    refine ret1 rfl d4 ?_
    replace hS:=hS.drop Rm.z
    exact ⟨_,rfl,le11,hS⟩
  · replace h:=iT h12 h
    refine cskip ?_
    refine xn ?_
    refine cseq ?_
    refine cseq ?_
    refine creg ?_
    refine wl (s_loads ti25 (et d2) (hS.blk d0).cells rfl (dt (q10 p6)) ?_)
    replace h:=bI h; obtain ⟨r13,g14,h⟩:=h
    refine wl (s_callv isfn5 ef (e1 (et (k10 d6)) e0) (asm_print_w (hg.t le11) (m3.up le11) (m6.up le11) g14 hS) ?_)
    rintro _ w3 ⟨μ2,rfl,le15,hS⟩
    refine pu (dt (q10 p7)) ?_
    refine wl (s_move (et (k10 d7)) (dt (q10 p5)) ?_)
    refine wl (s_extr (et (k10 d5)) d0 (dt (q10 p8)) ?_)
    refine wl (s_extr (et (k10 d5)) d1 (dt (q10 p9)) ?_)
    refine wl (s_alloc ti28 hS ?_); clear hS; intro b16 w4 hb17 hS; refine pu (dt p6) ?_
    refine wl (s_assign (et (k10 d8)) (dt p5) ?_)
    refine wl (s_storeA ti28 (et d6) (et (k10 d9)) rfl rfl hS d0 rfl p0 dn ?_)
    clear hS; intro w5 hS
    refine wnil ?_
    refine xn ?_
    refine cseq ?_
    refine creg ?_
    refine wl (s_fa fa28_0 (et d6) rfl (dt (q20 p0)) ?_)
    refine wl (s_load ti26 (et (k20 d0)) ((hS.blk d0).cell d0) (dt (q20 p1)) ?_)
    refine wl (s_eqi (et (k20 d1)) ec (dt (q20 p2)) ?_)
    refine wnil ?_
    refine xn ?_
    refine ccutE ([4]++rg 7 2++rg 23 15) (by decide) (fun m w=>∃ (μx:M) ,m=(yK4 (yO1 4 (yK2 (yO2 7 (yK10 (yK4 (yO10 23 (yO5 33 []))))))))∧law_asmu_j1 fu p_2 =some r∧Le μ2 μx∧Sq μx w0 w (rsF)) (by rintro _ _ ⟨_,rfl,_⟩; rfl) ?_ ?_
    · refine cifd (et (k20 d2)) (fun h18=>?_) (fun h18=>?_)
      · replace h:=iT h18 h
        refine cseq ?_
        refine creg ?_
        refine wl (s_move (et d5) (dt (q20 p4)) ?_)
        replace h:=bI h; obtain ⟨r19,g20,h⟩:=h
        refine wl (s_callv isfn7 ef (e1 (et (k20 d4)) e0) (asm_read_w (hg.t (le11.t le15)) g20 hS) ?_)
        rintro _ w6 ⟨μ3,a22,c23,a25,c26,rfl,le21,hS,m24,m27⟩
        refine pu (dt (q20 p5)) ?_
        refine wl (s_move (et (k20 d5)) (dt (q20 p3)) ?_)
        refine wl (s_extr (et (k20 d3)) d0 (dt (q20 p6)) ?_)
        refine wl (s_extr (et (k20 d3)) d1 (dt (q20 p7)) ?_)
        refine wl (s_alloc ti25 hS ?_); clear hS; intro b28 w7 hb29 hS; refine pu (dt p7) ?_
        refine wl (s_alloc ti32 hS ?_); clear hS; intro b30 w8 hb31 hS; refine pu (dt p8) ?_
        refine wl (s_storeA ti25 (et d7) (et (k20 d6)) rfl rfl hS d1 rfl p1 dn ?_)
        clear hS; intro w9 hS
        refine wl (s_storeA ti32 (et d8) (et (k20 d7)) rfl rfl hS d0 rfl p0 dn ?_)
        clear hS; intro w10 hS
        refine wnil ?_
        refine xn ?_
        refine cseq ?_
        refine ccutE (rg 28 9) (by decide) (fun m w=>∃ (μx:M) (b32:Bool),m=(yK20 (yK8 (yO9 28 (.i (.bool b32)::[]))))∧law_asmu_j2 fu p_2 b32=some r∧Le μ3 μx∧Sq μx w0 w (rsF)) (by rintro _ _ ⟨_,_,rfl,_⟩; rfl) ?_ ?_
        · refine cdraw (by kernel_rfl) rfl fun w11 hh_ ho_ ht_ hu_=>?_
          replace hS:=hS.drew hh_ ho_ ht_ hu_
          refine sf_start ?_
          refine sf_pu (i:=0) [0,1,2,3,4,5,6,7,8,9] (blind_of fun _ _ _ h=>h.2) rfl rfl rfl (u_fa fa32_0 (et d8) rfl) (q20 p8) ?_
          refine sf_rd (i:=1) [1,2,3,4,5,6,7,8,9] (blind_of fun _ _ _ h=>h.2) rfl rfl rfl (u_load ti26 (et (k20 d8)) ((hS.blk d0).cell d0)) (q20 p9) ?_
          refine sf_pu (i:=2) [2,3,4,5,6,7,8,9] (blind_of fun _ _ _ h=>h.2) rfl rfl rfl (u_nei (et (k20 d9)) ec) (q30 p0) ?_
          refine sf_pu (i:=3) [3,4,5,6,7,8,9] (blind_of fun _ _ _ h=>h.2) rfl rfl rfl (u_move (et (k30 d0))) (q30 p1) ?_
          refine sfsd (k30 d1) (q30 p1) (q30 p1) (fun h33=>?_) (fun h33=>?_)
          · replace h:=iT h33 h
            refine sf_puN (i:=4) [4,7,8,9] (blind_of fun _ _ _ h=>h.2) rfl rfl rfl rfl (k30 d1) rfl (q30 p2) ?_
            refine sf_puN (i:=5) [5,6,7,8,9] (blind_of fun _ _ _ h=>h.2) rfl rfl rfl rfl (k30 d1) rfl (q30 p3) ?_
            refine sf_puN (i:=6) [6,7,8,9] (blind_of fun _ _ _ h=>h.2) rfl rfl rfl rfl (k30 d1) rfl (q30 p4) ?_
            refine sf_puN (i:=7) [7,8,9] (blind_of fun _ _ _ h=>h.2) rfl rfl rfl rfl (k30 d1) rfl (q30 p5) ?_
            refine sf_puN (i:=8) [8,9] (blind_of fun _ _ _ h=>h.2) rfl rfl rfl rfl (k30 d1) rfl (q30 p6) ?_
            refine sf_pu (i:=9) [9] (blind_of fun _ _ _ h=>h.2) rfl rfl rfl (u_pickt (et (k30 d1)) ec) (q30 p7) ?_
            refine sf_nil ?_
            refine xl ?_
            replace hS:=hS.drop Rm.z
            replace hS:=hS.drop Rm.z
            replace hS:=hS.drop Rm.z
            replace hS:=hS.drop Rm.z
            exact ⟨_,_,rfl,(aK20 (aK8 (aO9 (aI aZ)))),_,true,rfl,h,Le.r,hS⟩
          · replace h:=iF h33 h
            refine sf_rdY (i:=4) [4,7,8,9] (blind_of fun _ _ _ h=>h.2) rfl rfl rfl rfl (k30 d1) (u_loads ti25 (et d7) (hS.blk d1).cells rfl) (q30 p2) ?_
            refine sf_rdY (i:=5) [5,6,7,8,9] (blind_of fun _ _ _ h=>h.2) rfl rfl rfl rfl (k30 d1) (u_loads ti25 (et d2) (hS.blk d3).cells rfl) (q30 p3) ?_
            replace h:=bI h; obtain ⟨r34,g35,h⟩:=h
            refine sf1 rfl rfl rfl rfl (wanted_t rfl rfl (k30 d1)) (s_callv isfn11 ef (e1 (et (k30 d3)) e0) (r13_bare_w (hg.t (le11.t (le15.t le21))) (m3.up (le11.t (le15.t le21))) (m6.up (le11.t (le15.t le21))) g35 hS) ?_)
            rintro _ w12 ⟨μ4,a37,c38,a40,c41,rfl,le36,hS,m39,m42⟩
            refine pu (dt (q30 p4)) ?_
            refine ⟨(Mons.s (u_loads ti25 (et d7) (hS.blk d1).cells rfl) Mons.z),?_⟩
            replace h:=bI h; obtain ⟨r43,g44,h⟩:=h
            refine sf1 rfl rfl rfl rfl (wanted_t rfl rfl (k30 d1)) (s_callv isfn9 ef (e1 (et (k30 d2)) (e1 (et (k30 d4)) e0)) (r6_same_w (hg.t (le11.t (le15.t (le21.t le36)))) (m24.up le36) (m27.up le36) m39 m42 g44 hS) ?_)
            rintro _ w13 ⟨μ5,rfl,le45,hS⟩
            refine pu (dt (q30 p5)) ?_
            refine ⟨Mons.z,?_⟩
            refine sf_puY (i:=8) [8,9] (blind_of fun _ _ _ h=>h.2) rfl rfl rfl rfl (k30 d1) (u_not (et (k30 d5))) (q30 p6) ?_
            refine sf_pu (i:=9) [9] (blind_of fun _ _ _ h=>h.2) rfl rfl rfl (u_pickf (et (k30 d1)) (et (k30 d6))) (q30 p7) ?_
            refine sf_nil ?_
            refine xl ?_
            replace hS:=hS.drop Rm.z
            replace hS:=hS.drop Rm.z
            replace hS:=hS.drop Rm.z
            replace hS:=hS.drop Rm.z
            exact ⟨_,_,rfl,(aK20 (aK8 (aO9 (aI aZ)))),_,(!r43),rfl,h,(le36.t le45),hS⟩
        · rintro _ t w14 ⟨μ6,b32,rfl,h,le46,hS⟩
          unfold law_asmu_j2 at h
          refine nrm (mK20 (mK8 (mO9 (mi mz)))) ?_
          refine xn ?_
          refine cifb (et (k30 d7)) (fun h47=>?_) (fun h47=>?_)
          · replace h:=iT h47 h
            refine cseq ?_
            refine creg ?_
            refine wl (s_assign ec (dt p4) ?_)
            refine wnil ?_
            refine xn ?_
            refine cret ?_
            refine (fun h=>xr (xr h)) ?_
            obtain rfl:=oI h
            refine ret1 rfl d4 ?_
            exact ⟨_,rfl,(le11.t (le15.t (le21.t le46))),hS⟩
          · replace h:=iF h47 h
            refine cskip ?_
            refine xl ?_
            exact ⟨_,_,rfl,(aK4 (aO1 (aK2 (aO2 (aK10 (aK4 (aO10 (aO5 aZ)))))))),_,rfl,h,(le21.t le46),hS⟩
      · replace h:=iF h18 h
        refine cskip ?_
        refine xl ?_
        replace hS:=hS.drop Rm.z
        replace hS:=hS.drop Rm.z
        exact ⟨_,_,rfl,(aK4 (aO1 (aK2 (aO2 (aK10 (aK4 (aO10 (aO5 aZ)))))))),_,rfl,h,Le.r,hS⟩
    · rintro _ t w15 ⟨μ7,rfl,h,le48,hS⟩
      unfold law_asmu_j1 at h
      refine nrm (mK4 (mO1 (mK2 (mO2 (mK10 (mK4 (mO10 (mO5 mz)))))))) ?_
      refine xn ?_
      refine cseq ?_
      refine creg ?_
      refine wl (s_move (et d1) (dt (q30 p9)) ?_)
      replace h:=bI h; obtain ⟨r49,g50,h⟩:=h
      refine wl (s_callv isfn7 ef (e1 (et (k30 d9)) e0) (asm_read_w (hg.t (le11.t (le15.t le48))) g50 hS) ?_)
      rintro _ w16 ⟨μ8,a52,c53,a55,c56,rfl,le51,hS,m54,m57⟩
      refine pu (dt (q40 p0)) ?_
      refine wl (s_move (et (k40 d0)) (dt (q30 p8)) ?_)
      refine wl (s_extr (et (k30 d8)) d0 (dt (q40 p1)) ?_)
      refine wl (s_extr (et (k30 d8)) d1 (dt (q40 p2)) ?_)
      refine wl (s_alloc ti25 hS ?_); clear hS; intro b58 w17 hb59 hS; refine pu (dt p9) ?_
      refine wl (s_alloc ti32 hS ?_); clear hS; intro b60 w18 hb61 hS; refine pu (dt (q10 p0)) ?_
      refine wl (s_storeA ti25 (et d9) (et (k40 d1)) rfl rfl hS d1 rfl p1 dn ?_)
      clear hS; intro w19 hS
      refine wl (s_storeA ti32 (et (k10 d0)) (et (k40 d2)) rfl rfl hS d0 rfl p0 dn ?_)
      clear hS; intro w20 hS
      refine wnil ?_
      refine xn ?_
      refine cseq ?_
      refine cseq ?_
      refine creg ?_
      refine wl (s_fa fa32_0 (et (k10 d0)) rfl (dt (q40 p3)) ?_)
      refine wl (s_load ti26 (et (k40 d3)) ((hS.blk d0).cell d0) (dt (q40 p4)) ?_)
      refine wl (s_nei (et (k40 d4)) ec (dt (q40 p5)) ?_)
      refine wnil ?_
      refine xn ?_
      refine cifd (et (k40 d5)) (fun h62=>?_) (fun h62=>?_)
      · replace h:=iT h62 h
        refine cseq ?_
        refine creg ?_
        refine wl (s_assign ec (dt p4) ?_)
        refine wnil ?_
        refine xn ?_
        refine cret ?_
        refine xr ?_
        obtain rfl:=oI h
        refine ret1 rfl d4 ?_
        replace hS:=hS.drop Rm.z
        replace hS:=hS.drop Rm.z
        exact ⟨_,rfl,(le11.t (le15.t (le48.t le51))),hS⟩
      · replace h:=iF h62 h
        refine cskip ?_
        refine xn ?_
        refine cseq ?_
        refine creg ?_
        refine wl (s_loads ti25 (et d9) (hS.blk d1).cells rfl (dt (q40 p7)) ?_)
        replace h:=bI h; obtain ⟨r63,g64,h⟩:=h
        refine wl (s_callv isfn5 ef (e1 (et (k40 d7)) e0) (asm_print_w (hg.t (le11.t (le15.t (le48.t le51)))) m54 m57 g64 hS) ?_)
        rintro _ w21 ⟨μ9,rfl,le65,hS⟩
        refine pu (dt (q40 p8)) ?_
        refine wl (s_move (et (k40 d8)) (dt (q40 p6)) ?_)
        refine wl (s_extr (et (k40 d6)) d0 (dt (q40 p9)) ?_)
        refine wl (s_extr (et (k40 d6)) d1 (dt (q50 p0)) ?_)
        refine wl (s_alloc ti28 hS ?_); clear hS; intro b66 w22 hb67 hS; refine pu (dt (q10 p2)) ?_
        refine wl (s_assign (et (k40 d9)) (dt (q10 p1)) ?_)
        refine wl (s_storeA ti28 (et (k10 d2)) (et (k50 d0)) rfl rfl hS d0 rfl p0 dn ?_)
        clear hS; intro w23 hS
        refine wnil ?_
        refine xn ?_
        refine cseq ?_
        refine creg ?_
        refine wl (s_fa fa28_0 (et (k10 d2)) rfl (dt (q50 p1)) ?_)
        refine wl (s_load ti26 (et (k50 d1)) ((hS.blk d0).cell d0) (dt (q50 p2)) ?_)
        refine wl (s_eqi (et (k50 d2)) ec (dt (q50 p3)) ?_)
        refine wl (s_move (et (k50 d3)) (dt (q50 p4)) ?_)
        refine wspd (k50 d4) (q50 p4) (q50 p4) (fun h68=>?_) (fun h68=>?_)
        · replace h:=iT h68 h
          refine wy rfl (k50 d4) (s_move (et (k10 d1)) (dt (q50 p5)) ?_)
          refine wy rfl (k50 d4) (s_move (et d1) (dt (q50 p6)) ?_)
          refine wy rfl (k50 d4) (s_eqs (et (k50 d5)) (et (k50 d6)) (dt (q50 p7)) ?_)
          refine wl (s_pickt (et (k50 d4)) (et (k50 d7)) (dt (q50 p8)) ?_)
          refine wl (s_assign (et (k50 d8)) (dt p4) ?_)
          refine wnil ?_
          refine xn ?_
          refine cret ?_
          obtain rfl:=oI h
          refine ret1 rfl d4 ?_
          replace hS:=hS.drop Rm.z
          replace hS:=hS.drop Rm.z
          replace hS:=hS.drop Rm.z
          exact ⟨_,rfl,(le11.t (le15.t (le48.t (le51.t le65)))),hS⟩
        · replace h:=iF h68 h
          refine wn rfl (k50 d4) rfl (dt (q50 p5)) ?_
          refine wn rfl (k50 d4) rfl (dt (q50 p6)) ?_
          refine wn rfl (k50 d4) rfl (dt (q50 p7)) ?_
          refine wl (s_pickf (et (k50 d4)) ec (dt (q50 p8)) ?_)
          refine wl (s_assign (et (k50 d8)) (dt p4) ?_)
          refine wnil ?_
          refine xn ?_
          refine cret ?_
          obtain rfl:=oI h
          refine ret1 rfl d4 ?_
          replace hS:=hS.drop Rm.z
          replace hS:=hS.drop Rm.z
          replace hS:=hS.drop Rm.z
          exact ⟨_,rfl,(le11.t (le15.t (le48.t (le51.t le65)))),hS⟩
end Go.Proofs.YtnjpnifbgldmiaaDoor
