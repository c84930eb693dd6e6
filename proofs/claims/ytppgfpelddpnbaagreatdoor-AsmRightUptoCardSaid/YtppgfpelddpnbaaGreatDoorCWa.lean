/- Texts of Wa. -/
import Derived.Test.YtppgfpelddpnbaaGreatDoorCMd
import Derived.Test.YtppgfpelddpnbaaGreatDoorCFl
set_option linter.unusedSimpArgs false
set_option linter.unusedVariables false
set_option linter.unusedSectionVars false
set_option maxRecDepth 100000
set_option maxHeartbeats 20000000
namespace Go.Proofs.YtppgfpelddpnbaaGreatDoor
open Go.Wk Go.Xt Go.Y
theorem asm_units_w {μ0:M} {w0 w:World} {rsF:List Res} (hg:Le Gm μ0)  {r:List (List UInt8)}  (h:asm_units =some r) (hS:Sq μ0 w0 w (rsF)):CallsV Tryz.prog 12 [] w (fun v w'=>∃ (μ':M) (a1:Option Addr) (c2:Nat),v=.slice a1 r.length c2∧Le μ0 μ'∧Sq μ' w0 w' (rsF)∧Sl μ' a1 c2 r):=by
  unfold asm_units at h
  refine enter Tryz.func12 rfl (frm:=[_,_]) rfl ?_
  refine cseq ?_
  refine creg ?_
  refine wl (s_assign ec (dt p0) ?_)
  refine wnil ?_
  refine xn ?_
  refine cseq ?_
  refine creg ?_
  refine wl (s_bsl Tryz.underlying57 ti9 (Parts.s ec rfl (Parts.s ec rfl (Parts.s ec rfl Parts.z))) rfl rfl hS ?_); clear hS; intro b4 w1 hb5 hS; refine pu (dt p1) ?_
  refine wl (s_assign (et d1) (dt p0) ?_)
  refine wnil ?_
  refine xn ?_
  refine cret ?_
  obtain ⟨μ1,le7,m6,hS⟩:=Sep.frzBlk (l:=([[102,110],[103,101,110],[116,97,115,107]]:List (List UInt8))) hS (Rw.cons (α:=List UInt8) (cs:=[S [102,110]]) rfl (Rw.cons (α:=List UInt8) (cs:=[S [103,101,110]]) rfl (Rw.cons (α:=List UInt8) (cs:=[S [116,97,115,107]]) rfl Rw.nil))) (Nat.le_of_ble_eq_true rfl)
  obtain rfl:=oI h
  refine ret1 rfl d0 ?_
  exact ⟨_,(some ⟨b4,0,none⟩),3,rfl,le7,hS,m6⟩
theorem asm_mnem_w {μ0:M} {w0 w:World} {rsF:List Res} (hg:Le Gm μ0)  {r:List (List UInt8)}  (h:asm_mnem =some r) (hS:Sq μ0 w0 w (rsF)):CallsV Tryz.prog 13 [] w (fun v w'=>∃ (μ':M) (a1:Option Addr) (c2:Nat),v=.slice a1 r.length c2∧Le μ0 μ'∧Sq μ' w0 w' (rsF)∧Sl μ' a1 c2 r):=by
  unfold asm_mnem at h
  refine enter Tryz.func13 rfl (frm:=[_,_]) rfl ?_
  refine cseq ?_
  refine creg ?_
  refine wl (s_assign ec (dt p0) ?_)
  refine wnil ?_
  refine xn ?_
  refine cseq ?_
  refine creg ?_
  refine wl (s_bsl Tryz.underlying57 ti9 (Parts.s ec rfl (Parts.s ec rfl (Parts.s ec rfl (Parts.s ec rfl (Parts.s ec rfl (Parts.s ec rfl (Parts.s ec rfl (Parts.s ec rfl (Parts.s ec rfl (Parts.s ec rfl (Parts.s ec rfl (Parts.s ec rfl (Parts.s ec rfl (Parts.s ec rfl (Parts.s ec rfl (Parts.s ec rfl (Parts.s ec rfl (Parts.s ec rfl (Parts.s ec rfl (Parts.s ec rfl (Parts.s ec rfl (Parts.s ec rfl (Parts.s ec rfl (Parts.s ec rfl (Parts.s ec rfl (Parts.s ec rfl (Parts.s ec rfl (Parts.s ec rfl (Parts.s ec rfl (Parts.s ec rfl (Parts.s ec rfl (Parts.s ec rfl Parts.z)))))))))))))))))))))))))))))))) rfl rfl hS ?_); clear hS; intro b4 w1 hb5 hS; refine pu (dt p1) ?_
  refine wl (s_assign (et d1) (dt p0) ?_)
  refine wnil ?_
  refine xn ?_
  refine cret ?_
  obtain ⟨μ1,le7,m6,hS⟩:=Sep.frzBlk (l:=([[112,117,115,104],[116,114,117,116,104],[108,111,97,100],[115,116,111,114,101],[100,114,111,112],[110,101,103],[110,111,116],[97,100,100],[115,117,98],[109,117,108],[100,105,118],[109,111,100],[101,113],[110,101],[108,116],[108,101],[103,116],[103,101],[97,110,100],[111,114],[106,117,109,112],[101,108,115,101],[99,97,108,108],[114,101,116],[101,110,100],[115,101,110,100],[114,101,99,118],[111,117,116],[115,116,97,114,116],[114,101,115,117,109,101],[121,105,101,108,100],[97,108,105,118,101]]:List (List UInt8))) hS (Rw.cons (α:=List UInt8) (cs:=[S [112,117,115,104]]) rfl (Rw.cons (α:=List UInt8) (cs:=[S [116,114,117,116,104]]) rfl (Rw.cons (α:=List UInt8) (cs:=[S [108,111,97,100]]) rfl (Rw.cons (α:=List UInt8) (cs:=[S [115,116,111,114,101]]) rfl (Rw.cons (α:=List UInt8) (cs:=[S [100,114,111,112]]) rfl (Rw.cons (α:=List UInt8) (cs:=[S [110,101,103]]) rfl (Rw.cons (α:=List UInt8) (cs:=[S [110,111,116]]) rfl (Rw.cons (α:=List UInt8) (cs:=[S [97,100,100]]) rfl (Rw.cons (α:=List UInt8) (cs:=[S [115,117,98]]) rfl (Rw.cons (α:=List UInt8) (cs:=[S [109,117,108]]) rfl (Rw.cons (α:=List UInt8) (cs:=[S [100,105,118]]) rfl (Rw.cons (α:=List UInt8) (cs:=[S [109,111,100]]) rfl (Rw.cons (α:=List UInt8) (cs:=[S [101,113]]) rfl (Rw.cons (α:=List UInt8) (cs:=[S [110,101]]) rfl (Rw.cons (α:=List UInt8) (cs:=[S [108,116]]) rfl (Rw.cons (α:=List UInt8) (cs:=[S [108,101]]) rfl (Rw.cons (α:=List UInt8) (cs:=[S [103,116]]) rfl (Rw.cons (α:=List UInt8) (cs:=[S [103,101]]) rfl (Rw.cons (α:=List UInt8) (cs:=[S [97,110,100]]) rfl (Rw.cons (α:=List UInt8) (cs:=[S [111,114]]) rfl (Rw.cons (α:=List UInt8) (cs:=[S [106,117,109,112]]) rfl (Rw.cons (α:=List UInt8) (cs:=[S [101,108,115,101]]) rfl (Rw.cons (α:=List UInt8) (cs:=[S [99,97,108,108]]) rfl (Rw.cons (α:=List UInt8) (cs:=[S [114,101,116]]) rfl (Rw.cons (α:=List UInt8) (cs:=[S [101,110,100]]) rfl (Rw.cons (α:=List UInt8) (cs:=[S [115,101,110,100]]) rfl (Rw.cons (α:=List UInt8) (cs:=[S [114,101,99,118]]) rfl (Rw.cons (α:=List UInt8) (cs:=[S [111,117,116]]) rfl (Rw.cons (α:=List UInt8) (cs:=[S [115,116,97,114,116]]) rfl (Rw.cons (α:=List UInt8) (cs:=[S [114,101,115,117,109,101]]) rfl (Rw.cons (α:=List UInt8) (cs:=[S [121,105,101,108,100]]) rfl (Rw.cons (α:=List UInt8) (cs:=[S [97,108,105,118,101]]) rfl Rw.nil)))))))))))))))))))))))))))))))) (Nat.le_of_ble_eq_true rfl)
  obtain rfl:=oI h
  refine ret1 rfl d0 ?_
  exact ⟨_,(some ⟨b4,0,none⟩),32,rfl,le7,hS,m6⟩
theorem asm_has_w {μ0:M} {w0 w:World} {rsF:List Res} (hg:Le Gm μ0) {p_1:Int} {r:Bool×Bool}  (h:asm_has p_1=some r) (hS:Sq μ0 w0 w (rsF)):CallsV Tryz.prog 14 [.int .i64 p_1] w (fun v w'=>∃ (μ':M) ,v=.tuple ⟨[.bool r.1,.bool r.2]⟩∧Le μ0 μ'∧Sq μ' w0 w' (rsF)):=by
  unfold asm_has at h
  refine enter Tryz.func14 rfl (frm:=[_,_,_,_,_,_,_,_,_,_,_,_,_,_,_,_,_]) rfl ?_
  refine cseq ?_
  refine creg ?_
  refine wl (s_assign ec (dt p2) ?_)
  refine wl (s_assign ec (dt p3) ?_)
  refine wnil ?_
  refine xn ?_
  refine cseq ?_
  refine cseq ?_
  refine creg ?_
  refine wl (s_move (et d0) (dt p4) ?_)
  refine wnil ?_
  refine xn ?_
  refine cblock ?_
  refine cseq ?_
  refine cseq ?_
  refine creg ?_
  refine wl (s_eqi (et d4) ec (dt p6) ?_)
  refine wl (s_assign (et d6) (dt p5) ?_)
  refine wnil ?_
  refine xn ?_
  refine ccutE (rg 7 8) (by decide) (fun m w=>∃ (μx:M) (b1:Bool),m=(yK5 (.i (.bool b1)::(yK1 (yO8 7 []))))∧asm_has_j1 p_1 b1=some r∧Le μ0 μx∧Sq μx w0 w (rsF)) (by rintro _ _ ⟨_,_,rfl,_⟩; rfl) ?_ ?_
  · refine cifd (et d5) (fun h2=>?_) (fun h2=>?_)
    · replace h:=iT h2 h
      refine cskip ?_
      refine xl ?_
      exact ⟨_,_,rfl,(aK5 (aI (aK1 (aO8 aZ)))),_,(decide (p_1=2)),rfl,h,Le.r,hS⟩
    · replace h:=iF h2 h
      refine cseq ?_
      refine creg ?_
      refine wl (s_eqi (et d4) ec (dt p7) ?_)
      refine wl (s_assign (et d7) (dt p5) ?_)
      refine wnil ?_
      refine xn ?_
      refine cifd (et d5) (fun h3=>?_) (fun h3=>?_)
      · replace h:=iT h3 h
        refine cskip ?_
        refine xl ?_
        exact ⟨_,_,rfl,(aK5 (aI (aK1 (aO8 aZ)))),_,(decide (p_1=3)),rfl,h,Le.r,hS⟩
      · replace h:=iF h3 h
        refine cseq ?_
        refine creg ?_
        refine wl (s_eqi (et d4) ec (dt p8) ?_)
        refine wl (s_assign (et d8) (dt p5) ?_)
        refine wnil ?_
        refine xn ?_
        refine cifd (et d5) (fun h4=>?_) (fun h4=>?_)
        · replace h:=iT h4 h
          refine cskip ?_
          refine xl ?_
          exact ⟨_,_,rfl,(aK5 (aI (aK1 (aO8 aZ)))),_,(decide (p_1=4)),rfl,h,Le.r,hS⟩
        · replace h:=iF h4 h
          refine cseq ?_
          refine creg ?_
          refine wl (s_eqi (et d4) ec (dt p9) ?_)
          refine wl (s_assign (et d9) (dt p5) ?_)
          refine wnil ?_
          refine xn ?_
          refine cifd (et d5) (fun h5=>?_) (fun h5=>?_)
          · replace h:=iT h5 h
            refine cskip ?_
            refine xl ?_
            exact ⟨_,_,rfl,(aK5 (aI (aK1 (aO8 aZ)))),_,(decide (p_1=21)),rfl,h,Le.r,hS⟩
          · replace h:=iF h5 h
            refine cseq ?_
            refine creg ?_
            refine wl (s_eqi (et d4) ec (dt (q10 p0)) ?_)
            refine wl (s_assign (et (k10 d0)) (dt p5) ?_)
            refine wnil ?_
            refine xn ?_
            refine cifd (et d5) (fun h6=>?_) (fun h6=>?_)
            · replace h:=iT h6 h
              refine cskip ?_
              refine xl ?_
              exact ⟨_,_,rfl,(aK5 (aI (aK1 (aO8 aZ)))),_,(decide (p_1=22)),rfl,h,Le.r,hS⟩
            · replace h:=iF h6 h
              refine cseq ?_
              refine creg ?_
              refine wl (s_eqi (et d4) ec (dt (q10 p1)) ?_)
              refine wl (s_assign (et (k10 d1)) (dt p5) ?_)
              refine wnil ?_
              refine xn ?_
              refine cifd (et d5) (fun h7=>?_) (fun h7=>?_)
              · replace h:=iT h7 h
                refine cskip ?_
                refine xl ?_
                exact ⟨_,_,rfl,(aK5 (aI (aK1 (aO8 aZ)))),_,(decide (p_1=23)),rfl,h,Le.r,hS⟩
              · replace h:=iF h7 h
                refine cseq ?_
                refine creg ?_
                refine wl (s_eqi (et d4) ec (dt (q10 p2)) ?_)
                refine wl (s_assign (et (k10 d2)) (dt p5) ?_)
                refine wnil ?_
                refine xn ?_
                refine cifd (et d5) (fun h8=>?_) (fun h8=>?_)
                · replace h:=iT h8 h
                  refine cskip ?_
                  refine xl ?_
                  exact ⟨_,_,rfl,(aK5 (aI (aK1 (aO8 aZ)))),_,(decide (p_1=26)),rfl,h,Le.r,hS⟩
                · replace h:=iF h8 h
                  refine cseq ?_
                  refine creg ?_
                  refine wl (s_eqi (et d4) ec (dt (q10 p3)) ?_)
                  refine wl (s_assign (et (k10 d3)) (dt p5) ?_)
                  refine wnil ?_
                  refine xn ?_
                  refine cifd (et d5) (fun h9=>?_) (fun h9=>?_)
                  · replace h:=iT h9 h
                    refine cskip ?_
                    refine xl ?_
                    exact ⟨_,_,rfl,(aK5 (aI (aK1 (aO8 aZ)))),_,(decide (p_1=27)),rfl,h,Le.r,hS⟩
                  · replace h:=iF h9 h
                    refine creg ?_
                    refine wl (s_eqi (et d4) ec (dt (q10 p4)) ?_)
                    refine wl (s_assign (et (k10 d4)) (dt p5) ?_)
                    refine wnil ?_
                    refine xl ?_
                    exact ⟨_,_,rfl,(aK5 (aI (aK1 (aO8 aZ)))),_,(decide (p_1=29)),rfl,h,Le.r,hS⟩
  · rintro _ t w1 ⟨μ1,b1,rfl,h,le10,hS⟩
    unfold asm_has_j1 at h
    refine nrm (mK5 (mi (mK1 (mO8 mz)))) ?_
    refine xn ?_
    refine cifb (et d5) (fun h11=>?_) (fun h11=>?_)
    · replace h:=iT h11 h
      refine cseq ?_
      refine creg ?_
      refine wl (s_assign ec (dt p2) ?_)
      refine wl (s_assign ec (dt p3) ?_)
      refine wnil ?_
      refine xn ?_
      refine cret ?_
      refine (fun h=>br (xr h)) ?_
      obtain rfl:=oI h
      refine ret2 rfl d2 d3 ?_
      exact ⟨_,rfl,le10,hS⟩
    · replace h:=iF h11 h
      refine cskip ?_
      refine (fun h=>bn (xn h)) ?_
      refine cseq ?_
      refine creg ?_
      refine wl (s_move (et d0) (dt (q10 p5)) ?_)
      refine wl (s_eqi (et (k10 d5)) ec (dt (q10 p6)) ?_)
      refine wl (s_assign (et (k10 d6)) (dt p2) ?_)
      refine wl (s_assign ec (dt p3) ?_)
      refine wnil ?_
      refine xn ?_
      refine cret ?_
      obtain rfl:=oI h
      refine ret2 rfl d2 d3 ?_
      exact ⟨_,rfl,le10,hS⟩
theorem asm_numbers_w {μ0:M} {w0 w:World} {rsF:List Res} (hg:Le Gm μ0) {p_1:List (List UInt8)} {a1:Option Addr} {c2:Nat} {r:List Int×Bool} (m3:Sl μ0 a1 c2 p_1) (h:asm_numbers p_1=some r) (hS:Sq μ0 w0 w (rsF)):CallsV Tryz.prog 33 [.slice a1 p_1.length c2] w (fun v w'=>∃ (μ':M) (a4:Option Addr) (c5:Nat),v=.tuple ⟨[.slice a4 r.1.length c5,.bool r.2]⟩∧Le μ0 μ'∧Sq μ' w0 w' (rsF)∧Sl μ' a4 c5 r.1):=by
  unfold asm_numbers at h
  refine enter Tryz.func33 rfl (frm:=[_,_,_,_,_,_,_,_,_,_,_,_,_,_,_,_,_,_,_,_,_,_,_,_,_,_,_,_]) rfl ?_
  refine cseq ?_
  refine creg ?_
  refine wl (s_assign ec (dt p2) ?_)
  refine wl (s_assign ec (dt p3) ?_)
  refine wnil ?_
  refine xn ?_
  refine cseq ?_
  refine creg ?_
  refine wl (s_assign ec (dt p4) ?_)
  refine wnil ?_
  refine xn ?_
  refine cseq ?_
  refine cseq ?_
  refine creg ?_
  refine wl (s_move (et d0) (dt p9) ?_)
  refine wl (s_lensl Tryz.underlying57 (et d9) (dt (q10 p0)) ?_)
  refine wl (s_move ec (dt (q10 p1)) ?_)
  refine wnil ?_
  refine xn ?_
  refine cblock ?_
  replace hS:=hS.nilRow 3 (Mo.sz Int)
  refine cloopE (rg 2 2++rg 6 3++rg 12 15) (by decide) (fun n m w=>∃ (μx:M) (i27:Int) (l30:List Int) (v28:Value) (cs29:List Value),m=(yK2 (yO2 2 (.i (v28)::(yK1 (yO3 6 (yK2 (.i (.int .i64 i27)::(yO10 12 (yO5 22 [])))))))))∧asm_numbers_l1 p_1 n i27 l30=some r∧Le μ0 μx∧Sq μx w0 w (.row v28 3 1 l30.length cs29::rsF)∧Rw μx cs29 l30) (by rintro _ _ _ ⟨_,_,_,_,_,rfl,_⟩; rfl) _ _ (aK2 (aO2 (aI (aK1 (aO3 (aK2 (aI (aO10 (aO5 aZ))))))))) ⟨_,0,[],(.slice none 0 0),[],rfl,h,Le.r,hS,Rw.nil⟩ ?_
  rintro n_1 _ t w1 ⟨μ1,i27,l30,v28,cs29,rfl,h,le51,hS,m52⟩
  cases n_1 with
  | zero=>cases h
  | succ n_1 =>
  unfold asm_numbers_l1 at h
  refine cnrm (mK2 (mO2 (mi (mK1 (mO3 (mK2 (mi (mO10 (mO5 mz))))))))) ?_
  refine cseq ?_
  refine creg ?_
  refine wl (s_lss (et (k10 d1)) (et (k10 d0)) (dt (q10 p2)) ?_)
  refine wnil ?_
  refine xn ?_
  refine cseq ?_
  refine cifd (et (k10 d2)) (fun h53=>?_) (fun h53=>?_)
  · replace h:=iT h53 h
    refine cskip ?_
    refine xn ?_
    refine cseq ?_
    refine cblock ?_
    refine cseq ?_
    refine creg ?_
    replace h:=bI h; obtain ⟨x54,g55,h⟩:=h
    obtain ⟨b56,o57,cs58,e59,f60,m61⟩:=SlR.elem (m3.up le51) g55
    obtain rfl:=m61
    refine wl (s_iax Tryz.underlying57 ti9 (et d9) (et (k10 d1)) e59 (dt (q10 p3)) ?_)
    refine wl (s_load ti9 (et (k10 d3)) ((f60 _ hS.a).one d0) (dt (q10 p4)) ?_)
    refine wl (s_assign (et (k10 d4)) (dt p6) ?_)
    refine wnil ?_
    refine xn ?_
    refine cseq ?_
    refine creg ?_
    refine wl (s_move (et d6) (dt (q10 p6)) ?_)
    replace h:=bI h; obtain ⟨r62,g63,h⟩:=h
    refine wl (s_callv isfn32 ef (e1 (et (k10 d6)) e0) (asm_number_w (hg.t le51) g63 hS) ?_); rintro _ w2 ⟨rfl,hS⟩; refine pu (dt (q10 p7)) ?_
    refine wl (s_move (et (k10 d7)) (dt (q10 p5)) ?_)
    refine wl (s_extr (et (k10 d5)) d0 (dt (q10 p8)) ?_)
    refine wl (s_extr (et (k10 d5)) d1 (dt (q10 p9)) ?_)
    refine wl (s_assign (et (k10 d8)) (dt p7) ?_)
    refine wl (s_assign (et (k10 d9)) (dt p8) ?_)
    refine wnil ?_
    refine xn ?_
    refine cseq ?_
    refine cseq ?_
    refine creg ?_
    refine wl (s_move (et d8) (dt (q20 p0)) ?_)
    refine wl (s_not (et (k20 d0)) (dt (q20 p1)) ?_)
    refine wnil ?_
    refine xn ?_
    refine cifnb (et (k20 d1)) (fun h64=>?_) (fun h64=>?_)
    · replace h:=iF h64 h
      refine cseq ?_
      refine creg ?_
      refine wl (s_assign ec (dt p2) ?_)
      refine wl (s_assign ec (dt p3) ?_)
      refine wnil ?_
      refine xn ?_
      refine cret ?_
      refine (fun h=>xr (br (xr (xr (br (xr h)))))) ?_
      obtain rfl:=oI h
      refine ret2 rfl d2 d3 ?_
      replace hS:=hS.drop Rm.z
      exact ⟨_,none,0,rfl,le51,hS,Sl.nil⟩
    · replace h:=iT h64 h
      refine cskip ?_
      refine xn ?_
      refine creg ?_
      refine wl (s_move (et d4) (dt (q20 p2)) ?_)
      refine wl (s_move (et d7) (dt (q20 p3)) ?_)
      refine wl (s_bsl Tryz.underlying38 ti3 (Parts.s (et (k20 d3)) rfl Parts.z) rfl rfl hS ?_); clear hS; intro b65 w3 hb66 hS; refine pu (dt (q20 p4)) ?_
      replace h:=bI h; obtain ⟨l69,g70,h⟩:=h
      have m71:Rw μ1 [.int .i64 r62.1] [r62.1]:=(Rw.one (α:=Int) rfl)
      have m68:=Rw.app m52 m71 g70
      refine wl (s_app1 Tryz.underlying38 ti3 rfl (et (k20 d2)) (et (k20 d4)) hS d1 (hS.blk d0).cells m71 rfl g70 (by decide) ?_); clear hS; intro v67 w4 rs_ hp_ hS; cases (show _=rs_ from hp_)
      replace hS:=Sep.reput hS p1; refine pu (dt (q20 p5)) ?_
      replace hS:=hS.drop Rm.z
      refine wl (s_assign (et (k20 d5)) (dt p4) ?_)
      refine wnil ?_
      refine (fun h=>bn (xn h)) ?_
      refine creg ?_
      replace h:=bI h; obtain ⟨i72,g73,h⟩:=h
      refine wl (s_addc (et (k10 d1)) ec g73 (dt (q20 p6)) ?_)
      refine wl (s_move (et (k20 d6)) (dt (q10 p1)) ?_)
      refine wnil ?_
      refine xl ?_
      exact ⟨n_1,_,_,rfl,(aK2 (aO2 (aI (aK1 (aO3 (aK2 (aI (aO10 (aO5 aZ))))))))),⟨_,i72,l69,v67,(cs29++[.int .i64 r62.1]),rfl,h,le51,hS,m68⟩,Nat.lt_succ_self _⟩
  · replace h:=iF h53 h
    refine cexit ?_
    refine (fun h=>xe (xe (bh h))) ?_
    refine xn ?_
    refine cseq ?_
    refine creg ?_
    refine wl (s_move (et d4) (dt (q20 p7)) ?_)
    refine wl (s_assign (et (k20 d7)) (dt p2) ?_)
    refine wl (s_assign ec (dt p3) ?_)
    refine wnil ?_
    refine xn ?_
    refine cret ?_
    obtain ⟨μ2,a74,c75,e78,le77,m76,hq_⟩:=Sep.frzRow hS m52 rfl; clear hS
    subst e78; have hS:=hq_; clear hq_
    obtain rfl:=oI h
    refine ret2 rfl d2 d3 ?_
    exact ⟨_,a74,c75,rfl,(le51.t le77),hS,m76⟩
theorem asm_instr_w {μ0:M} {w0 w:World} {rsF:List Res} (hg:Le Gm μ0) {p_1:List UInt8} {r:TInstr×Bool}  (h:asm_instr p_1=some r) (hS:Sq μ0 w0 w (rsF)):CallsV Tryz.prog 20 [S p_1] w (fun v w'=>∃ (μ':M) ,v=.tuple ⟨[.agg ⟨[.int .i64 r.1.Op,.int .i64 r.1.A,.int .i64 r.1.N]⟩,.bool r.2]⟩∧Le μ0 μ'∧Sq μ' w0 w' (rsF)):=by
  unfold asm_instr at h
  refine enter Tryz.func20 rfl (frm:=[_,_,_,_,_,_,_,_,_,_,_,_,_,_,_,_,_,_,_,_,_,_,_,_,_,_,_,_,_,_,_,_,_,_,_,_,_,_,_,_,_,_,_,_,_,_,_,_,_,_,_,_,_,_,_,_,_]) rfl ?_
  refine cseq ?_
  refine creg ?_
  refine wl (s_alloc ti43 hS ?_); clear hS; intro b1 w1 hb2 hS; refine pu (dt p2) ?_
  refine wl (s_assign ec (dt p3) ?_)
  refine wnil ?_
  refine xn ?_
  refine cseq ?_
  refine creg ?_
  refine wl (s_move (et d0) (dt (q10 p1)) ?_)
  replace h:=bI h; obtain ⟨l3,g4,h⟩:=h
  refine wl (s_callv isfn30 ef (e1 (et (k10 d1)) (e1 ec e0)) (s_split_w hg g4 hS) ?_)
  rintro _ w2 ⟨μ1,a5,c6,rfl,le7,hS,m8⟩; refine pu (dt (q10 p2)) ?_
  refine wl (s_assign (et (k10 d2)) (dt p4) ?_)
  refine wnil ?_
  refine xn ?_
  refine cseq ?_
  refine ccutE (rg 13 7) (by decide) (fun m w=>∃ (μx:M) (b9:Nat) (i10:Int),m=(yK5 (.i (.pointer (some ⟨b9,0,none⟩))::(yK7 (yO7 13 []))))∧asm_instr_j1 l3 i10=some r∧Le μ1 μx∧Sq μx w0 w (.blk b1 43 [.int .i64 0,.int .i64 0,.int .i64 0]::.blk b9 43 [.int .i64 i10,.int .i64 0,.int .i64 0]::rsF)) (by rintro _ _ ⟨_,_,_,rfl,_⟩; rfl) ?_ ?_
  · refine cdraw (by kernel_rfl) rfl fun w3 hh_ ho_ ht_ hu_=>?_
    replace hS:=hS.drew hh_ ho_ ht_ hu_
    refine sf_start ?_
    refine sf_pu (i:=1) [1,2,3,4,5,6,8] (blind_of fun _ _ _ h=>h.2) rfl rfl rfl (u_move (et d4)) (q10 p4) ?_
    replace h:=bI h; obtain ⟨x11,g12,h⟩:=h
    obtain ⟨b13,o14,cs15,e16,f17,m18⟩:=SlR.elem m8 g12
    obtain rfl:=m18
    refine sf_pu (i:=2) [2,3,4,5,6,8] (blind_of fun _ _ _ h=>h.2) rfl rfl rfl (u_iax Tryz.underlying57 ti9 (et (k10 d4)) ec e16) (q10 p5) ?_
    refine sf_rd (i:=3) [3,4,5,6,8] (blind_of fun _ _ _ h=>h.2) rfl rfl rfl (u_load ti9 (et (k10 d5)) ((f17 _ hS.a).one d0)) (q10 p6) ?_
    refine sf2 (i:=0) (j:=7) rfl rfl rfl rfl rfl rfl rfl (wn0 rfl) (wn0 rfl) ?_ ?_
    · replace h:=bI h; obtain ⟨r19,g20,h⟩:=h
      refine id (s_callv isfn13 ef e0 (asm_mnem_w (hg.t le7) g20 hS) ?_)
      rintro _ w4 ⟨μ2,a22,c23,rfl,le21,hS,m24⟩
      refine pu (dt (q10 p3)) ?_
      refine ⟨(Mons.s (u_load ti9 (et (k10 d5)) ((f17 _ (le21 _ hS.a)).one d0)) Mons.z),?_⟩
      refine sf2 (i:=4) (j:=7) rfl rfl rfl rfl rfl rfl rfl (wn0 rfl) (wn0 rfl) ?_ ?_
      · replace h:=bI h; obtain ⟨r25,g26,h⟩:=h
        refine id (s_callv isfn31 ef (e1 (et (k10 d3)) (e1 (et (k10 d6)) e0)) (s_idx_w m24 g26 hS) ?_); rintro _ w5 ⟨rfl,hS⟩; refine pu (dt (q10 p7)) ?_
        refine ⟨Mons.z,?_⟩
        replace h:=bI h; obtain ⟨i27,g28,h⟩:=h
        refine sf_pu (i:=5) [5,6,8] (blind_of fun _ _ _ h=>h.2) rfl rfl rfl (u_addc (et (k10 d7)) ec g28) (q10 p8) ?_
        refine sf_pu (i:=6) [6,8] (blind_of fun _ _ _ h=>h.2) rfl rfl rfl (u_build ti43 pl43 (Fl.o rfl (et (k10 d8)) rfl rfl p0 Fl.z)) (q10 p9) ?_
        refine sf1 rfl rfl rfl rfl (wn0 rfl) (s_alloc ti43 hS ?_); clear hS; intro b29 w6 hb30 hS; refine pu (dt p5) ?_
        refine ⟨Mons.z,?_⟩
        refine sf1 rfl rfl rfl rfl (wn0 rfl) (s_storeA ti43 (et d5) (et (k10 d9)) rfl rfl hS d0 rfl p0 dn ?_)
        clear hS; intro w7 hS
        refine ⟨Mons.z,?_⟩
        refine sf_nil ?_
        refine xl ?_
        replace hS:=hS.bg (Bg.s Bg.z)
        exact ⟨_,_,rfl,(aK5 (aI (aK7 (aO7 aZ)))),_,b29,i27,rfl,h,le21,hS⟩
      · replace h:=bI h; obtain ⟨r25,g26,h⟩:=h
        replace h:=bI h; obtain ⟨i27,g28,h⟩:=h
        refine id (s_alloc ti43 hS ?_); clear hS; intro b31 w8 hb32 hS; refine pu (dt p5) ?_
        refine ⟨(Mons.s (u_load ti9 (et (k10 d5)) ((f17 _ (le21 _ hS.a)).one d0)) Mons.z),?_⟩
        refine sf1 rfl rfl rfl rfl (wn0 rfl) (s_callv isfn31 ef (e1 (et (k10 d3)) (e1 (et (k10 d6)) e0)) (s_idx_w m24 g26 hS) ?_); rintro _ w9 ⟨rfl,hS⟩; refine pu (dt (q10 p7)) ?_
        refine ⟨Mons.z,?_⟩
        refine sf_pu (i:=5) [5,6,8] (blind_of fun _ _ _ h=>h.2) rfl rfl rfl (u_addc (et (k10 d7)) ec g28) (q10 p8) ?_
        refine sf_pu (i:=6) [6,8] (blind_of fun _ _ _ h=>h.2) rfl rfl rfl (u_build ti43 pl43 (Fl.o rfl (et (k10 d8)) rfl rfl p0 Fl.z)) (q10 p9) ?_
        refine sf1 rfl rfl rfl rfl (wn0 rfl) (s_storeA ti43 (et d5) (et (k10 d9)) rfl rfl hS d0 rfl p0 dn ?_)
        clear hS; intro w10 hS
        refine ⟨Mons.z,?_⟩
        refine sf_nil ?_
        refine xl ?_
        replace hS:=hS.bg (Bg.s Bg.z)
        exact ⟨_,_,rfl,(aK5 (aI (aK7 (aO7 aZ)))),_,b31,i27,rfl,h,le21,hS⟩
    · replace h:=bI h; obtain ⟨r19,g20,h⟩:=h
      replace h:=bI h; obtain ⟨r25,g26,h⟩:=h
      replace h:=bI h; obtain ⟨i27,g28,h⟩:=h
      refine id (s_alloc ti43 hS ?_); clear hS; intro b33 w11 hb34 hS; refine pu (dt p5) ?_
      refine ⟨(Mons.s (u_load ti9 (et (k10 d5)) ((f17 _ hS.a).one d0)) Mons.z),?_⟩
      refine sf1 rfl rfl rfl rfl (wn0 rfl) (s_callv isfn13 ef e0 (asm_mnem_w (hg.t le7) g20 hS) ?_)
      rintro _ w12 ⟨μ3,a36,c37,rfl,le35,hS,m38⟩
      refine pu (dt (q10 p3)) ?_
      refine ⟨(Mons.s (u_load ti9 (et (k10 d5)) ((f17 _ (le35 _ hS.a)).one d0)) Mons.z),?_⟩
      refine sf1 rfl rfl rfl rfl (wn0 rfl) (s_callv isfn31 ef (e1 (et (k10 d3)) (e1 (et (k10 d6)) e0)) (s_idx_w m38 g26 hS) ?_); rintro _ w13 ⟨rfl,hS⟩; refine pu (dt (q10 p7)) ?_
      refine ⟨Mons.z,?_⟩
      refine sf_pu (i:=5) [5,6,8] (blind_of fun _ _ _ h=>h.2) rfl rfl rfl (u_addc (et (k10 d7)) ec g28) (q10 p8) ?_
      refine sf_pu (i:=6) [6,8] (blind_of fun _ _ _ h=>h.2) rfl rfl rfl (u_build ti43 pl43 (Fl.o rfl (et (k10 d8)) rfl rfl p0 Fl.z)) (q10 p9) ?_
      refine sf1 rfl rfl rfl rfl (wn0 rfl) (s_storeA ti43 (et d5) (et (k10 d9)) rfl rfl hS d0 rfl p0 dn ?_)
      clear hS; intro w14 hS
      refine ⟨Mons.z,?_⟩
      refine sf_nil ?_
      refine xl ?_
      replace hS:=hS.bg (Bg.s Bg.z)
      exact ⟨_,_,rfl,(aK5 (aI (aK7 (aO7 aZ)))),_,b33,i27,rfl,h,le35,hS⟩
  · rintro _ t w15 ⟨μ4,b9,i10,rfl,h,le39,hS⟩
    unfold asm_instr_j1 at h
    refine nrm (mK5 (mi (mK7 (mO7 mz)))) ?_
    refine xn ?_
    refine cseq ?_
    refine creg ?_
    refine wl (s_fa fa43_0 (et d5) rfl (dt (q20 p1)) ?_)
    refine wl (s_load ti3 (et (k20 d1)) ((hS.blk d1).cell d0) (dt (q20 p2)) ?_)
    replace h:=bI h; obtain ⟨r40,g41,h⟩:=h
    refine wl (s_callv isfn14 ef (e1 (et (k20 d2)) e0) (asm_has_w (hg.t (le7.t le39)) g41 hS) ?_)
    rintro _ w16 ⟨μ5,rfl,le42,hS⟩
    refine pu (dt (q20 p3)) ?_
    refine wl (s_move (et (k20 d3)) (dt (q20 p0)) ?_)
    refine wl (s_extr (et (k20 d0)) d0 (dt (q20 p4)) ?_)
    refine wl (s_extr (et (k20 d0)) d1 (dt (q20 p5)) ?_)
    refine wl (s_assign (et (k20 d4)) (dt p6) ?_)
    refine wl (s_assign (et (k20 d5)) (dt p7) ?_)
    refine wnil ?_
    refine xn ?_
    refine cseq ?_
    refine creg ?_
    refine wl (s_assign ec (dt p8) ?_)
    refine wnil ?_
    refine xn ?_
    refine cseq ?_
    refine cseq ?_
    refine ccutE (rg 26 3) (by decide) (fun m w=>∃ (μx:M) (b43:Bool),m=(yK20 (yK6 (yO3 26 (.i (.bool b43)::[]))))∧asm_instr_j2 l3 i10 r40 b43=some r∧Le μ5 μx∧Sq μx w0 w (.blk b1 43 [.int .i64 0,.int .i64 0,.int .i64 0]::.blk b9 43 [.int .i64 i10,.int .i64 0,.int .i64 0]::rsF)) (by rintro _ _ ⟨_,_,rfl,_⟩; rfl) ?_ ?_
    · refine creg ?_
      refine wl (s_move (et d6) (dt (q20 p6)) ?_)
      refine wl (s_move (et (k20 d6)) (dt (q20 p7)) ?_)
      refine wspb (k20 d7) (q20 p7) (q20 p7) (fun h44=>?_) (fun h44=>?_)
      · replace h:=iT h44 h
        refine wn rfl (k20 d7) rfl (dt (q20 p8)) ?_
        refine wl (s_pickt (et (k20 d7)) ec (dt (q20 p9)) ?_)
        refine wnil ?_
        refine xl ?_
        exact ⟨_,_,rfl,(aK20 (aK6 (aO3 (aI aZ)))),_,true,rfl,h,Le.r,hS⟩
      · replace h:=iF h44 h
        refine wy rfl (k20 d7) (s_move (et d7) (dt (q20 p8)) ?_)
        refine wl (s_pickf (et (k20 d7)) (et (k20 d8)) (dt (q20 p9)) ?_)
        refine wnil ?_
        refine xl ?_
        exact ⟨_,_,rfl,(aK20 (aK6 (aO3 (aI aZ)))),_,r40.2,rfl,h,Le.r,hS⟩
    · rintro _ t w17 ⟨μ6,b43,rfl,h,le45,hS⟩
      unfold asm_instr_j2 at h
      refine nrm (mK20 (mK6 (mO3 (mi mz)))) ?_
      refine xn ?_
      refine ccutE ([]) (by decide) (fun m w=>∃ (μx:M) (i46:Int),m=(yK8 (.i (.int .i64 i46)::[]))∧asm_instr_j3 l3 i10 r40 i46=some r∧Le μ6 μx∧Sq μx w0 w (.blk b1 43 [.int .i64 0,.int .i64 0,.int .i64 0]::.blk b9 43 [.int .i64 i10,.int .i64 0,.int .i64 0]::rsF)) (by rintro _ _ ⟨_,_,rfl,_⟩; rfl) ?_ ?_
      · refine cifb (et (k20 d9)) (fun h47=>?_) (fun h47=>?_)
        · replace h:=iT h47 h
          refine creg ?_
          refine wl (s_assign ec (dt p8) ?_)
          refine wnil ?_
          refine xl ?_
          exact ⟨_,_,rfl,(aK8 (aI aZ)),_,2,rfl,h,Le.r,hS⟩
        · replace h:=iF h47 h
          refine cskip ?_
          refine xl ?_
          exact ⟨_,_,rfl,(aK8 (aI aZ)),_,1,rfl,h,Le.r,hS⟩
      · rintro _ t w18 ⟨μ7,i46,rfl,h,le48,hS⟩
        unfold asm_instr_j3 at h
        refine nrm (mK8 (mi mz)) ?_
        refine xn ?_
        refine cseq ?_
        refine cseq ?_
        refine ccutE (rg 30 8) (by decide) (fun m w=>∃ (μx:M) (b49:Bool),m=(yK20 (yK10 (yO8 30 (.i (.bool b49)::[]))))∧asm_instr_j4 l3 i10 r40 i46 b49=some r∧Le μ7 μx∧Sq μx w0 w (.blk b1 43 [.int .i64 0,.int .i64 0,.int .i64 0]::.blk b9 43 [.int .i64 i10,.int .i64 0,.int .i64 0]::rsF)) (by rintro _ _ ⟨_,_,rfl,_⟩; rfl) ?_ ?_
        · refine creg ?_
          refine wl (s_fa fa43_0 (et d5) rfl (dt (q30 p0)) ?_)
          refine wl (s_load ti3 (et (k30 d0)) ((hS.blk d1).cell d0) (dt (q30 p1)) ?_)
          refine wl (s_eqi (et (k30 d1)) ec (dt (q30 p2)) ?_)
          refine wl (s_move (et (k30 d2)) (dt (q30 p3)) ?_)
          refine wspd (k30 d3) (q30 p3) (q30 p3) (fun h50=>?_) (fun h50=>?_)
          · replace h:=iT h50 h
            refine wn rfl (k30 d3) rfl (dt (q30 p4)) ?_
            refine wn rfl (k30 d3) rfl (dt (q30 p5)) ?_
            refine wn rfl (k30 d3) rfl (dt (q30 p6)) ?_
            refine wn rfl (k30 d3) rfl (dt (q30 p7)) ?_
            refine wl (s_pickt (et (k30 d3)) ec (dt (q30 p8)) ?_)
            refine wnil ?_
            refine xl ?_
            exact ⟨_,_,rfl,(aK20 (aK10 (aO8 (aI aZ)))),_,true,rfl,h,Le.r,hS⟩
          · replace h:=iF h50 h
            refine wy rfl (k30 d3) (s_move (et d4) (dt (q30 p4)) ?_)
            refine wy rfl (k30 d3) (s_lensl Tryz.underlying57 (et (k30 d4)) (dt (q30 p5)) ?_)
            refine wy rfl (k30 d3) (s_move (et d8) (dt (q30 p6)) ?_)
            refine wy rfl (k30 d3) (s_nei (et (k30 d5)) (et (k30 d6)) (dt (q30 p7)) ?_)
            refine wl (s_pickf (et (k30 d3)) (et (k30 d7)) (dt (q30 p8)) ?_)
            refine wnil ?_
            refine xl ?_
            exact ⟨_,_,rfl,(aK20 (aK10 (aO8 (aI aZ)))),_,(decide ((l3.length:Int)≠i46)),rfl,h,Le.r,hS⟩
        · rintro _ t w19 ⟨μ8,b49,rfl,h,le51,hS⟩
          unfold asm_instr_j4 at h
          refine nrm (mK20 (mK10 (mO8 (mi mz)))) ?_
          refine xn ?_
          refine cifb (et (k30 d8)) (fun h52=>?_) (fun h52=>?_)
          · replace h:=iT h52 h
            refine cseq ?_
            refine creg ?_
            refine wl (s_loads ti43 (et d5) (hS.blk d1).cells rfl (dt (q30 p9)) ?_)
            refine wl (s_storeA ti43 (et d2) (et (k30 d9)) rfl rfl hS d0 rfl p0 dn ?_)
            clear hS; intro w20 hS
            refine wl (s_assign ec (dt p3) ?_)
            refine wnil ?_
            refine xn ?_
            refine cret ?_
            refine xr ?_
            obtain rfl:=oI h
            refine retN rfl (RVs.s (.a d2 ti43 (hS.blk d0).cells rfl) (RVs.s (.t d3) RVs.z)) ?_
            replace hS:=hS.drop Rm.z
            replace hS:=hS.drop Rm.z
            exact ⟨_,rfl,(le7.t (le39.t (le42.t (le45.t (le48.t le51))))),hS⟩
          · replace h:=iF h52 h
            refine cskip ?_
            refine xn ?_
            refine cseq ?_
            refine cseq ?_
            refine creg ?_
            refine wl (s_move (et d8) (dt (q40 p0)) ?_)
            refine wl (s_eqi (et (k40 d0)) ec (dt (q40 p1)) ?_)
            refine wnil ?_
            refine xn ?_
            refine cifd (et (k40 d1)) (fun h53=>?_) (fun h53=>?_)
            · replace h:=iT h53 h
              refine cseq ?_
              refine creg ?_
              refine wl (s_loads ti43 (et d5) (hS.blk d1).cells rfl (dt (q40 p2)) ?_)
              refine wl (s_storeA ti43 (et d2) (et (k40 d2)) rfl rfl hS d0 rfl p0 dn ?_)
              clear hS; intro w21 hS
              refine wl (s_assign ec (dt p3) ?_)
              refine wnil ?_
              refine xn ?_
              refine cret ?_
              refine xr ?_
              obtain rfl:=oI h
              refine retN rfl (RVs.s (.a d2 ti43 (hS.blk d0).cells rfl) (RVs.s (.t d3) RVs.z)) ?_
              replace hS:=hS.drop Rm.z
              replace hS:=hS.drop Rm.z
              exact ⟨_,rfl,(le7.t (le39.t (le42.t (le45.t (le48.t le51))))),hS⟩
            · replace h:=iF h53 h
              refine cskip ?_
              refine xn ?_
              refine cseq ?_
              refine creg ?_
              refine wl (s_move (et d4) (dt (q40 p4)) ?_)
              replace h:=bI h; obtain ⟨x54,g55,h⟩:=h
              obtain ⟨b56,o57,cs58,e59,f60,m61⟩:=SlR.elem (m8.up (le39.t (le42.t (le45.t (le48.t le51))))) g55
              obtain rfl:=m61
              refine wl (s_iax Tryz.underlying57 ti9 (et (k40 d4)) ec e59 (dt (q40 p5)) ?_)
              refine wl (s_load ti9 (et (k40 d5)) ((f60 _ hS.a).one d0) (dt (q40 p6)) ?_)
              replace h:=bI h; obtain ⟨r62,g63,h⟩:=h
              refine wl (s_callv isfn32 ef (e1 (et (k40 d6)) e0) (asm_number_w (hg.t (le7.t (le39.t (le42.t (le45.t (le48.t le51)))))) g63 hS) ?_); rintro _ w22 ⟨rfl,hS⟩; refine pu (dt (q40 p7)) ?_
              refine wl (s_move (et (k40 d7)) (dt (q40 p3)) ?_)
              refine wl (s_extr (et (k40 d3)) d0 (dt (q40 p8)) ?_)
              refine wl (s_extr (et (k40 d3)) d1 (dt (q40 p9)) ?_)
              refine wl (s_assign (et (k40 d8)) (dt p9) ?_)
              refine wl (s_assign (et (k40 d9)) (dt (q10 p0)) ?_)
              refine wnil ?_
              refine xn ?_
              refine cseq ?_
              refine cseq ?_
              refine creg ?_
              refine wl (s_move (et d6) (dt (q50 p0)) ?_)
              refine wnil ?_
              refine xn ?_
              refine ccutE (rg 51 4) (by decide) (fun m w=>∃ (μx:M) (i65:Int) (i66:Int),m=(yK50 (yK1 (yO4 51 [])))∧asm_instr_j5 i10 r62 i65 i66=some r∧Le μ8 μx∧Sq μx w0 w (.blk b1 43 [.int .i64 0,.int .i64 0,.int .i64 0]::.blk b9 43 [.int .i64 i10,.int .i64 i65,.int .i64 i66]::rsF)) (by rintro _ _ ⟨_,_,_,rfl,_⟩; rfl) ?_ ?_
              · refine cifb (et (k50 d0)) (fun h67=>?_) (fun h67=>?_)
                · replace h:=iT h67 h
                  refine creg ?_
                  refine wl (s_move (et d9) (dt (q50 p1)) ?_)
                  refine wl (s_fa fa43_2 (et d5) rfl (dt (q50 p2)) ?_)
                  refine wl (s_store1 ti2 (et (k50 d2)) (et (k50 d1)) rfl hS d1 p2 rfl p1 dn ?_)
                  clear hS; intro w23 hS
                  refine wnil ?_
                  refine xl ?_
                  exact ⟨_,_,rfl,(aK50 (aK1 (aO4 aZ))),_,0,r62.1,rfl,h,Le.r,hS⟩
                · replace h:=iF h67 h
                  refine creg ?_
                  refine wl (s_move (et d9) (dt (q50 p3)) ?_)
                  refine wl (s_fa fa43_1 (et d5) rfl (dt (q50 p4)) ?_)
                  refine wl (s_store1 ti3 (et (k50 d4)) (et (k50 d3)) rfl hS d1 p1 rfl p1 dn ?_)
                  clear hS; intro w24 hS
                  refine wnil ?_
                  refine xl ?_
                  exact ⟨_,_,rfl,(aK50 (aK1 (aO4 aZ))),_,r62.1,0,rfl,h,Le.r,hS⟩
              · rintro _ t w25 ⟨μ9,i65,i66,rfl,h,le68,hS⟩
                unfold asm_instr_j5 at h
                refine nrm (mK50 (mK1 (mO4 mz))) ?_
                refine xn ?_
                refine cseq ?_
                refine creg ?_
                refine wl (s_loads ti43 (et d5) (hS.blk d1).cells rfl (dt (q50 p5)) ?_)
                refine wl (s_move (et (k10 d0)) (dt (q50 p6)) ?_)
                refine wl (s_storeA ti43 (et d2) (et (k50 d5)) rfl rfl hS d0 rfl p0 dn ?_)
                clear hS; intro w26 hS
                refine wl (s_assign (et (k50 d6)) (dt p3) ?_)
                refine wnil ?_
                refine xn ?_
                refine cret ?_
                obtain rfl:=oI h
                refine retN rfl (RVs.s (.a d2 ti43 (hS.blk d0).cells rfl) (RVs.s (.t d3) RVs.z)) ?_
                replace hS:=hS.drop Rm.z
                replace hS:=hS.drop Rm.z
                exact ⟨_,rfl,(le7.t (le39.t (le42.t (le45.t (le48.t (le51.t le68)))))),hS⟩
theorem asm_head_w {μ0:M} {w0 w:World} {rsF:List Res} (hg:Le Gm μ0) {b1:Nat} {boxe_2:List TBi} {v3:Value} {cs4:List Value} {unit_6:List TUnit} {v7:Value} {cs8:List Value} {v9:Value} {cs10:List Value} {p_2:List UInt8} {r:Bool×List TBi×List TUnit} (m5:Rw μ0 cs4 boxe_2) (m11:Ru (β:=TInstr) μ0 cs8 v9 cs10 unit_6) (h:asm_head boxe_2 unit_6 p_2=some r) (hS:Sq μ0 w0 w (.blk b1 25 [v3,v7]::.row v3 56 2 boxe_2.length cs4::.row v7 41 6 unit_6.length cs8::.row v9 43 3 (lcode (β:=TInstr) unit_6).length cs10::rsF)):CallsV Tryz.prog 21 [.pointer (some ⟨b1,0,none⟩),S p_2] w (fun v w'=>∃ (μ':M) (v12:Value) (cs13:List Value) (v15:Value) (cs16:List Value) (v17:Value) (cs18:List Value),v=.bool r.1∧Le μ0 μ'∧Sq μ' w0 w' (.blk b1 25 [v12,v15]::.row v12 56 2 r.2.1.length cs13::.row v15 41 6 r.2.2.length cs16::.row v17 43 3 (lcode (β:=TInstr) r.2.2).length cs18::rsF)∧Rw μ' cs13 r.2.1∧Ru (β:=TInstr) μ' cs16 v17 cs18 r.2.2):=by
  unfold asm_head at h
  refine enter Tryz.func21 rfl (frm:=[_,_,_,_,_,_,_,_,_,_,_,_,_,_,_,_,_,_,_,_,_,_,_,_,_,_,_,_,_,_,_,_,_,_,_,_,_,_,_,_,_,_,_,_,_,_,_,_,_,_,_,_,_,_,_,_,_,_,_,_,_,_,_,_,_,_,_,_,_,_,_,_,_,_,_,_,_,_,_,_,_,_,_,_,_]) rfl ?_
  refine cseq ?_
  refine creg ?_
  refine wl (s_assign ec (dt p4) ?_)
  refine wnil ?_
  refine xn ?_
  refine cseq ?_
  refine creg ?_
  refine wl (s_move (et d1) (dt p9) ?_)
  replace h:=bI h; obtain ⟨l20,g21,h⟩:=h
  refine wl (s_callv isfn30 ef (e1 (et d9) (e1 ec e0)) (s_split_w hg g21 hS) ?_)
  rintro _ w1 ⟨μ1,a22,c23,rfl,le24,hS,m25⟩; refine pu (dt (q10 p0)) ?_
  refine wl (s_assign (et (k10 d0)) (dt p5) ?_)
  refine wnil ?_
  refine xn ?_
  refine cseq ?_
  refine creg ?_
  refine wl (s_move (et d5) (dt (q10 p2)) ?_)
  replace h:=bI h; obtain ⟨l26,g27,h⟩:=h
  obtain ⟨a28,c29,e30,m31⟩:=Sl.slc (i:=some 1) (j:=none) m25 g27
  refine wl (s_slc Tryz.underlying57 ti9 (et (k10 d2)) (.s ec) .n e30 (dt (q10 p3)) ?_)
  replace h:=bI h; obtain ⟨r32,g33,h⟩:=h
  refine wl (s_callv isfn33 ef (e1 (et (k10 d3)) e0) (asm_numbers_w (hg.t le24) m31 g33 hS) ?_)
  rintro _ w2 ⟨μ2,a35,c36,rfl,le34,hS,m37⟩
  refine pu (dt (q10 p4)) ?_
  refine wl (s_move (et (k10 d4)) (dt (q10 p1)) ?_)
  refine wl (s_extr (et (k10 d1)) d0 (dt (q10 p5)) ?_)
  refine wl (s_extr (et (k10 d1)) d1 (dt (q10 p6)) ?_)
  refine wl (s_assign (et (k10 d5)) (dt p6) ?_)
  refine wl (s_assign (et (k10 d6)) (dt p7) ?_)
  refine wnil ?_
  refine xn ?_
  refine cseq ?_
  refine cseq ?_
  refine creg ?_
  refine wl (s_move (et d7) (dt (q10 p7)) ?_)
  refine wl (s_not (et (k10 d7)) (dt (q10 p8)) ?_)
  refine wnil ?_
  refine xn ?_
  refine cifnb (et (k10 d8)) (fun h38=>?_) (fun h38=>?_)
  · replace h:=iF h38 h
    refine cseq ?_
    refine creg ?_
    refine wl (s_assign ec (dt p4) ?_)
    refine wnil ?_
    refine xn ?_
    refine cret ?_
    refine xr ?_
    obtain rfl:=oI h
    refine ret1 rfl d4 ?_
    exact ⟨_,v3,cs4,v7,cs8,v9,cs10,rfl,(le24.t le34),hS,(m5.up (le24.t le34)),(m11.up (le24.t le34))⟩
  · replace h:=iT h38 h
    refine cskip ?_
    refine xn ?_
    refine cseq ?_
    refine cseq ?_
    refine creg ?_
    refine wl (s_move (et d5) (dt (q10 p9)) ?_)
    replace h:=bI h; obtain ⟨x39,g40,h⟩:=h
    obtain ⟨b41,o42,cs43,e44,f45,m46⟩:=SlR.elem (m25.up le34) g40
    obtain rfl:=m46
    refine wl (s_iax Tryz.underlying57 ti9 (et (k10 d9)) ec e44 (dt (q20 p0)) ?_)
    refine wl (s_load ti9 (et (k20 d0)) ((f45 _ hS.a).one d0) (dt (q20 p1)) ?_)
    refine wl (s_eqs (et (k20 d1)) ec (dt (q20 p2)) ?_)
    refine wnil ?_
    refine xn ?_
    refine cifd (et (k20 d2)) (fun h47=>?_) (fun h47=>?_)
    · replace h:=iT h47 h
      refine cseq ?_
      refine cseq ?_
      refine ccutE (rg 23 10) (by decide) (fun m w=>∃ (μx:M) (b48:Bool),m=(yK20 (yK3 (yO10 23 (.i (.bool b48)::[]))))∧asm_head_j1 boxe_2 unit_6 r32 b48=some r∧Le μ2 μx∧Sq μx w0 w (.blk b1 25 [v3,v7]::.row v3 56 2 boxe_2.length cs4::.row v7 41 6 unit_6.length cs8::.row v9 43 3 (lcode (β:=TInstr) unit_6).length cs10::rsF)) (by rintro _ _ ⟨_,_,rfl,_⟩; rfl) ?_ ?_
      · refine creg ?_
        refine wl (s_move (et d6) (dt (q20 p3)) ?_)
        refine wl (s_lensl Tryz.underlying38 (et (k20 d3)) (dt (q20 p4)) ?_)
        refine wl (s_nei (et (k20 d4)) ec (dt (q20 p5)) ?_)
        refine wl (s_move (et (k20 d5)) (dt (q20 p6)) ?_)
        refine wspd (k20 d6) (q20 p6) (q20 p6) (fun h49=>?_) (fun h49=>?_)
        · replace h:=iT h49 h
          refine wn rfl (k20 d6) rfl (dt (q20 p7)) ?_
          refine wn rfl (k20 d6) rfl (dt (q20 p8)) ?_
          refine wn rfl (k20 d6) rfl (dt (q20 p9)) ?_
          refine wn rfl (k20 d6) rfl (dt (q30 p0)) ?_
          refine wn rfl (k20 d6) rfl (dt (q30 p1)) ?_
          refine wn rfl (k20 d6) rfl (dt (q30 p2)) ?_
          refine wl (s_pickt (et (k20 d6)) ec (dt (q30 p3)) ?_)
          refine wnil ?_
          refine xl ?_
          exact ⟨_,_,rfl,(aK20 (aK3 (aO10 (aI aZ)))),_,true,rfl,h,Le.r,hS⟩
        · replace h:=iF h49 h
          refine wy rfl (k20 d6) (s_move (et d0) (dt (q20 p7)) ?_)
          refine wy rfl (k20 d6) (s_nilck (et (k20 d7)) (dt (q20 p8)) ?_)
          refine wy rfl (k20 d6) (s_fa fa25_1 (et (k20 d8)) rfl (dt (q20 p9)) ?_)
          refine wy rfl (k20 d6) (s_load ti23 (et (k20 d9)) ((hS.blk d0).cell d1) (dt (q30 p0)) ?_)
          refine wy rfl (k20 d6) (s_lenv Tryz.underlying23 (et (k30 d0)) (hS.get d2).isSl (dt (q30 p1)) ?_)
          refine wy rfl (k20 d6) (s_gtr (et (k30 d1)) ec (dt (q30 p2)) ?_)
          refine wl (s_pickf (et (k20 d6)) (et (k30 d2)) (dt (q30 p3)) ?_)
          refine wnil ?_
          refine xl ?_
          exact ⟨_,_,rfl,(aK20 (aK3 (aO10 (aI aZ)))),_,(decide ((0:Int)<(unit_6.length:Int))),rfl,h,Le.r,hS⟩
      · rintro _ t w3 ⟨μ3,b48,rfl,h,le50,hS⟩
        unfold asm_head_j1 at h
        refine nrm (mK20 (mK3 (mO10 (mi mz)))) ?_
        refine xn ?_
        refine cifb (et (k30 d3)) (fun h51=>?_) (fun h51=>?_)
        · replace h:=iT h51 h
          refine cseq ?_
          refine creg ?_
          refine wl (s_assign ec (dt p4) ?_)
          refine wnil ?_
          refine xn ?_
          refine cret ?_
          refine (fun h=>xr (xr h)) ?_
          obtain rfl:=oI h
          refine ret1 rfl d4 ?_
          exact ⟨_,v3,cs4,v7,cs8,v9,cs10,rfl,(le24.t (le34.t le50)),hS,(m5.up (le24.t (le34.t le50))),(m11.up (le24.t (le34.t le50)))⟩
        · replace h:=iF h51 h
          refine cskip ?_
          refine xn ?_
          refine cseq ?_
          refine ccutE (rg 34 16) (by decide) (fun m w=>∃ (μx:M) (l54:List TBi) (v52:Value) (cs53:List Value),m=(yK20 (yK10 (yK4 (yO10 34 (yO6 44 [])))))∧asm_head_j2 unit_6 l54=some r∧Le μ3 μx∧Sq μx w0 w (.blk b1 25 [v52,v7]::.row v52 56 2 l54.length cs53::.row v7 41 6 unit_6.length cs8::.row v9 43 3 (lcode (β:=TInstr) unit_6).length cs10::rsF)∧Rw μx cs53 l54) (by rintro _ _ ⟨_,_,_,_,rfl,_⟩; rfl) ?_ ?_
          · refine cdraw (by kernel_rfl) rfl fun w4 hh_ ho_ ht_ hu_=>?_
            replace hS:=hS.drew hh_ ho_ ht_ hu_
            refine sf_start ?_
            refine sf_pu (i:=0) [0,14,15,16] (blind_of fun _ _ _ h=>h.2) rfl rfl rfl (u_move (et d0)) (q30 p4) ?_
            refine sf_pu (i:=1) [1,2,3,4,13,14,15,16] (blind_of fun _ _ _ h=>h.2) rfl rfl rfl (u_move (et d0)) (q30 p5) ?_
            refine sf_pu (i:=2) [2,3,4,13,14,15,16] (blind_of fun _ _ _ h=>h.2) rfl rfl rfl (u_nilck (et (k30 d5))) (q30 p6) ?_
            refine sf_pu (i:=3) [3,4,13,14,15,16] (blind_of fun _ _ _ h=>h.2) rfl rfl rfl (u_fa fa25_0 (et (k30 d6)) rfl) (q30 p7) ?_
            refine sf_rd (i:=4) [4,13,14,15,16] (blind_of fun _ _ _ h=>h.2) rfl rfl rfl (u_load ti22 (et (k30 d7)) ((hS.blk d0).cell d0)) (q30 p8) ?_
            refine sf_pu (i:=5) [5,6,7,11,12,13,14,15,16] (blind_of fun _ _ _ h=>h.2) rfl rfl rfl (u_move (et d6)) (q30 p9) ?_
            replace h:=bI h; obtain ⟨x56,g57,h⟩:=h
            obtain ⟨b58,o59,cs60,e61,f62,m63⟩:=SlR.elem (m37.up le50) g57
            obtain rfl:=m63
            refine sf_pu (i:=6) [6,7,11,12,13,14,15,16] (blind_of fun _ _ _ h=>h.2) rfl rfl rfl (u_iax Tryz.underlying38 ti3 (et (k30 d9)) ec e61) (q40 p0) ?_
            refine sf_rd (i:=7) [7,11,12,13,14,15,16] (blind_of fun _ _ _ h=>h.2) rfl rfl rfl (u_load ti3 (et (k40 d0)) ((f62 _ hS.a).one d0)) (q40 p1) ?_
            refine sf_pu (i:=8) [8,9,10,11,12,13,14,15,16] (blind_of fun _ _ _ h=>h.2) rfl rfl rfl (u_move (et d6)) (q40 p2) ?_
            replace h:=bI h; obtain ⟨x64,g65,h⟩:=h
            obtain ⟨b66,o67,cs68,e69,f70,m71⟩:=SlR.elem (m37.up le50) g65
            obtain rfl:=m71
            refine sf_pu (i:=9) [9,10,11,12,13,14,15,16] (blind_of fun _ _ _ h=>h.2) rfl rfl rfl (u_iax Tryz.underlying38 ti3 (et (k40 d2)) ec e69) (q40 p3) ?_
            refine sf_rd (i:=10) [10,11,12,13,14,15,16] (blind_of fun _ _ _ h=>h.2) rfl rfl rfl (u_load ti3 (et (k40 d3)) ((f70 _ hS.a).one d0)) (q40 p4) ?_
            refine sf_pu (i:=11) [11,12,13,14,15,16] (blind_of fun _ _ _ h=>h.2) rfl rfl rfl (u_build ti56 pl56 (Fl.o rfl (et (k40 d1)) rfl rfl p0 (Fl.o rfl (et (k40 d4)) rfl rfl p1 Fl.z))) (q40 p5) ?_
            refine sf1 rfl rfl rfl rfl (wn0 rfl) (s_bsl1 Tryz.underlying22 ti56 rfl (et (k40 d5)) rfl hS ?_); clear hS; intro b72 w5 hb73 hS; refine pu (dt (q40 p6)) ?_
            refine ⟨(Mons.s (u_load ti22 (et (k30 d7)) ((hS.blk d1).cell d0)) Mons.z),?_⟩
            replace h:=bI h; obtain ⟨l76,g77,h⟩:=h
            have m78:Rw μ3 [.int .i64 x56,.int .i64 x64] [(TBi.mk x56 x64)]:=(Rw.one (α:=TBi) rfl)
            have m75:=Rw.app (m5.up (le24.t (le34.t le50))) m78 g77
            refine sf1 rfl rfl rfl rfl (wn0 rfl) (s_app1 Tryz.underlying22 ti56 rfl (et (k30 d8)) (et (k40 d6)) hS d2 (hS.blk d0).cells m78 rfl g77 (by decide) ?_); clear hS; intro v74 w6 rs_ hp_ hS; cases (show _=rs_ from hp_)
            replace hS:=Sep.reput hS p2; refine pu (dt (q40 p7)) ?_
            replace hS:=hS.drop Rm.z
            refine ⟨Mons.z,?_⟩
            refine sf_pu (i:=14) [14,15,16] (blind_of fun _ _ _ h=>h.2) rfl rfl rfl (u_nilck (et (k30 d4))) (q40 p8) ?_
            refine sf_pu (i:=15) [15,16] (blind_of fun _ _ _ h=>h.2) rfl rfl rfl (u_fa fa25_0 (et (k40 d8)) rfl) (q40 p9) ?_
            refine sf1 rfl rfl rfl rfl (wn0 rfl) (s_store1 ti22 (et (k40 d9)) (et (k40 d7)) (hS.get d1).cellV hS d0 p0 rfl p0 dn ?_)
            clear hS; intro w7 hS
            refine ⟨Mons.z,?_⟩
            refine sf_nil ?_
            refine xl ?_
            exact ⟨_,_,rfl,(aK20 (aK10 (aK4 (aO10 (aO6 aZ))))),_,l76,v74,(cs4++[.int .i64 x56,.int .i64 x64]),rfl,h,Le.r,hS,m75⟩
          · rintro _ t w8 ⟨μ4,l54,v52,cs53,rfl,h,le79,hS,m80⟩
            unfold asm_head_j2 at h
            refine nrm (mK20 (mK10 (mK4 (mO10 (mO6 mz))))) ?_
            refine xn ?_
            refine cseq ?_
            refine creg ?_
            refine wl (s_assign ec (dt p4) ?_)
            refine wnil ?_
            refine xn ?_
            refine cret ?_
            refine xr ?_
            obtain rfl:=oI h
            refine ret1 rfl d4 ?_
            exact ⟨_,v52,cs53,v7,cs8,v9,cs10,rfl,(le24.t (le34.t (le50.t le79))),hS,m80,(m11.up (le24.t (le34.t (le50.t le79))))⟩
    · replace h:=iF h47 h
      refine cskip ?_
      refine xn ?_
      refine cseq ?_
      refine ccutE (rg 50 5) (by decide) (fun m w=>∃ (μx:M) (i81:Int),m=(yK8 (.i (.int .i64 i81)::(yK20 (yK20 (yK1 (yO5 50 []))))))∧asm_head_j3 boxe_2 unit_6 r32 i81=some r∧Le μ2 μx∧Sq μx w0 w (.blk b1 25 [v3,v7]::.row v3 56 2 boxe_2.length cs4::.row v7 41 6 unit_6.length cs8::.row v9 43 3 (lcode (β:=TInstr) unit_6).length cs10::rsF)) (by rintro _ _ ⟨_,_,rfl,_⟩; rfl) ?_ ?_
      · refine cdraw (by kernel_rfl) rfl fun w9 hh_ ho_ ht_ hu_=>?_
        replace hS:=hS.drew hh_ ho_ ht_ hu_
        refine sf_start ?_
        refine sf_pu (i:=1) [1,2,3,4,5] (blind_of fun _ _ _ h=>h.2) rfl rfl rfl (u_move (et d5)) (q50 p1) ?_
        replace h:=bI h; obtain ⟨x82,g83,h⟩:=h
        obtain ⟨b84,o85,cs86,e87,f88,m89⟩:=SlR.elem (m25.up le34) g83
        obtain rfl:=m89
        refine sf_pu (i:=2) [2,3,4,5] (blind_of fun _ _ _ h=>h.2) rfl rfl rfl (u_iax Tryz.underlying57 ti9 (et (k50 d1)) ec e87) (q50 p2) ?_
        refine sf_rd (i:=3) [3,4,5] (blind_of fun _ _ _ h=>h.2) rfl rfl rfl (u_load ti9 (et (k50 d2)) ((f88 _ hS.a).one d0)) (q50 p3) ?_
        replace h:=bI h; obtain ⟨r90,g91,h⟩:=h
        refine sf1 rfl rfl rfl rfl (wn0 rfl) (s_callv isfn12 ef e0 (asm_units_w (hg.t (le24.t le34)) g91 hS) ?_)
        rintro _ w10 ⟨μ5,a93,c94,rfl,le92,hS,m95⟩
        refine pu (dt (q50 p0)) ?_
        refine ⟨(Mons.s (u_load ti9 (et (k50 d2)) ((f88 _ (le92 _ hS.a)).one d0)) Mons.z),?_⟩
        replace h:=bI h; obtain ⟨r96,g97,h⟩:=h
        refine sf1 rfl rfl rfl rfl (wn0 rfl) (s_callv isfn31 ef (e1 (et (k50 d0)) (e1 (et (k50 d3)) e0)) (s_idx_w m95 g97 hS) ?_); rintro _ w11 ⟨rfl,hS⟩; refine pu (dt (q50 p4)) ?_
        refine ⟨Mons.z,?_⟩
        refine sf_pu (i:=5) [5] (blind_of fun _ _ _ h=>h.2) rfl rfl rfl (u_assign (et (k50 d4))) p8 ?_
        refine sf_nil ?_
        refine xl ?_
        exact ⟨_,_,rfl,(aK8 (aI (aK20 (aK20 (aK1 (aO5 aZ)))))),_,r96,rfl,h,le92,hS⟩
      · rintro _ t w12 ⟨μ6,i81,rfl,h,le98,hS⟩
        unfold asm_head_j3 at h
        refine nrm (mK8 (mi (mK20 (mK20 (mK1 (mO5 mz)))))) ?_
        refine xn ?_
        refine cseq ?_
        refine cseq ?_
        refine ccutE (rg 55 6) (by decide) (fun m w=>∃ (μx:M) (b99:Bool),m=(yK50 (yK5 (yO6 55 (.i (.bool b99)::[]))))∧asm_head_j4 boxe_2 unit_6 r32 i81 b99=some r∧Le μ6 μx∧Sq μx w0 w (.blk b1 25 [v3,v7]::.row v3 56 2 boxe_2.length cs4::.row v7 41 6 unit_6.length cs8::.row v9 43 3 (lcode (β:=TInstr) unit_6).length cs10::rsF)) (by rintro _ _ ⟨_,_,rfl,_⟩; rfl) ?_ ?_
        · refine creg ?_
          refine wl (s_move (et d8) (dt (q50 p5)) ?_)
          refine wl (s_lss (et (k50 d5)) ec (dt (q50 p6)) ?_)
          refine wl (s_move (et (k50 d6)) (dt (q50 p7)) ?_)
          refine wspd (k50 d7) (q50 p7) (q50 p7) (fun h100=>?_) (fun h100=>?_)
          · replace h:=iT h100 h
            refine wn rfl (k50 d7) rfl (dt (q50 p8)) ?_
            refine wn rfl (k50 d7) rfl (dt (q50 p9)) ?_
            refine wn rfl (k50 d7) rfl (dt (q60 p0)) ?_
            refine wl (s_pickt (et (k50 d7)) ec (dt (q60 p1)) ?_)
            refine wnil ?_
            refine xl ?_
            exact ⟨_,_,rfl,(aK50 (aK5 (aO6 (aI aZ)))),_,true,rfl,h,Le.r,hS⟩
          · replace h:=iF h100 h
            refine wy rfl (k50 d7) (s_move (et d6) (dt (q50 p8)) ?_)
            refine wy rfl (k50 d7) (s_lensl Tryz.underlying38 (et (k50 d8)) (dt (q50 p9)) ?_)
            refine wy rfl (k50 d7) (s_lss (et (k50 d9)) ec (dt (q60 p0)) ?_)
            refine wl (s_pickf (et (k50 d7)) (et (k60 d0)) (dt (q60 p1)) ?_)
            refine wnil ?_
            refine xl ?_
            exact ⟨_,_,rfl,(aK50 (aK5 (aO6 (aI aZ)))),_,(decide ((r32.1.length:Int)<3)),rfl,h,Le.r,hS⟩
        · rintro _ t w13 ⟨μ7,b99,rfl,h,le101,hS⟩
          unfold asm_head_j4 at h
          refine nrm (mK50 (mK5 (mO6 (mi mz)))) ?_
          refine xn ?_
          refine cifb (et (k60 d1)) (fun h102=>?_) (fun h102=>?_)
          · replace h:=iT h102 h
            refine cseq ?_
            refine creg ?_
            refine wl (s_assign ec (dt p4) ?_)
            refine wnil ?_
            refine xn ?_
            refine cret ?_
            refine xr ?_
            obtain rfl:=oI h
            refine ret1 rfl d4 ?_
            exact ⟨_,v3,cs4,v7,cs8,v9,cs10,rfl,(le24.t (le34.t (le98.t le101))),hS,(m5.up (le24.t (le34.t (le98.t le101)))),(m11.up (le24.t (le34.t (le98.t le101))))⟩
          · replace h:=iF h102 h
            refine cskip ?_
            refine xn ?_
            refine cseq ?_
            refine ccutE (rg 62 23) (by decide +kernel) (fun m w=>∃ (μx:M) (l107:List TUnit) (v105:Value) (cs106:List Value) (v103:Value) (cs104:List Value),m=(yK50 (yK10 (yK2 (yO20 62 (yO3 82 [])))))∧asm_head_j5 boxe_2 l107=some r∧Le μ7 μx∧Sq μx w0 w (.blk b1 25 [v3,v105]::.row v3 56 2 boxe_2.length cs4::.row v105 41 6 l107.length cs106::.row v103 43 3 (lcode (β:=TInstr) l107).length cs104::rsF)∧Ru (β:=TInstr) μx cs106 v103 cs104 l107) (by rintro _ _ ⟨_,_,_,_,_,_,rfl,_⟩; rfl) ?_ ?_
            · refine cdraw (by kernel_rfl) rfl fun w14 hh_ ho_ ht_ hu_=>?_
              replace hS:=hS.drew hh_ ho_ ht_ hu_
              refine sf_start ?_
              refine sf_pu (i:=0) [0,21,22,23] (blind_of fun _ _ _ h=>h.2) rfl rfl rfl (u_move (et d0)) (q60 p2) ?_
              refine sf_pu (i:=1) [1,2,3,4,20,21,22,23] (blind_of fun _ _ _ h=>h.2) rfl rfl rfl (u_move (et d0)) (q60 p3) ?_
              refine sf_pu (i:=2) [2,3,4,20,21,22,23] (blind_of fun _ _ _ h=>h.2) rfl rfl rfl (u_nilck (et (k60 d3))) (q60 p4) ?_
              refine sf_pu (i:=3) [3,4,20,21,22,23] (blind_of fun _ _ _ h=>h.2) rfl rfl rfl (u_fa fa25_1 (et (k60 d4)) rfl) (q60 p5) ?_
              refine sf_rd (i:=4) [4,20,21,22,23] (blind_of fun _ _ _ h=>h.2) rfl rfl rfl (u_load ti23 (et (k60 d5)) ((hS.blk d0).cell d1)) (q60 p6) ?_
              refine sf_pu (i:=5) [5,6,18,19,20,21,22,23] (blind_of fun _ _ _ h=>h.2) rfl rfl rfl (u_move (et d8)) (q60 p7) ?_
              replace h:=bI h; obtain ⟨i109,g110,h⟩:=h
              refine sf_pu (i:=6) [6,18,19,20,21,22,23] (blind_of fun _ _ _ h=>h.2) rfl rfl rfl (u_addc ec (et (k60 d7)) g110) (q60 p8) ?_
              refine sf_pu (i:=7) [7,8,9,18,19,20,21,22,23] (blind_of fun _ _ _ h=>h.2) rfl rfl rfl (u_move (et d6)) (q60 p9) ?_
              replace h:=bI h; obtain ⟨x111,g112,h⟩:=h
              obtain ⟨b113,o114,cs115,e116,f117,m118⟩:=SlR.elem (m37.up (le98.t le101)) g112
              obtain rfl:=m118
              refine sf_pu (i:=8) [8,9,18,19,20,21,22,23] (blind_of fun _ _ _ h=>h.2) rfl rfl rfl (u_iax Tryz.underlying38 ti3 (et (k60 d9)) ec e116) (q70 p0) ?_
              refine sf_rd (i:=9) [9,18,19,20,21,22,23] (blind_of fun _ _ _ h=>h.2) rfl rfl rfl (u_load ti3 (et (k70 d0)) ((f117 _ hS.a).one d0)) (q70 p1) ?_
              refine sf_pu (i:=10) [10,11,12,18,19,20,21,22,23] (blind_of fun _ _ _ h=>h.2) rfl rfl rfl (u_move (et d6)) (q70 p2) ?_
              replace h:=bI h; obtain ⟨x119,g120,h⟩:=h
              obtain ⟨b121,o122,cs123,e124,f125,m126⟩:=SlR.elem (m37.up (le98.t le101)) g120
              obtain rfl:=m126
              refine sf_pu (i:=11) [11,12,18,19,20,21,22,23] (blind_of fun _ _ _ h=>h.2) rfl rfl rfl (u_iax Tryz.underlying38 ti3 (et (k70 d2)) ec e124) (q70 p3) ?_
              refine sf_rd (i:=12) [12,18,19,20,21,22,23] (blind_of fun _ _ _ h=>h.2) rfl rfl rfl (u_load ti3 (et (k70 d3)) ((f125 _ hS.a).one d0)) (q70 p4) ?_
              refine sf_pu (i:=13) [13,14,15,18,19,20,21,22,23] (blind_of fun _ _ _ h=>h.2) rfl rfl rfl (u_move (et d6)) (q70 p5) ?_
              replace h:=bI h; obtain ⟨x127,g128,h⟩:=h
              obtain ⟨b129,o130,cs131,e132,f133,m134⟩:=SlR.elem (m37.up (le98.t le101)) g128
              obtain rfl:=m134
              refine sf_pu (i:=14) [14,15,18,19,20,21,22,23] (blind_of fun _ _ _ h=>h.2) rfl rfl rfl (u_iax Tryz.underlying38 ti3 (et (k70 d5)) ec e132) (q70 p6) ?_
              refine sf_rd (i:=15) [15,18,19,20,21,22,23] (blind_of fun _ _ _ h=>h.2) rfl rfl rfl (u_load ti3 (et (k70 d6)) ((f133 _ hS.a).one d0)) (q70 p7) ?_
              refine sf_pu (i:=16) [16,17,18,19,20,21,22,23] (blind_of fun _ _ _ h=>h.2) rfl rfl rfl (u_move (et d6)) (q70 p8) ?_
              replace h:=bI h; obtain ⟨l135,g136,h⟩:=h
              obtain ⟨a137,c138,e139,m140⟩:=Sl.slc (i:=some 3) (j:=none) (m37.up (le98.t le101)) g136
              refine sf_pu (i:=17) [17,18,19,20,21,22,23] (blind_of fun _ _ _ h=>h.2) rfl rfl rfl (u_slc Tryz.underlying38 ti3 (et (k70 d8)) (.s ec) .n e139) (q70 p9) ?_
              refine sf_pu (i:=18) [18,19,20,21,22,23] (blind_of fun _ _ _ h=>h.2) rfl rfl rfl (u_build ti41 pl41 (Fl.o rfl (et (k60 d8)) rfl rfl p0 (Fl.o rfl (et (k70 d1)) rfl rfl p1 (Fl.o rfl (et (k70 d4)) rfl rfl p3 (Fl.o rfl (et (k70 d7)) rfl rfl p4 (Fl.o rfl (et (k70 d9)) rfl rfl p2 Fl.z)))))) (q80 p0) ?_
              refine sf1 rfl rfl rfl rfl (wn0 rfl) (s_bsl1 Tryz.underlying23 ti41 rfl (et (k80 d0)) rfl hS ?_); clear hS; intro b141 w15 hb142 hS; refine pu (dt (q80 p1)) ?_
              refine ⟨(Mons.s (u_load ti23 (et (k60 d5)) ((hS.blk d1).cell d1)) Mons.z),?_⟩
              replace hS:=hS.bg (Bg.s (Bg.s (Bg.s (Bg.s Bg.z))))
              obtain ⟨μ8,le144,m143,hq_⟩:=Sep.frzCode hS (m11.up (le24.t (le34.t (le98.t le101)))); clear hS; have hS:=hq_; clear hq_
              replace h:=bI h; obtain ⟨l147,g148,h⟩:=h
              have m149:Rw μ8 [.int .i64 i109,.int .i64 x111,.slice a137 l135.length c138,.int .i64 x119,.int .i64 x127,.slice none 0 0] [(TUnit.mk i109 x111 l135 x119 x127 ([]:List TInstr))]:=(Rw.one (α:=TUnit) (TUnit.i ⟨a137,c138,none,0,rfl,(m140.up le144),Sl.nil⟩))
              have m146:=Rw.app m143 m149 g148
              refine sf1 rfl rfl rfl rfl (wn0 rfl) (s_app1 Tryz.underlying23 ti41 rfl (et (k60 d6)) (et (k80 d1)) hS d3 (hS.blk d0).cells m149 rfl g148 (by decide) ?_); clear hS; intro v145 w16 rs_ hp_ hS; cases (show _=rs_ from hp_)
              replace hS:=Sep.reput hS p3; refine pu (dt (q80 p2)) ?_
              replace hS:=hS.drop Rm.z
              have m150:=Ru.push (α:=TUnit) (β:=TInstr) (x:=(TUnit.mk i109 x111 l135 x119 x127 ([]:List TInstr))) (lc:=[.int .i64 i109,.int .i64 x111,.slice a137 l135.length c138,.int .i64 x119,.int .i64 x127]) m143 ⟨a137,c138,rfl,(m140.up le144)⟩ rfl g148
              replace hS:=hS.nilRow 43 (Mo.sz TInstr)
              replace hS:Sq μ8 w0 w16 (.row (.slice none 0 0) 43 3 (lcode (β:=TInstr) l147).length ([]:List Value)::.blk b1 25 [v3,v7]::.row v3 56 2 boxe_2.length cs4::.row v145 41 6 l147.length (cs8++[.int .i64 i109,.int .i64 x111,.slice a137 l135.length c138,.int .i64 x119,.int .i64 x127,.slice none 0 0])::rsF):=by rw [lcode_push (α:=TUnit) (β:=TInstr) (x:=(TUnit.mk i109 x111 l135 x119 x127 ([]:List TInstr))) rfl g148]; exact hS
              refine ⟨Mons.z,?_⟩
              refine sf_pu (i:=21) [21,22,23] (blind_of fun _ _ _ h=>h.2) rfl rfl rfl (u_nilck (et (k60 d2))) (q80 p3) ?_
              refine sf_pu (i:=22) [22,23] (blind_of fun _ _ _ h=>h.2) rfl rfl rfl (u_fa fa25_1 (et (k80 d3)) rfl) (q80 p4) ?_
              refine sf1 rfl rfl rfl rfl (wn0 rfl) (s_store1 ti23 (et (k80 d4)) (et (k80 d2)) (hS.get d3).cellV hS d1 p1 rfl p1 dn ?_)
              clear hS; intro w17 hS
              refine ⟨Mons.z,?_⟩
              refine sf_nil ?_
              refine xl ?_
              replace hS:=hS.bg (Bg.s (Bg.s (Bg.s Bg.z)))
              replace hS:=hS.bg (Bg.s (Bg.s (Bg.s Bg.z)))
              replace hS:=hS.bg (Bg.s (Bg.s (Bg.s Bg.z)))
              exact ⟨_,_,rfl,(aK50 (aK10 (aK2 (aO20 (aO3 aZ))))),_,l147,v145,(cs8++[.int .i64 i109,.int .i64 x111,.slice a137 l135.length c138,.int .i64 x119,.int .i64 x127,.slice none 0 0]),(.slice none 0 0),([]:List Value),rfl,h,le144,hS,m150⟩
            · rintro _ t w18 ⟨μ9,l107,v105,cs106,v103,cs104,rfl,h,le151,hS,m152⟩
              unfold asm_head_j5 at h
              refine nrm (mK50 (mK10 (mK2 (mO20 (mO3 mz))))) ?_
              refine xn ?_
              refine cseq ?_
              refine creg ?_
              refine wl (s_assign ec (dt p4) ?_)
              refine wnil ?_
              refine xn ?_
              refine cret ?_
              obtain rfl:=oI h
              refine ret1 rfl d4 ?_
              exact ⟨_,v3,cs4,v105,cs106,v103,cs104,rfl,(le24.t (le34.t (le98.t (le101.t le151)))),hS,(m5.up (le24.t (le34.t (le98.t (le101.t le151))))),m152⟩
theorem asm_read_w {fu:Nat} {μ0:M} {w0 w:World} {rsF:List Res} (hg:Le Gm μ0) {p_1:List UInt8} {r:TModule×TFault}  (h:asm_read fu p_1=some r) (hS:Sq μ0 w0 w (rsF)):CallsV Tryz.prog 6 [S p_1] w (fun v w'=>∃ (μ':M) (a1:Option Addr) (c2:Nat) (a4:Option Addr) (c5:Nat),v=.tuple ⟨[.agg ⟨[.slice a1 r.1.Boxes.length c2,.slice a4 r.1.Units.length c5]⟩,.agg ⟨[.int .i64 r.2.Err,.int .i64 r.2.At]⟩]⟩∧Le μ0 μ'∧Sq μ' w0 w' (rsF)∧Sl μ' a1 c2 r.1.Boxes∧Sl μ' a4 c5 r.1.Units):=by
  unfold asm_read at h
  refine enter Tryz.func6 rfl (frm:=[_,_,_,_,_,_,_,_,_,_,_,_,_,_,_,_,_,_,_,_,_,_,_,_,_,_,_,_,_,_,_,_,_,_,_,_,_,_,_,_,_,_,_,_,_,_,_,_,_,_,_,_,_,_,_,_,_,_,_,_,_,_,_,_,_,_,_,_,_,_,_,_,_,_]) rfl ?_
  refine cseq ?_
  refine creg ?_
  refine wl (s_alloc ti25 hS ?_); clear hS; intro b7 w1 hb8 hS; refine pu (dt p2) ?_
  refine wl (s_alloc ti33 hS ?_); clear hS; intro b9 w2 hb10 hS; refine pu (dt p3) ?_
  refine wnil ?_
  refine xn ?_
  refine cseq ?_
  refine cseq ?_
  refine creg ?_
  refine wl (s_move (et d0) (dt (q10 p3)) ?_)
  refine wl (s_lens Tryz.underlying9 (et (k10 d3)) (dt (q10 p4)) ?_)
  refine wl (s_gtr (et (k10 d4)) ec (dt (q10 p5)) ?_)
  refine wnil ?_
  refine xn ?_
  refine cifd (et (k10 d5)) (fun h11=>?_) (fun h11=>?_)
  · replace h:=iT h11 h
    refine cseq ?_
    refine creg ?_
    refine wl (s_build ti25 pl25 Fl.z (dt (q10 p6)) ?_)
    refine wl (s_build ti33 pl33 (Fl.o rfl ec rfl rfl p0 Fl.z) (dt (q10 p7)) ?_)
    refine wl (s_storeA ti25 (et d2) (et (k10 d6)) rfl rfl hS d1 rfl p1 dn ?_)
    clear hS; intro w3 hS
    refine wl (s_storeA ti33 (et d3) (et (k10 d7)) rfl rfl hS d0 rfl p0 dn ?_)
    clear hS; intro w4 hS
    refine wnil ?_
    refine xn ?_
    refine cret ?_
    refine xr ?_
    obtain rfl:=oI h
    refine retN rfl (RVs.s (.a d2 ti25 (hS.blk d1).cells rfl) (RVs.s (.a d3 ti33 (hS.blk d0).cells rfl) RVs.z)) ?_
    replace hS:=hS.drop Rm.z
    replace hS:=hS.drop Rm.z
    exact ⟨_,none,0,none,0,rfl,Le.r,hS,Sl.nil,Sl.nil⟩
  · replace h:=iF h11 h
    refine cskip ?_
    refine xn ?_
    refine cseq ?_
    refine creg ?_
    refine wl (s_alloc ti25 hS ?_); clear hS; intro b12 w5 hb13 hS; refine pu (dt p4) ?_
    refine wnil ?_
    refine xn ?_
    refine cseq ?_
    refine cseq ?_
    refine creg ?_
    refine wl (s_assign ec (dt p5) ?_)
    refine wnil ?_
    refine xn ?_
    refine cblock ?_
    replace hS:=(hS.nilRow 43 (Mo.sz TInstr)).nilRow 41 (Mo.sz TUnit)
    replace hS:=hS.nilRow 56 (Mo.sz TBi)
    replace hS:=hS.bg (Bg.s (Bg.s Bg.z))
    replace hS:=hS.bg (Bg.s (Bg.s Bg.z))
    replace hS:=hS.bg (Bg.s (Bg.s (Bg.s Bg.z)))
    replace hS:=hS.bg (Bg.s (Bg.s (Bg.s (Bg.s Bg.z))))
    replace hS:=hS.bg (Bg.s (Bg.s (Bg.s (Bg.s (Bg.s Bg.z)))))
    refine cloopE (rg 6 7++rg 18 54) (by decide +kernel) (fun n m w=>∃ (μx:M) (s78:List UInt8) (i79:Int) (l84:List TUnit) (v82:Value) (cs83:List Value) (v80:Value) (cs81:List Value) (l88:List TBi) (v86:Value) (cs87:List Value),m=(.i (S s78)::(yK4 (.i (.int .i64 i79)::(yO7 6 (yK5 (yO50 18 (yO4 68 [])))))))∧asm_read_l1 n s78 i79 l84 l88=some r∧Le μ0 μx∧Sq μx w0 w (.blk b7 25 [.slice none 0 0,.slice none 0 0]::.blk b9 33 [.int .i64 0,.int .i64 0]::.blk b12 25 [v86,v82]::.row v82 41 6 l84.length cs83::.row v80 43 3 (lcode (β:=TInstr) l84).length cs81::.row v86 56 2 l88.length cs87::rsF)∧Ru (β:=TInstr) μx cs83 v80 cs81 l84∧Rw μx cs87 l88) (by rintro _ _ _ ⟨_,_,_,_,_,_,_,_,_,_,_,rfl,_⟩; rfl) _ _ (aI (aK4 (aI (aO7 (aK5 (aO50 (aO4 aZ))))))) ⟨_,p_1,0,([]:List TUnit),(.slice none 0 0),([]:List Value),(.slice none 0 0),([]:List Value),[],(.slice none 0 0),[],rfl,h,Le.r,hS,(Ru.nil (α:=TUnit) (β:=TInstr) (μ:=μ0)),Rw.nil⟩ ?_
    rintro n_1 _ t w6 ⟨μ1,s78,i79,l84,v82,cs83,v80,cs81,l88,v86,cs87,rfl,h,le153,hS,m154,m155⟩
    cases n_1 with
    | zero=>cases h
    | succ n_1 =>
    unfold asm_read_l1 at h
    refine cnrm (mi (mK4 (mi (mO7 (mK5 (mO50 (mO4 mz))))))) ?_
    refine cseq ?_
    refine cseq ?_
    refine creg ?_
    refine wl (s_move (et d0) (dt (q10 p8)) ?_)
    refine wl (s_nes (et (k10 d8)) ec (dt (q10 p9)) ?_)
    refine wnil ?_
    refine xn ?_
    refine cifd (et (k10 d9)) (fun h156=>?_) (fun h156=>?_)
    · replace h:=iT h156 h
      refine cskip ?_
      refine xn ?_
      refine cseq ?_
      refine cblock ?_
      refine cseq ?_
      refine creg ?_
      refine wl (s_move (et d0) (dt (q20 p3)) ?_)
      replace h:=bI h; obtain ⟨r157,g158,h⟩:=h
      refine wl (s_callv isfn18 ef (e1 (et (k20 d3)) (e1 ec e0)) (s_cut_w (hg.t le153) g158 hS) ?_); rintro _ w7 ⟨rfl,hS⟩; refine pu (dt (q20 p4)) ?_
      refine wl (s_move (et (k20 d4)) (dt (q20 p2)) ?_)
      refine wl (s_extr (et (k20 d2)) d0 (dt (q20 p5)) ?_)
      refine wl (s_extr (et (k20 d2)) d1 (dt (q20 p6)) ?_)
      refine wl (s_extr (et (k20 d2)) d2 (dt (q20 p7)) ?_)
      refine wl (s_assign (et (k20 d5)) (dt p6) ?_)
      refine wl (s_assign (et (k20 d6)) (dt p7) ?_)
      refine wl (s_assign (et (k20 d7)) (dt p8) ?_)
      refine wnil ?_
      refine xn ?_
      refine cseq ?_
      refine creg ?_
      refine wl (s_move (et d7) (dt (q20 p8)) ?_)
      refine wl (s_assign (et (k20 d8)) (dt p0) ?_)
      refine wnil ?_
      refine xn ?_
      refine cseq ?_
      refine cseq ?_
      refine creg ?_
      refine wl (s_move (et d8) (dt (q20 p9)) ?_)
      refine wnil ?_
      refine xn ?_
      refine ccutE (rg 9 4++rg 30 37) (by decide +kernel) (fun m w=>∃ (μx:M) (b159:Bool) (l164:List TUnit) (v162:Value) (cs163:List Value) (v160:Value) (cs161:List Value) (l168:List TBi) (v166:Value) (cs167:List Value),m=(yK8 (.i (.bool b159)::(yO4 9 (yK10 (yK7 (yO20 30 (yO10 50 (yO7 60 []))))))))∧asm_read_j1 i79 r157 (asm_read_l1 n_1) b159 l164 l168=some r∧Le μ1 μx∧Sq μx w0 w (.blk b7 25 [.slice none 0 0,.slice none 0 0]::.blk b9 33 [.int .i64 0,.int .i64 0]::.blk b12 25 [v166,v162]::.row v162 41 6 l164.length cs163::.row v160 43 3 (lcode (β:=TInstr) l164).length cs161::.row v166 56 2 l168.length cs167::rsF)∧Ru (β:=TInstr) μx cs163 v160 cs161 l164∧Rw μx cs167 l168) (by rintro _ _ ⟨_,_,_,_,_,_,_,_,_,_,rfl,_⟩; rfl) ?_ ?_
      · refine cifb (et (k20 d9)) (fun h170=>?_) (fun h170=>?_)
        · replace h:=iT h170 h
          refine cseq ?_
          refine creg ?_
          refine wl (s_move (et d6) (dt (q30 p1)) ?_)
          replace h:=bI h; obtain ⟨r171,g172,h⟩:=h
          refine wl (s_callv isfn19 ef (e1 (et (k30 d1)) (e1 ec e0)) (s_pre_w g172 hS) ?_); rintro _ w8 ⟨rfl,hS⟩; refine pu (dt (q30 p2)) ?_
          refine wl (s_move (et (k30 d2)) (dt (q30 p0)) ?_)
          refine wl (s_extr (et (k30 d0)) d0 (dt (q30 p3)) ?_)
          refine wl (s_extr (et (k30 d0)) d1 (dt (q30 p4)) ?_)
          refine wl (s_assign (et (k30 d3)) (dt p9) ?_)
          refine wl (s_assign (et (k30 d4)) (dt (q10 p0)) ?_)
          refine wnil ?_
          refine xn ?_
          refine cseq ?_
          refine creg ?_
          refine wl (s_move (et (k10 d0)) (dt (q30 p5)) ?_)
          refine wnil ?_
          refine xn ?_
          refine cifb (et (k30 d5)) (fun h173=>?_) (fun h173=>?_)
          · replace h:=iT h173 h
            refine cseq ?_
            refine creg ?_
            refine wl (s_alloc ti43 hS ?_); clear hS; intro b174 w9 hb175 hS; refine pu (dt (q10 p1)) ?_
            refine wnil ?_
            refine xn ?_
            refine cseq ?_
            refine creg ?_
            refine wl (s_move (et d9) (dt (q30 p7)) ?_)
            replace h:=bI h; obtain ⟨r176,g177,h⟩:=h
            refine wl (s_callv isfn20 ef (e1 (et (k30 d7)) e0) (asm_instr_w (hg.t le153) g177 hS) ?_)
            rintro _ w10 ⟨μ2,rfl,le178,hS⟩
            refine pu (dt (q30 p8)) ?_
            refine wl (s_move (et (k30 d8)) (dt (q30 p6)) ?_)
            refine wl (s_extr (et (k30 d6)) d0 (dt (q30 p9)) ?_)
            refine wl (s_extr (et (k30 d6)) d1 (dt (q40 p0)) ?_)
            refine wl (s_storeA ti43 (et (k10 d1)) (et (k30 d9)) rfl rfl hS d0 rfl p0 dn ?_)
            clear hS; intro w11 hS
            refine wl (s_assign (et (k40 d0)) (dt p8) ?_)
            refine wnil ?_
            refine xn ?_
            refine cseq ?_
            refine ccutE (rg 41 6) (by decide) (fun m w=>∃ (μx:M) (b179:Bool),m=(yK20 (yK20 (yK1 (yO6 41 (.i (.bool b179)::[])))))∧asm_read_j2 i79 l84 l88 r157 r176 (asm_read_l1 n_1) b179=some r∧Le μ2 μx∧Sq μx w0 w (.blk b7 25 [.slice none 0 0,.slice none 0 0]::.blk b9 33 [.int .i64 0,.int .i64 0]::.blk b12 25 [v86,v82]::.row v82 41 6 l84.length cs83::.row v80 43 3 (lcode (β:=TInstr) l84).length cs81::.row v86 56 2 l88.length cs87::.blk b174 43 [.int .i64 r176.1.Op,.int .i64 r176.1.A,.int .i64 r176.1.N]::rsF)) (by rintro _ _ ⟨_,_,rfl,_⟩; rfl) ?_ ?_
            · refine creg ?_
              refine wl (s_move (et d8) (dt (q40 p1)) ?_)
              refine wl (s_move (et (k40 d1)) (dt (q40 p2)) ?_)
              refine wspb (k40 d2) (q40 p2) (q40 p2) (fun h180=>?_) (fun h180=>?_)
              · replace h:=iT h180 h
                refine wy rfl (k40 d2) (s_fa fa25_1 (et d4) rfl (dt (q40 p3)) ?_)
                refine wy rfl (k40 d2) (s_load ti23 (et (k40 d3)) ((hS.blk d3).cell d1) (dt (q40 p4)) ?_)
                refine wy rfl (k40 d2) (s_lenv Tryz.underlying23 (et (k40 d4)) (hS.get d4).isSl (dt (q40 p5)) ?_)
                refine wy rfl (k40 d2) (s_gtr (et (k40 d5)) ec (dt (q40 p6)) ?_)
                refine wl (s_pickt (et (k40 d2)) (et (k40 d6)) (dt (q40 p7)) ?_)
                refine wnil ?_
                refine xl ?_
                replace hS:=hS.bg (Bg.s (Bg.s (Bg.s (Bg.s (Bg.s (Bg.s Bg.z))))))
                replace hS:=hS.bg (Bg.s (Bg.s (Bg.s (Bg.s (Bg.s (Bg.s Bg.z))))))
                replace hS:=hS.bg (Bg.s (Bg.s (Bg.s (Bg.s (Bg.s (Bg.s Bg.z))))))
                replace hS:=hS.bg (Bg.s (Bg.s (Bg.s (Bg.s (Bg.s (Bg.s Bg.z))))))
                replace hS:=hS.bg (Bg.s (Bg.s (Bg.s (Bg.s (Bg.s (Bg.s Bg.z))))))
                replace hS:=hS.bg (Bg.s (Bg.s (Bg.s (Bg.s (Bg.s (Bg.s Bg.z))))))
                exact ⟨_,_,rfl,(aK20 (aK20 (aK1 (aO6 (aI aZ))))),_,(decide ((0:Int)<(l84.length:Int))),rfl,h,Le.r,hS⟩
              · replace h:=iF h180 h
                refine wn rfl (k40 d2) rfl (dt (q40 p3)) ?_
                refine wn rfl (k40 d2) rfl (dt (q40 p4)) ?_
                refine wn rfl (k40 d2) rfl (dt (q40 p5)) ?_
                refine wn rfl (k40 d2) rfl (dt (q40 p6)) ?_
                refine wl (s_pickf (et (k40 d2)) ec (dt (q40 p7)) ?_)
                refine wnil ?_
                refine xl ?_
                replace hS:=hS.bg (Bg.s (Bg.s (Bg.s (Bg.s (Bg.s (Bg.s Bg.z))))))
                replace hS:=hS.bg (Bg.s (Bg.s (Bg.s (Bg.s (Bg.s (Bg.s Bg.z))))))
                replace hS:=hS.bg (Bg.s (Bg.s (Bg.s (Bg.s (Bg.s (Bg.s Bg.z))))))
                replace hS:=hS.bg (Bg.s (Bg.s (Bg.s (Bg.s (Bg.s (Bg.s Bg.z))))))
                replace hS:=hS.bg (Bg.s (Bg.s (Bg.s (Bg.s (Bg.s (Bg.s Bg.z))))))
                replace hS:=hS.bg (Bg.s (Bg.s (Bg.s (Bg.s (Bg.s (Bg.s Bg.z))))))
                exact ⟨_,_,rfl,(aK20 (aK20 (aK1 (aO6 (aI aZ))))),_,false,rfl,h,Le.r,hS⟩
            · rintro _ t w12 ⟨μ3,b179,rfl,h,le181,hS⟩
              unfold asm_read_j2 at h
              refine nrm (mK20 (mK20 (mK1 (mO6 (mi mz))))) ?_
              refine xn ?_
              refine cifb (et (k40 d7)) (fun h182=>?_) (fun h182=>?_)
              · replace h:=iT h182 h
                refine cseq ?_
                refine creg ?_
                refine wl (s_fa fa25_1 (et d4) rfl (dt (q40 p8)) ?_)
                refine wl (s_load ti23 (et (k40 d8)) ((hS.blk d2).cell d1) (dt (q40 p9)) ?_)
                refine wl (s_fa fa25_1 (et d4) rfl (dt (q50 p0)) ?_)
                refine wl (s_load ti23 (et (k50 d0)) ((hS.blk d2).cell d1) (dt (q50 p1)) ?_)
                refine wl (s_lenv Tryz.underlying23 (et (k50 d1)) (hS.get d3).isSl (dt (q50 p2)) ?_)
                replace h:=bI h; obtain ⟨i183,g184,h⟩:=h
                refine wl (s_subc (et (k50 d2)) ec g184 (dt (q50 p3)) ?_)
                replace h:=bI h; obtain ⟨x185,g186,h⟩:=h
                have hi199:=(i64_eq g184).1
                obtain ⟨pc187,lc188,e189,m190,e191,uo192,h193⟩:=Ru.open (β:=TInstr) (m154.up (le178.t le181)) g186 hi199
                rw [e189,e191] at hS
                obtain ⟨b194,o195,he196,hc197⟩:=Row.lastCell (hS.get d3) uo192 g186 hi199
                have hl198:lc188.length=5:=Nat.succ.inj (Uo.len uo192 g186 hi199).2; rw [hl198] at hc197
                refine wl (s_iax Tryz.underlying23 ti41 (et (k40 d9)) (et (k50 d3)) he196 (dt (q50 p4)) ?_)
                refine wl (s_assign (et (k50 d4)) (dt (q10 p2)) ?_)
                refine wnil ?_
                refine xn ?_
                refine ccutE (rg 55 10) (by decide) (fun m w=>∃ (μx:M) (l204:List TUnit) (v202:Value) (cs203:List Value) (v200:Value) (cs201:List Value),m=(yK50 (yK5 (yO10 55 [])))∧asm_read_j3 i79 l88 r157 r176 (asm_read_l1 n_1) l204=some r∧Le μ3 μx∧Sq μx w0 w (.blk b7 25 [.slice none 0 0,.slice none 0 0]::.blk b9 33 [.int .i64 0,.int .i64 0]::.blk b12 25 [v86,v202]::.row v202 41 6 l204.length cs203::.row v200 43 3 (lcode (β:=TInstr) l204).length cs201::.row v86 56 2 l88.length cs87::rsF)∧Ru (β:=TInstr) μx cs203 v200 cs201 l204) (by rintro _ _ ⟨_,_,_,_,_,_,rfl,_⟩; rfl) ?_ ?_
                · refine cdraw (by kernel_rfl) rfl fun w13 hh_ ho_ ht_ hu_=>?_
                  replace hS:=hS.drew hh_ ho_ ht_ hu_
                  refine sf_start ?_
                  refine sf_pu (i:=0) [0,8,9,10] (blind_of fun _ _ _ h=>h.2) rfl rfl rfl (u_move (et (k10 d2))) (q50 p5) ?_
                  refine sf_pu (i:=1) [1,2,3,4,7,8,9,10] (blind_of fun _ _ _ h=>h.2) rfl rfl rfl (u_move (et (k10 d2))) (q50 p6) ?_
                  refine sf_pu (i:=2) [2,3,4,7,8,9,10] (blind_of fun _ _ _ h=>h.2) rfl rfl rfl (u_nilck (et (k50 d6))) (q50 p7) ?_
                  refine sf_pu (i:=3) [3,4,7,8,9,10] (blind_of fun _ _ _ h=>h.2) rfl rfl rfl (u_fa fa41_5 (et (k50 d7)) rfl) (q50 p8) ?_
                  refine sf_rd (i:=4) [4,7,8,9,10] (blind_of fun _ _ _ h=>h.2) rfl rfl rfl (u_load ti39 (et (k50 d8)) (hc197 _ _ _ (hS.get d3))) (q50 p9) ?_
                  refine sf_rd (i:=5) [5,6,7,8,9,10] (blind_of fun _ _ _ h=>h.2) rfl rfl rfl (u_loads ti43 (et (k10 d1)) (hS.blk d6).cells rfl) (q60 p0) ?_
                  refine sf1 rfl rfl rfl rfl (wn0 rfl) (s_bsl1 Tryz.underlying39 ti43 rfl (et (k60 d0)) rfl hS ?_); clear hS; intro b206 w14 hb207 hS; refine pu (dt (q60 p1)) ?_
                  refine ⟨(Mons.s (u_load ti39 (et (k50 d8)) (hc197 _ _ _ (hS.get d4))) Mons.z),?_⟩
                  replace h:=bI h; obtain ⟨l210,g211,h⟩:=h
                  have m212:Rw μ3 [.int .i64 r176.1.Op,.int .i64 r176.1.A,.int .i64 r176.1.N] [r176.1]:=(Rw.one (α:=TInstr) rfl)
                  have m209:=Rw.app m190 m212 g211
                  refine sf1 rfl rfl rfl rfl (wn0 rfl) (s_app1 Tryz.underlying39 ti43 rfl (et (k50 d9)) (et (k60 d1)) hS d5 (hS.blk d0).cells m212 rfl g211 (by decide) ?_); clear hS; intro v208 w15 rs_ hp_ hS; cases (show _=rs_ from hp_)
                  replace hS:=Sep.reput hS p5; refine pu (dt (q60 p2)) ?_
                  replace hS:=hS.drop Rm.z
                  refine ⟨Mons.z,?_⟩
                  refine sf_pu (i:=8) [8,9,10] (blind_of fun _ _ _ h=>h.2) rfl rfl rfl (u_nilck (et (k50 d5))) (q60 p3) ?_
                  refine sf_pu (i:=9) [9,10] (blind_of fun _ _ _ h=>h.2) rfl rfl rfl (u_fa fa41_5 (et (k60 d3)) rfl) (q60 p4) ?_
                  have h213:=(hS.get d4).cellV
                  obtain ⟨m214,e215,e216⟩:=Uo.close uo192 m209 h213
                  refine sf1 rfl rfl rfl rfl (wn0 rfl) (s_storeU ti39 (et (k60 d4)) (et (k60 d2)) h213 hS d3 he196 (Uo.len uo192 g186 hi199) hl198 p3 dn ?_); clear hS; intro w16 hS
                  replace hS:Sq μ3 w0 w16 (.blk b7 25 [.slice none 0 0,.slice none 0 0]::.blk b9 33 [.int .i64 0,.int .i64 0]::.blk b12 25 [v86,v82]::.row v82 41 6 (uset l84 l210).length (pc187++(lc188++[v208]))::.row v208 43 3 (lcode (β:=TInstr) (uset l84 l210)).length (cs81++[.int .i64 r176.1.Op,.int .i64 r176.1.A,.int .i64 r176.1.N])::.row v86 56 2 l88.length cs87::.blk b174 43 [.int .i64 r176.1.Op,.int .i64 r176.1.A,.int .i64 r176.1.N]::rsF):=by rw [e215,e216]; exact hS
                  refine ⟨Mons.z,?_⟩
                  refine sf_nil ?_
                  refine xl ?_
                  replace hS:=hS.drop (Rm.s (Rm.s (Rm.s (Rm.s (Rm.s (Rm.s Rm.z))))))
                  exact ⟨_,_,rfl,(aK50 (aK5 (aO10 aZ))),_,(uset l84 l210),v82,(pc187++(lc188++[v208])),v208,(cs81++[.int .i64 r176.1.Op,.int .i64 r176.1.A,.int .i64 r176.1.N]),rfl,h,Le.r,hS,m214⟩
                · rintro _ t w17 ⟨μ4,l204,v202,cs203,v200,cs201,rfl,h,le217,hS,m218⟩
                  unfold asm_read_j3 at h
                  refine nrm (mK50 (mK5 (mO10 mz))) ?_
                  refine xl ?_
                  exact ⟨_,_,rfl,(aK8 (aI (aO4 (aK10 (aK7 (aO20 (aO10 (aO7 aZ)))))))),_,r176.2,l204,v202,cs203,v200,cs201,l88,v86,cs87,rfl,h,(le178.t (le181.t le217)),hS,m218,(m155.up (le178.t (le181.t le217)))⟩
              · replace h:=iF h182 h
                refine creg ?_
                refine wl (s_assign ec (dt p8) ?_)
                refine wnil ?_
                refine xl ?_
                replace hS:=hS.drop (Rm.s (Rm.s (Rm.s (Rm.s (Rm.s (Rm.s Rm.z))))))
                exact ⟨_,_,rfl,(aK8 (aI (aO4 (aK10 (aK7 (aO20 (aO10 (aO7 aZ)))))))),_,false,l84,v82,cs83,v80,cs81,l88,v86,cs87,rfl,h,(le178.t le181),hS,(m154.up (le178.t le181)),(m155.up (le178.t le181))⟩
          · replace h:=iF h173 h
            refine creg ?_
            refine wl (s_move (et d6) (dt (q60 p5)) ?_)
            replace h:=bI h; obtain ⟨r219,g220,h⟩:=h
            replace hS:=hS.bg (Bg.s (Bg.s (Bg.s (Bg.s Bg.z))))
            replace hS:=hS.bg (Bg.s (Bg.s (Bg.s (Bg.s Bg.z))))
            replace hS:=hS.bg (Bg.s (Bg.s (Bg.s (Bg.s (Bg.s Bg.z)))))
            replace hS:=hS.bg (Bg.s (Bg.s (Bg.s (Bg.s (Bg.s Bg.z)))))
            refine wl (s_callv isfn21 ef (e1 (et d4) (e1 (et (k60 d5)) e0)) (asm_head_w (hg.t le153) m155 m154 g220 hS) ?_)
            rintro _ w18 ⟨μ5,v222,cs223,v225,cs226,v227,cs228,rfl,le221,hS,m224,m229⟩
            refine pu (dt (q60 p6)) ?_
            refine wl (s_assign (et (k60 d6)) (dt p8) ?_)
            refine wnil ?_
            refine xl ?_
            replace hS:=hS.bg (Bg.s Bg.z)
            replace hS:=hS.bg (Bg.s (Bg.s (Bg.s Bg.z)))
            replace hS:=hS.bg (Bg.s (Bg.s (Bg.s Bg.z)))
            replace hS:=hS.bg (Bg.s (Bg.s (Bg.s Bg.z)))
            replace hS:=hS.bg (Bg.s (Bg.s (Bg.s (Bg.s (Bg.s Bg.z)))))
            replace hS:=hS.bg (Bg.s (Bg.s (Bg.s (Bg.s (Bg.s Bg.z)))))
            exact ⟨_,_,rfl,(aK8 (aI (aO4 (aK10 (aK7 (aO20 (aO10 (aO7 aZ)))))))),_,r219.1,r219.2.2,v225,cs226,v227,cs228,r219.2.1,v222,cs223,rfl,h,le221,hS,m229,m224⟩
        · replace h:=iF h170 h
          refine cskip ?_
          refine xl ?_
          exact ⟨_,_,rfl,(aK8 (aI (aO4 (aK10 (aK7 (aO20 (aO10 (aO7 aZ)))))))),_,r157.2.2,l84,v82,cs83,v80,cs81,l88,v86,cs87,rfl,h,Le.r,hS,m154,m155⟩
      · rintro _ t w19 ⟨μ6,b159,l164,v162,cs163,v160,cs161,l168,v166,cs167,rfl,h,le230,hS,m231,m232⟩
        unfold asm_read_j1 at h
        refine nrm (mK8 (mi (mO4 (mK10 (mK7 (mO20 (mO10 (mO7 mz)))))))) ?_
        refine xn ?_
        refine cseq ?_
        refine creg ?_
        refine wl (s_move (et d8) (dt (q60 p7)) ?_)
        refine wl (s_not (et (k60 d7)) (dt (q60 p8)) ?_)
        refine wnil ?_
        refine xn ?_
        refine cifnb (et (k60 d8)) (fun h233=>?_) (fun h233=>?_)
        · replace h:=iF h233 h
          refine cseq ?_
          refine creg ?_
          refine wl (s_build ti25 pl25 Fl.z (dt (q60 p9)) ?_)
          refine wl (s_move (et d5) (dt (q70 p0)) ?_)
          refine wl (s_build ti33 pl33 (Fl.o rfl ec rfl rfl p0 (Fl.o rfl (et (k70 d0)) rfl rfl p1 Fl.z)) (dt (q70 p1)) ?_)
          refine wl (s_storeA ti25 (et d2) (et (k60 d9)) rfl rfl hS d0 rfl p0 dn ?_)
          clear hS; intro w20 hS
          refine wl (s_storeA ti33 (et d3) (et (k70 d1)) rfl rfl hS d1 rfl p1 dn ?_)
          clear hS; intro w21 hS
          refine wnil ?_
          refine xn ?_
          refine cret ?_
          refine (fun h=>br (xr (xr (br (xr h))))) ?_
          obtain rfl:=oI h
          refine retN rfl (RVs.s (.a d2 ti25 (hS.blk d0).cells rfl) (RVs.s (.a d3 ti33 (hS.blk d1).cells rfl) RVs.z)) ?_
          replace hS:=hS.drop Rm.z
          replace hS:=hS.drop Rm.z
          replace hS:=hS.drop Rm.z
          replace hS:=hS.drop Rm.z
          replace hS:=hS.drop Rm.z
          replace hS:=hS.drop Rm.z
          exact ⟨_,none,0,none,0,rfl,(le153.t le230),hS,Sl.nil,Sl.nil⟩
        · replace h:=iT h233 h
          refine cskip ?_
          refine (fun h=>bn (xn h)) ?_
          refine creg ?_
          refine wl (s_move (et d5) (dt (q20 p0)) ?_)
          replace h:=bI h; obtain ⟨i234,g235,h⟩:=h
          refine wl (s_addc (et (k20 d0)) ec g235 (dt (q20 p1)) ?_)
          refine wl (s_assign (et (k20 d1)) (dt p5) ?_)
          refine wnil ?_
          refine xl ?_
          exact ⟨n_1,_,_,rfl,(aI (aK4 (aI (aO7 (aK5 (aO50 (aO4 aZ))))))),⟨_,r157.2.1,i234,l164,v162,cs163,v160,cs161,l168,v166,cs167,rfl,h,(le153.t le230),hS,m231,m232⟩,Nat.lt_succ_self _⟩
    · replace h:=iF h156 h
      refine cexit ?_
      refine (fun h=>xe (xe (bh h))) ?_
      refine xn ?_
      refine cseq ?_
      refine creg ?_
      refine wl (s_loads ti25 (et d4) (hS.blk d2).cells rfl (dt (q70 p2)) ?_)
      refine wl (s_build ti33 pl33 Fl.z (dt (q70 p3)) ?_)
      refine wl (s_storeA ti25 (et d2) (et (k70 d2)) rfl (cv_s ((hS.get d5).cellV) (cv_s ((hS.get d3).cellV) cv_z)) hS d0 rfl p0 dn ?_)
      clear hS; intro w22 hS
      refine wl (s_storeA ti33 (et d3) (et (k70 d3)) rfl rfl hS d1 rfl p1 dn ?_)
      clear hS; intro w23 hS
      refine wnil ?_
      refine xn ?_
      refine cret ?_
      replace hS:=hS.bg (Bg.s (Bg.s (Bg.s (Bg.s (Bg.s Bg.z)))))
      obtain ⟨μ7,a236,c237,e240,le239,m238,hq_⟩:=Sep.frzRow hS m155 rfl; clear hS
      subst e240; have hS:=hq_; clear hq_
      replace hS:=hS.bg (Bg.s (Bg.s (Bg.s (Bg.s Bg.z))))
      obtain ⟨μ8,le242,m241,hq_⟩:=Sep.frzCode hS (m154.up le239); clear hS; have hS:=hq_; clear hq_
      replace hS:=hS.bg (Bg.s (Bg.s (Bg.s Bg.z)))
      obtain ⟨μ9,a243,c244,e247,le246,m245,hq_⟩:=Sep.frzRow hS m241 rfl; clear hS
      subst e247; have hS:=hq_; clear hq_
      obtain rfl:=oI h
      refine retN rfl (RVs.s (.a d2 ti25 (hS.blk d0).cells rfl) (RVs.s (.a d3 ti33 (hS.blk d1).cells rfl) RVs.z)) ?_
      replace hS:=hS.drop Rm.z
      replace hS:=hS.drop Rm.z
      replace hS:=hS.drop Rm.z
      exact ⟨_,a236,c237,a243,c244,rfl,(le153.t (le239.t (le242.t le246))),hS,(m238.up (le242.t le246)),m245⟩
end Go.Proofs.YtppgfpelddpnbaaGreatDoor
