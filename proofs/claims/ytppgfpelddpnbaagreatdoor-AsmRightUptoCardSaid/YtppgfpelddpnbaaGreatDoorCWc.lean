/- Texts of Wc. -/
import Derived.Test.YtppgfpelddpnbaaGreatDoorCMd
import Derived.Test.YtppgfpelddpnbaaGreatDoorCWa
import Derived.Test.YtppgfpelddpnbaaGreatDoorCFl
set_option linter.unusedSimpArgs false
set_option linter.unusedVariables false
set_option linter.unusedSectionVars false
set_option maxRecDepth 100000
set_option maxHeartbeats 20000000
namespace Go.Proofs.YtppgfpelddpnbaaGreatDoor
open Go.Wk Go.Xt Go.Y
theorem vf_plain_w {μ0:M} {w0 w:World} {rsF:List Res} (hg:Le Gm μ0) {p_1:Int} {r:Bool}  (h:vf_plain p_1=some r) (hS:Sq μ0 w0 w (rsF)):CallsV Tryz.prog 34 [.int .i64 p_1] w (fun v w'=>∃ (μ':M) ,v=.bool r∧Le μ0 μ'∧Sq μ' w0 w' (rsF)):=by
  unfold vf_plain at h
  refine enter Tryz.func34 rfl (frm:=[_,_,_,_,_,_,_,_,_]) rfl ?_
  refine cseq ?_
  refine creg ?_
  refine wl (s_assign ec (dt p2) ?_)
  refine wnil ?_
  refine xn ?_
  refine cseq ?_
  refine creg ?_
  refine wl (s_move (et d0) (dt p3) ?_)
  refine wl (s_eqi (et d3) ec (dt p4) ?_)
  refine wl (s_move (et d4) (dt p5) ?_)
  refine wspd d5 p5 p5 (fun h1=>?_) (fun h1=>?_)
  · replace h:=iT h1 h
    refine wn rfl d5 rfl (dt p6) ?_
    refine wn rfl d5 rfl (dt p7) ?_
    refine wl (s_pickt (et d5) ec (dt p8) ?_)
    refine wl (s_assign (et d8) (dt p2) ?_)
    refine wnil ?_
    refine xn ?_
    refine cret ?_
    obtain rfl:=oI h
    refine ret1 rfl d2 ?_
    exact ⟨_,rfl,Le.r,hS⟩
  · replace h:=iF h1 h
    refine wy rfl d5 (s_move (et d0) (dt p6) ?_)
    refine wy rfl d5 (s_eqi (et d6) ec (dt p7) ?_)
    refine wl (s_pickf (et d5) (et d7) (dt p8) ?_)
    refine wl (s_assign (et d8) (dt p2) ?_)
    refine wnil ?_
    refine xn ?_
    refine cret ?_
    obtain rfl:=oI h
    refine ret1 rfl d2 ?_
    exact ⟨_,rfl,Le.r,hS⟩
theorem vf_unit_w {μ0:M} {w0 w:World} {rsF:List Res} (hg:Le Gm μ0) {p_1:TVc} {b1:Nat} {o2:Nat} {v3:Value} {p_2:Int} {p_3:Int} {r:Bool} (m4:Np μ0 v3 p_1.m) (m5:At μ0 b1 o2 [v3]) (h:vf_unit p_1 p_2 p_3=some r) (hS:Sq μ0 w0 w (rsF)):CallsV Tryz.prog 56 [.pointer (some ⟨b1,o2,none⟩),.int .i64 p_2,.int .i64 p_3] w (fun v w'=>∃ (μ':M) ,v=.bool r∧Le μ0 μ'∧Sq μ' w0 w' (rsF)):=by
  unfold vf_unit at h
  refine enter Tryz.func56 rfl (frm:=[_,_,_,_,_,_,_,_,_,_,_,_,_,_,_,_,_,_,_,_,_,_,_,_,_,_,_,_,_,_,_,_,_,_,_,_]) rfl ?_
  refine cseq ?_
  refine creg ?_
  refine wl (s_assign ec (dt p6) ?_)
  refine wnil ?_
  refine xn ?_
  refine cseq ?_
  refine creg ?_
  refine wl (s_move (et d1) (dt p7) ?_)
  refine wl (s_geq (et d7) ec (dt p8) ?_)
  refine wl (s_move (et d8) (dt p9) ?_)
  refine wspd d9 p9 p9 (fun h6=>?_) (fun h6=>?_)
  · replace h:=iT h6 h
    refine wy rfl d9 (s_move (et d1) (dt (q10 p0)) ?_)
    refine wy rfl d9 (s_move (et d0) (dt (q10 p1)) ?_)
    refine wy rfl d9 (s_nilck (et (k10 d1)) (dt (q10 p2)) ?_)
    refine wy rfl d9 (s_fa fa75_0 (et (k10 d2)) rfl (dt (q10 p3)) ?_)
    refine wy rfl d9 (s_load ti72 (et (k10 d3)) ((m5 _ hS.a).one d0) (dt (q10 p4)) ?_)
    replace h:=bI h; obtain ⟨x7,g8,h⟩:=h
    obtain ⟨b9,o10,cs11,rfl,f12,m13⟩:=Np.get m4 g8
    obtain ⟨a14,c15,a17,c18,rfl,m16,m19⟩:=m13
    refine wy rfl d9 (s_nilck (et (k10 d4)) (dt (q10 p5)) ?_)
    refine wy rfl d9 (s_fa fa25_1 (et (k10 d5)) rfl (dt (q10 p6)) ?_)
    refine wy rfl d9 (s_load ti23 (et (k10 d6)) ((f12 _ hS.a).one d1) (dt (q10 p7)) ?_)
    refine wy rfl d9 (s_lensl Tryz.underlying23 (et (k10 d7)) (dt (q10 p8)) ?_)
    refine wy rfl d9 (s_lss (et (k10 d0)) (et (k10 d8)) (dt (q10 p9)) ?_)
    refine wl (s_pickt (et d9) (et (k10 d9)) (dt (q20 p0)) ?_)
    refine wl (s_move (et (k20 d0)) (dt (q20 p1)) ?_)
    refine wspd (k20 d1) (q20 p1) (q20 p1) (fun h20=>?_) (fun h20=>?_)
    · replace h:=iT h20 h
      refine wy rfl (k20 d1) (s_move (et d0) (dt (q20 p2)) ?_)
      refine wy rfl (k20 d1) (s_nilck (et (k20 d2)) (dt (q20 p3)) ?_)
      refine wy rfl (k20 d1) (s_fa fa75_0 (et (k20 d3)) rfl (dt (q20 p4)) ?_)
      refine wy rfl (k20 d1) (s_load ti72 (et (k20 d4)) ((m5 _ hS.a).one d0) (dt (q20 p5)) ?_)
      refine wy rfl (k20 d1) (s_nilck (et (k20 d5)) (dt (q20 p6)) ?_)
      refine wy rfl (k20 d1) (s_fa fa25_1 (et (k20 d6)) rfl (dt (q20 p7)) ?_)
      refine wy rfl (k20 d1) (s_load ti23 (et (k20 d7)) ((f12 _ hS.a).one d1) (dt (q20 p8)) ?_)
      refine wy rfl (k20 d1) (s_move (et d1) (dt (q20 p9)) ?_)
      replace h:=bI h; obtain ⟨x21,g22,h⟩:=h
      obtain ⟨b23,o24,cs25,e26,f27,m28⟩:=SlR.elem m19 g22
      obtain ⟨a29,c30,a32,c33,rfl,m31,m34⟩:=m28
      refine wy rfl (k20 d1) (s_iax Tryz.underlying23 ti41 (et (k20 d8)) (et (k20 d9)) e26 (dt (q30 p0)) ?_)
      refine wy rfl (k20 d1) (s_fa fa41_0 (et (k30 d0)) rfl (dt (q30 p1)) ?_)
      refine wy rfl (k20 d1) (s_load ti3 (et (k30 d1)) ((f27 _ hS.a).one d0) (dt (q30 p2)) ?_)
      refine wy rfl (k20 d1) (s_move (et d2) (dt (q30 p3)) ?_)
      refine wy rfl (k20 d1) (s_eqi (et (k30 d2)) (et (k30 d3)) (dt (q30 p4)) ?_)
      refine wl (s_pickt (et (k20 d1)) (et (k30 d4)) (dt (q30 p5)) ?_)
      refine wl (s_assign (et (k30 d5)) (dt p6) ?_)
      refine wnil ?_
      refine xn ?_
      refine cret ?_
      obtain rfl:=oI h
      refine ret1 rfl d6 ?_
      exact ⟨_,rfl,Le.r,hS⟩
    · replace h:=iF h20 h
      refine wn rfl (k20 d1) rfl (dt (q20 p2)) ?_
      refine wn rfl (k20 d1) rfl (dt (q20 p3)) ?_
      refine wn rfl (k20 d1) rfl (dt (q20 p4)) ?_
      refine wn rfl (k20 d1) rfl (dt (q20 p5)) ?_
      refine wn rfl (k20 d1) rfl (dt (q20 p6)) ?_
      refine wn rfl (k20 d1) rfl (dt (q20 p7)) ?_
      refine wn rfl (k20 d1) rfl (dt (q20 p8)) ?_
      refine wn rfl (k20 d1) rfl (dt (q20 p9)) ?_
      refine wn rfl (k20 d1) rfl (dt (q30 p0)) ?_
      refine wn rfl (k20 d1) rfl (dt (q30 p1)) ?_
      refine wn rfl (k20 d1) rfl (dt (q30 p2)) ?_
      refine wn rfl (k20 d1) rfl (dt (q30 p3)) ?_
      refine wn rfl (k20 d1) rfl (dt (q30 p4)) ?_
      refine wl (s_pickf (et (k20 d1)) ec (dt (q30 p5)) ?_)
      refine wl (s_assign (et (k30 d5)) (dt p6) ?_)
      refine wnil ?_
      refine xn ?_
      refine cret ?_
      obtain rfl:=oI h
      refine ret1 rfl d6 ?_
      exact ⟨_,rfl,Le.r,hS⟩
  · replace h:=iF h6 h
    refine wn rfl d9 rfl (dt (q10 p0)) ?_
    refine wn rfl d9 rfl (dt (q10 p1)) ?_
    refine wn rfl d9 rfl (dt (q10 p2)) ?_
    refine wn rfl d9 rfl (dt (q10 p3)) ?_
    refine wn rfl d9 rfl (dt (q10 p4)) ?_
    refine wn rfl d9 rfl (dt (q10 p5)) ?_
    refine wn rfl d9 rfl (dt (q10 p6)) ?_
    refine wn rfl d9 rfl (dt (q10 p7)) ?_
    refine wn rfl d9 rfl (dt (q10 p8)) ?_
    refine wn rfl d9 rfl (dt (q10 p9)) ?_
    refine wl (s_pickf (et d9) ec (dt (q20 p0)) ?_)
    refine wl (s_move (et (k20 d0)) (dt (q20 p1)) ?_)
    refine wn rfl (k20 d1) rfl (dt (q20 p2)) ?_
    refine wn rfl (k20 d1) rfl (dt (q20 p3)) ?_
    refine wn rfl (k20 d1) rfl (dt (q20 p4)) ?_
    refine wn rfl (k20 d1) rfl (dt (q20 p5)) ?_
    refine wn rfl (k20 d1) rfl (dt (q20 p6)) ?_
    refine wn rfl (k20 d1) rfl (dt (q20 p7)) ?_
    refine wn rfl (k20 d1) rfl (dt (q20 p8)) ?_
    refine wn rfl (k20 d1) rfl (dt (q20 p9)) ?_
    refine wn rfl (k20 d1) rfl (dt (q30 p0)) ?_
    refine wn rfl (k20 d1) rfl (dt (q30 p1)) ?_
    refine wn rfl (k20 d1) rfl (dt (q30 p2)) ?_
    refine wn rfl (k20 d1) rfl (dt (q30 p3)) ?_
    refine wn rfl (k20 d1) rfl (dt (q30 p4)) ?_
    refine wl (s_pickf (et (k20 d1)) ec (dt (q30 p5)) ?_)
    refine wl (s_assign (et (k30 d5)) (dt p6) ?_)
    refine wnil ?_
    refine xn ?_
    refine cret ?_
    obtain rfl:=oI h
    refine ret1 rfl d6 ?_
    exact ⟨_,rfl,Le.r,hS⟩
theorem vf_handle_w {μ0:M} {w0 w:World} {rsF:List Res} (hg:Le Gm μ0) {p_1:TVc} {b1:Nat} {o2:Nat} {v3:Value} {p_2:Int} {r:Bool} (m4:Np μ0 v3 p_1.m) (m5:At μ0 b1 o2 [v3]) (h:vf_handle p_1 p_2=some r) (hS:Sq μ0 w0 w (rsF)):CallsV Tryz.prog 55 [.pointer (some ⟨b1,o2,none⟩),.int .i64 p_2] w (fun v w'=>∃ (μ':M) ,v=.bool r∧Le μ0 μ'∧Sq μ' w0 w' (rsF)):=by
  unfold vf_handle at h
  refine enter Tryz.func55 rfl (frm:=[_,_,_,_,_,_,_,_,_,_,_,_,_]) rfl ?_
  refine cseq ?_
  refine creg ?_
  refine wl (s_assign ec (dt p4) ?_)
  refine wnil ?_
  refine xn ?_
  refine cseq ?_
  refine creg ?_
  refine wl (s_move (et d1) (dt p5) ?_)
  refine wl (s_geq (et d5) ec (dt p6) ?_)
  refine wl (s_move (et d6) (dt p7) ?_)
  refine wspd d7 p7 p7 (fun h6=>?_) (fun h6=>?_)
  · replace h:=iT h6 h
    refine wy rfl d7 (s_move (et d0) (dt p8) ?_)
    refine wy rfl d7 (s_move (et d1) (dt p9) ?_)
    replace h:=bI h; obtain ⟨i7,g8,h⟩:=h
    refine wy rfl d7 (s_subc (et d9) ec g8 (dt (q10 p0)) ?_)
    replace h:=bI h; obtain ⟨r9,g10,h⟩:=h
    refine wy rfl d7 (s_callv isfn56 ef (e1 (et d8) (e1 (et (k10 d0)) (e1 ec e0))) (vf_unit_w hg m4 m5 g10 hS) ?_)
    rintro _ w1 ⟨μ1,rfl,le11,hS⟩
    refine pu (dt (q10 p1)) ?_
    refine wl (s_pickt (et d7) (et (k10 d1)) (dt (q10 p2)) ?_)
    refine wl (s_assign (et (k10 d2)) (dt p4) ?_)
    refine wnil ?_
    refine xn ?_
    refine cret ?_
    obtain rfl:=oI h
    refine ret1 rfl d4 ?_
    exact ⟨_,rfl,le11,hS⟩
  · replace h:=iF h6 h
    refine wn rfl d7 rfl (dt p8) ?_
    refine wn rfl d7 rfl (dt p9) ?_
    refine wn rfl d7 rfl (dt (q10 p0)) ?_
    refine wn rfl d7 rfl (dt (q10 p1)) ?_
    refine wl (s_pickf (et d7) ec (dt (q10 p2)) ?_)
    refine wl (s_assign (et (k10 d2)) (dt p4) ?_)
    refine wnil ?_
    refine xn ?_
    refine cret ?_
    obtain rfl:=oI h
    refine ret1 rfl d4 ?_
    exact ⟨_,rfl,Le.r,hS⟩
theorem vf_instr_w {μ0:M} {w0 w:World} {rsF:List Res} (hg:Le Gm μ0) {p_1:TVc} {b1:Nat} {o2:Nat} {v3:Value} {p_2:TUnit} {b6:Nat} {o7:Nat} {a8:Option Addr} {c9:Nat} {a11:Option Addr} {c12:Nat} {p_3:TInstr} {r:Int} (m4:Np μ0 v3 p_1.m) (m5:At μ0 b1 o2 [v3]) (m10:Sl μ0 a8 c9 p_2.Locals) (m13:Sl μ0 a11 c12 p_2.Code) (m14:At μ0 b6 o7 [.int .i64 p_2.Kind,.int .i64 p_2.Params,.slice a8 p_2.Locals.length c9,.int .i64 p_2.Result,.int .i64 p_2.Takes,.slice a11 p_2.Code.length c12]) (h:vf_instr p_1 p_2 p_3=some r) (hS:Sq μ0 w0 w (rsF)):CallsV Tryz.prog 36 [.pointer (some ⟨b1,o2,none⟩),.pointer (some ⟨b6,o7,none⟩),.agg ⟨[.int .i64 p_3.Op,.int .i64 p_3.A,.int .i64 p_3.N]⟩] w (fun v w'=>∃ (μ':M) ,v=.int .i64 r∧Le μ0 μ'∧Sq μ' w0 w' (rsF)):=by
  unfold vf_instr at h
  refine enter Tryz.func36 rfl (frm:=[_,_,_,_,_,_,_,_,_,_,_,_,_,_,_,_,_,_,_,_,_,_,_,_,_,_,_,_,_,_,_,_,_,_,_,_,_,_,_,_,_,_,_,_,_,_,_,_,_,_,_,_,_,_,_,_,_,_,_,_,_,_,_,_,_,_,_,_,_,_,_,_,_,_,_,_,_,_,_,_,_,_,_,_,_,_,_,_,_,_,_,_,_]) rfl ?_
  refine cseq ?_
  refine creg ?_
  refine wl (s_box (et d2) rfl hS ?_); clear hS; intro b15 w1 hb16 hS; refine pu (dt p5) ?_
  refine wl (s_assign ec (dt p6) ?_)
  refine wnil ?_
  refine xn ?_
  refine cseq ?_
  refine creg ?_
  refine wl (s_assign ec (dt p7) ?_)
  refine wnil ?_
  refine xn ?_
  refine cseq ?_
  refine cseq ?_
  refine creg ?_
  refine wl (s_fa fa43_0 (et d5) rfl (dt p8) ?_)
  refine wl (s_load ti3 (et d8) ((hS.blk d0).cell d0) (dt p9) ?_)
  refine wnil ?_
  refine xn ?_
  refine ccutE ([6]++rg 10 81) (by decide +kernel) (fun m w=>∃ (μx:M) (b17:Bool),m=(yK6 (yO1 6 (.i (.bool b17)::(yK2 (yO50 10 (yO20 60 (yO10 80 (yO1 90 []))))))))∧vf_instr_j1 b17=some r∧Le μ0 μx∧Sq μx w0 w (rsF)) (by rintro _ _ ⟨_,_,rfl,_⟩; rfl) ?_ ?_
  · refine cblock ?_
    refine cseq ?_
    refine creg ?_
    refine wl (s_eqi (et d9) ec (dt (q10 p9)) ?_)
    refine wl (s_assign (et (k10 d9)) (dt (q10 p8)) ?_)
    refine wnil ?_
    refine xn ?_
    refine cifd (et (k10 d8)) (fun h18=>?_) (fun h18=>?_)
    · replace h:=iT h18 h
      refine creg ?_
      refine wl (s_fa fa43_1 (et d5) rfl (dt (q20 p0)) ?_)
      refine wl (s_load ti3 (et (k20 d0)) ((hS.blk d0).cell d1) (dt (q20 p1)) ?_)
      refine wl (s_eqi (et (k20 d1)) ec (dt (q20 p2)) ?_)
      refine wl (s_move (et (k20 d2)) (dt (q20 p3)) ?_)
      refine wspd (k20 d3) (q20 p3) (q20 p3) (fun h19=>?_) (fun h19=>?_)
      · replace h:=iT h19 h
        refine wn rfl (k20 d3) rfl (dt (q20 p4)) ?_
        refine wn rfl (k20 d3) rfl (dt (q20 p5)) ?_
        refine wn rfl (k20 d3) rfl (dt (q20 p6)) ?_
        refine wl (s_pickt (et (k20 d3)) ec (dt (q20 p7)) ?_)
        refine wl (s_assign (et (k20 d7)) (dt p7) ?_)
        refine wnil ?_
        refine (fun h=>bn (xl h)) ?_
        replace hS:=hS.drop Rm.z
        exact ⟨_,_,rfl,(aK6 (aO1 (aI (aK2 (aO50 (aO20 (aO10 (aO1 aZ)))))))),_,true,rfl,h,Le.r,hS⟩
      · replace h:=iF h19 h
        refine wy rfl (k20 d3) (s_fa fa43_1 (et d5) rfl (dt (q20 p4)) ?_)
        refine wy rfl (k20 d3) (s_load ti3 (et (k20 d4)) ((hS.blk d0).cell d1) (dt (q20 p5)) ?_)
        refine wy rfl (k20 d3) (s_eqi (et (k20 d5)) ec (dt (q20 p6)) ?_)
        refine wl (s_pickf (et (k20 d3)) (et (k20 d6)) (dt (q20 p7)) ?_)
        refine wl (s_assign (et (k20 d7)) (dt p7) ?_)
        refine wnil ?_
        refine (fun h=>bn (xl h)) ?_
        replace hS:=hS.drop Rm.z
        exact ⟨_,_,rfl,(aK6 (aO1 (aI (aK2 (aO50 (aO20 (aO10 (aO1 aZ)))))))),_,(decide (p_3.A=1)),rfl,h,Le.r,hS⟩
    · replace h:=iF h18 h
      refine cseq ?_
      refine cseq ?_
      refine creg ?_
      refine wl (s_eqi (et d9) ec (dt (q20 p9)) ?_)
      refine wl (s_assign (et (k20 d9)) (dt (q20 p8)) ?_)
      refine wnil ?_
      refine xn ?_
      refine ccutE ([30]) (by decide) (fun m w=>∃ (μx:M) (b20:Bool),m=(yK20 (yK8 (.i (.bool b20)::(yK1 (yO1 30 [])))))∧vf_instr_j2 p_1 p_2 p_3 b20=some r∧Le μ0 μx∧Sq μx w0 w (.blk b15 43 [.int .i64 p_3.Op,.int .i64 p_3.A,.int .i64 p_3.N]::rsF)) (by rintro _ _ ⟨_,_,rfl,_⟩; rfl) ?_ ?_
      · refine cifd (et (k20 d8)) (fun h21=>?_) (fun h21=>?_)
        · replace h:=iT h21 h
          refine cskip ?_
          refine xl ?_
          exact ⟨_,_,rfl,(aK20 (aK8 (aI (aK1 (aO1 aZ))))),_,(decide (p_3.Op=3)),rfl,h,Le.r,hS⟩
        · replace h:=iF h21 h
          refine creg ?_
          refine wl (s_eqi (et d9) ec (dt (q30 p0)) ?_)
          refine wl (s_assign (et (k30 d0)) (dt (q20 p8)) ?_)
          refine wnil ?_
          refine xl ?_
          exact ⟨_,_,rfl,(aK20 (aK8 (aI (aK1 (aO1 aZ))))),_,(decide (p_3.Op=4)),rfl,h,Le.r,hS⟩
      · rintro _ t w2 ⟨μ1,b20,rfl,h,le22,hS⟩
        unfold vf_instr_j2 at h
        refine nrm (mK20 (mK8 (mi (mK1 (mO1 mz))))) ?_
        refine xn ?_
        refine cifb (et (k20 d8)) (fun h23=>?_) (fun h23=>?_)
        · replace h:=iT h23 h
          refine cdraw (by kernel_rfl) rfl fun w3 hh_ ho_ ht_ hu_=>?_
          replace hS:=hS.drew hh_ ho_ ht_ hu_
          refine sf_start ?_
          refine sf_pu (i:=0) [0,1,2,3,4,5,6,7,8,9,10,11,12,13] (blind_of fun _ _ _ h=>h.2) rfl rfl rfl (u_fa fa43_1 (et d5) rfl) (q30 p1) ?_
          refine sf_rd (i:=1) [1,2,3,4,5,6,7,8,9,10,11,12,13] (blind_of fun _ _ _ h=>h.2) rfl rfl rfl (u_load ti3 (et (k30 d1)) ((hS.blk d0).cell d1)) (q30 p2) ?_
          refine sf_pu (i:=2) [2,3,4,5,6,7,8,9,10,11,12,13] (blind_of fun _ _ _ h=>h.2) rfl rfl rfl (u_geq (et (k30 d2)) ec) (q30 p3) ?_
          refine sf_pu (i:=3) [3,4,5,6,7,8,9,10,11,12,13] (blind_of fun _ _ _ h=>h.2) rfl rfl rfl (u_move (et (k30 d3))) (q30 p4) ?_
          refine sfsd (k30 d4) (q30 p4) (q30 p4) (fun h24=>?_) (fun h24=>?_)
          · replace h:=iT h24 h
            refine sf_puY (i:=4) [4,5,11,12,13] (blind_of fun _ _ _ h=>h.2) rfl rfl rfl rfl (k30 d4) (u_fa fa43_1 (et d5) rfl) (q30 p5) ?_
            refine sf_rdY (i:=5) [5,11,12,13] (blind_of fun _ _ _ h=>h.2) rfl rfl rfl rfl (k30 d4) (u_load ti3 (et (k30 d5)) ((hS.blk d0).cell d1)) (q30 p6) ?_
            refine sf_puY (i:=6) [6,7,8,9,10,11,12,13] (blind_of fun _ _ _ h=>h.2) rfl rfl rfl rfl (k30 d4) (u_move (et d1)) (q30 p7) ?_
            refine sf_puY (i:=7) [7,8,9,10,11,12,13] (blind_of fun _ _ _ h=>h.2) rfl rfl rfl rfl (k30 d4) (u_nilck (et (k30 d7))) (q30 p8) ?_
            refine sf_puY (i:=8) [8,9,10,11,12,13] (blind_of fun _ _ _ h=>h.2) rfl rfl rfl rfl (k30 d4) (u_fa fa41_2 (et (k30 d8)) rfl) (q30 p9) ?_
            refine sf_rdY (i:=9) [9,10,11,12,13] (blind_of fun _ _ _ h=>h.2) rfl rfl rfl rfl (k30 d4) (u_load ti38 (et (k30 d9)) ((m14 _ (le22 _ hS.a)).one d2)) (q40 p0) ?_
            refine sf_puY (i:=10) [10,11,12,13] (blind_of fun _ _ _ h=>h.2) rfl rfl rfl rfl (k30 d4) (u_lensl Tryz.underlying38 (et (k40 d0))) (q40 p1) ?_
            refine sf_puY (i:=11) [11,12,13] (blind_of fun _ _ _ h=>h.2) rfl rfl rfl rfl (k30 d4) (u_lss (et (k30 d6)) (et (k40 d1))) (q40 p2) ?_
            refine sf_pu (i:=12) [12,13] (blind_of fun _ _ _ h=>h.2) rfl rfl rfl (u_pickt (et (k30 d4)) (et (k40 d2))) (q40 p3) ?_
            refine sf_pu (i:=13) [13] (blind_of fun _ _ _ h=>h.2) rfl rfl rfl (u_assign (et (k40 d3))) p7 ?_
            refine sf_nil ?_
            refine (fun h=>bn (xl h)) ?_
            replace hS:=hS.drop Rm.z
            exact ⟨_,_,rfl,(aK6 (aO1 (aI (aK2 (aO50 (aO20 (aO10 (aO1 aZ)))))))),_,(decide (p_3.A<(p_2.Locals.length:Int))),rfl,h,le22,hS⟩
          · replace h:=iF h24 h
            refine sf_puN (i:=4) [4,5,11,12,13] (blind_of fun _ _ _ h=>h.2) rfl rfl rfl rfl (k30 d4) rfl (q30 p5) ?_
            refine sf_puN (i:=5) [5,11,12,13] (blind_of fun _ _ _ h=>h.2) rfl rfl rfl rfl (k30 d4) rfl (q30 p6) ?_
            refine sf_puN (i:=6) [6,7,8,9,10,11,12,13] (blind_of fun _ _ _ h=>h.2) rfl rfl rfl rfl (k30 d4) rfl (q30 p7) ?_
            refine sf_puN (i:=7) [7,8,9,10,11,12,13] (blind_of fun _ _ _ h=>h.2) rfl rfl rfl rfl (k30 d4) rfl (q30 p8) ?_
            refine sf_puN (i:=8) [8,9,10,11,12,13] (blind_of fun _ _ _ h=>h.2) rfl rfl rfl rfl (k30 d4) rfl (q30 p9) ?_
            refine sf_puN (i:=9) [9,10,11,12,13] (blind_of fun _ _ _ h=>h.2) rfl rfl rfl rfl (k30 d4) rfl (q40 p0) ?_
            refine sf_puN (i:=10) [10,11,12,13] (blind_of fun _ _ _ h=>h.2) rfl rfl rfl rfl (k30 d4) rfl (q40 p1) ?_
            refine sf_puN (i:=11) [11,12,13] (blind_of fun _ _ _ h=>h.2) rfl rfl rfl rfl (k30 d4) rfl (q40 p2) ?_
            refine sf_pu (i:=12) [12,13] (blind_of fun _ _ _ h=>h.2) rfl rfl rfl (u_pickf (et (k30 d4)) ec) (q40 p3) ?_
            refine sf_pu (i:=13) [13] (blind_of fun _ _ _ h=>h.2) rfl rfl rfl (u_assign (et (k40 d3))) p7 ?_
            refine sf_nil ?_
            refine (fun h=>bn (xl h)) ?_
            replace hS:=hS.drop Rm.z
            exact ⟨_,_,rfl,(aK6 (aO1 (aI (aK2 (aO50 (aO20 (aO10 (aO1 aZ)))))))),_,false,rfl,h,le22,hS⟩
        · replace h:=iF h23 h
          refine cseq ?_
          refine cseq ?_
          refine creg ?_
          refine wl (s_eqi (et d9) ec (dt (q40 p5)) ?_)
          refine wl (s_assign (et (k40 d5)) (dt (q40 p4)) ?_)
          refine wnil ?_
          refine xn ?_
          refine ccutE ([46]) (by decide) (fun m w=>∃ (μx:M) (b25:Bool),m=(yK20 (yK20 (yK4 (.i (.bool b25)::(yK1 (yO1 46 []))))))∧vf_instr_j3 p_1 p_2 p_3 b25=some r∧Le μ1 μx∧Sq μx w0 w (.blk b15 43 [.int .i64 p_3.Op,.int .i64 p_3.A,.int .i64 p_3.N]::rsF)) (by rintro _ _ ⟨_,_,rfl,_⟩; rfl) ?_ ?_
          · refine cifd (et (k40 d4)) (fun h26=>?_) (fun h26=>?_)
            · replace h:=iT h26 h
              refine cskip ?_
              refine xl ?_
              exact ⟨_,_,rfl,(aK20 (aK20 (aK4 (aI (aK1 (aO1 aZ)))))),_,(decide (p_3.Op=21)),rfl,h,Le.r,hS⟩
            · replace h:=iF h26 h
              refine creg ?_
              refine wl (s_eqi (et d9) ec (dt (q40 p6)) ?_)
              refine wl (s_assign (et (k40 d6)) (dt (q40 p4)) ?_)
              refine wnil ?_
              refine xl ?_
              exact ⟨_,_,rfl,(aK20 (aK20 (aK4 (aI (aK1 (aO1 aZ)))))),_,(decide (p_3.Op=22)),rfl,h,Le.r,hS⟩
          · rintro _ t w4 ⟨μ2,b25,rfl,h,le27,hS⟩
            unfold vf_instr_j3 at h
            refine nrm (mK20 (mK20 (mK4 (mi (mK1 (mO1 mz)))))) ?_
            refine xn ?_
            refine cifb (et (k40 d4)) (fun h28=>?_) (fun h28=>?_)
            · replace h:=iT h28 h
              refine cdraw (by kernel_rfl) rfl fun w5 hh_ ho_ ht_ hu_=>?_
              replace hS:=hS.drew hh_ ho_ ht_ hu_
              refine sf_start ?_
              refine sf_pu (i:=0) [0,1,2,3,4,5,6,7,8,9,10,11,12,13] (blind_of fun _ _ _ h=>h.2) rfl rfl rfl (u_fa fa43_1 (et d5) rfl) (q40 p7) ?_
              refine sf_rd (i:=1) [1,2,3,4,5,6,7,8,9,10,11,12,13] (blind_of fun _ _ _ h=>h.2) rfl rfl rfl (u_load ti3 (et (k40 d7)) ((hS.blk d0).cell d1)) (q40 p8) ?_
              refine sf_pu (i:=2) [2,3,4,5,6,7,8,9,10,11,12,13] (blind_of fun _ _ _ h=>h.2) rfl rfl rfl (u_geq (et (k40 d8)) ec) (q40 p9) ?_
              refine sf_pu (i:=3) [3,4,5,6,7,8,9,10,11,12,13] (blind_of fun _ _ _ h=>h.2) rfl rfl rfl (u_move (et (k40 d9))) (q50 p0) ?_
              refine sfsd (k50 d0) (q50 p0) (q50 p0) (fun h29=>?_) (fun h29=>?_)
              · replace h:=iT h29 h
                refine sf_puY (i:=4) [4,5,11,12,13] (blind_of fun _ _ _ h=>h.2) rfl rfl rfl rfl (k50 d0) (u_fa fa43_1 (et d5) rfl) (q50 p1) ?_
                refine sf_rdY (i:=5) [5,11,12,13] (blind_of fun _ _ _ h=>h.2) rfl rfl rfl rfl (k50 d0) (u_load ti3 (et (k50 d1)) ((hS.blk d0).cell d1)) (q50 p2) ?_
                refine sf_puY (i:=6) [6,7,8,9,10,11,12,13] (blind_of fun _ _ _ h=>h.2) rfl rfl rfl rfl (k50 d0) (u_move (et d1)) (q50 p3) ?_
                refine sf_puY (i:=7) [7,8,9,10,11,12,13] (blind_of fun _ _ _ h=>h.2) rfl rfl rfl rfl (k50 d0) (u_nilck (et (k50 d3))) (q50 p4) ?_
                refine sf_puY (i:=8) [8,9,10,11,12,13] (blind_of fun _ _ _ h=>h.2) rfl rfl rfl rfl (k50 d0) (u_fa fa41_5 (et (k50 d4)) rfl) (q50 p5) ?_
                refine sf_rdY (i:=9) [9,10,11,12,13] (blind_of fun _ _ _ h=>h.2) rfl rfl rfl rfl (k50 d0) (u_load ti39 (et (k50 d5)) ((m14 _ ((le22.t le27) _ hS.a)).one d5)) (q50 p6) ?_
                refine sf_puY (i:=10) [10,11,12,13] (blind_of fun _ _ _ h=>h.2) rfl rfl rfl rfl (k50 d0) (u_lensl Tryz.underlying39 (et (k50 d6))) (q50 p7) ?_
                refine sf_puY (i:=11) [11,12,13] (blind_of fun _ _ _ h=>h.2) rfl rfl rfl rfl (k50 d0) (u_lss (et (k50 d2)) (et (k50 d7))) (q50 p8) ?_
                refine sf_pu (i:=12) [12,13] (blind_of fun _ _ _ h=>h.2) rfl rfl rfl (u_pickt (et (k50 d0)) (et (k50 d8))) (q50 p9) ?_
                refine sf_pu (i:=13) [13] (blind_of fun _ _ _ h=>h.2) rfl rfl rfl (u_assign (et (k50 d9))) p7 ?_
                refine sf_nil ?_
                refine (fun h=>bn (xl h)) ?_
                replace hS:=hS.drop Rm.z
                exact ⟨_,_,rfl,(aK6 (aO1 (aI (aK2 (aO50 (aO20 (aO10 (aO1 aZ)))))))),_,(decide (p_3.A<(p_2.Code.length:Int))),rfl,h,(le22.t le27),hS⟩
              · replace h:=iF h29 h
                refine sf_puN (i:=4) [4,5,11,12,13] (blind_of fun _ _ _ h=>h.2) rfl rfl rfl rfl (k50 d0) rfl (q50 p1) ?_
                refine sf_puN (i:=5) [5,11,12,13] (blind_of fun _ _ _ h=>h.2) rfl rfl rfl rfl (k50 d0) rfl (q50 p2) ?_
                refine sf_puN (i:=6) [6,7,8,9,10,11,12,13] (blind_of fun _ _ _ h=>h.2) rfl rfl rfl rfl (k50 d0) rfl (q50 p3) ?_
                refine sf_puN (i:=7) [7,8,9,10,11,12,13] (blind_of fun _ _ _ h=>h.2) rfl rfl rfl rfl (k50 d0) rfl (q50 p4) ?_
                refine sf_puN (i:=8) [8,9,10,11,12,13] (blind_of fun _ _ _ h=>h.2) rfl rfl rfl rfl (k50 d0) rfl (q50 p5) ?_
                refine sf_puN (i:=9) [9,10,11,12,13] (blind_of fun _ _ _ h=>h.2) rfl rfl rfl rfl (k50 d0) rfl (q50 p6) ?_
                refine sf_puN (i:=10) [10,11,12,13] (blind_of fun _ _ _ h=>h.2) rfl rfl rfl rfl (k50 d0) rfl (q50 p7) ?_
                refine sf_puN (i:=11) [11,12,13] (blind_of fun _ _ _ h=>h.2) rfl rfl rfl rfl (k50 d0) rfl (q50 p8) ?_
                refine sf_pu (i:=12) [12,13] (blind_of fun _ _ _ h=>h.2) rfl rfl rfl (u_pickf (et (k50 d0)) ec) (q50 p9) ?_
                refine sf_pu (i:=13) [13] (blind_of fun _ _ _ h=>h.2) rfl rfl rfl (u_assign (et (k50 d9))) p7 ?_
                refine sf_nil ?_
                refine (fun h=>bn (xl h)) ?_
                replace hS:=hS.drop Rm.z
                exact ⟨_,_,rfl,(aK6 (aO1 (aI (aK2 (aO50 (aO20 (aO10 (aO1 aZ)))))))),_,false,rfl,h,(le22.t le27),hS⟩
            · replace h:=iF h28 h
              refine cseq ?_
              refine creg ?_
              refine wl (s_eqi (et d9) ec (dt (q60 p1)) ?_)
              refine wl (s_assign (et (k60 d1)) (dt (q60 p0)) ?_)
              refine wnil ?_
              refine xn ?_
              refine cifd (et (k60 d0)) (fun h30=>?_) (fun h30=>?_)
              · replace h:=iT h30 h
                refine creg ?_
                refine wl (s_move (et d0) (dt (q60 p2)) ?_)
                refine wl (s_fa fa43_1 (et d5) rfl (dt (q60 p3)) ?_)
                refine wl (s_load ti3 (et (k60 d3)) ((hS.blk d0).cell d1) (dt (q60 p4)) ?_)
                replace h:=bI h; obtain ⟨r31,g32,h⟩:=h
                refine wl (s_callv isfn56 ef (e1 (et (k60 d2)) (e1 (et (k60 d4)) (e1 ec e0))) (vf_unit_w (hg.t (le22.t le27)) (m4.up (le22.t le27)) (m5.up (le22.t le27)) g32 hS) ?_)
                rintro _ w6 ⟨μ3,rfl,le33,hS⟩
                refine pu (dt (q60 p5)) ?_
                refine wl (s_assign (et (k60 d5)) (dt p7) ?_)
                refine wnil ?_
                refine (fun h=>bn (xl h)) ?_
                replace hS:=hS.drop Rm.z
                exact ⟨_,_,rfl,(aK6 (aO1 (aI (aK2 (aO50 (aO20 (aO10 (aO1 aZ)))))))),_,r31,rfl,h,(le22.t (le27.t le33)),hS⟩
              · replace h:=iF h30 h
                refine cseq ?_
                refine creg ?_
                refine wl (s_eqi (et d9) ec (dt (q60 p7)) ?_)
                refine wl (s_assign (et (k60 d7)) (dt (q60 p6)) ?_)
                refine wnil ?_
                refine xn ?_
                refine cifd (et (k60 d6)) (fun h34=>?_) (fun h34=>?_)
                · replace h:=iT h34 h
                  refine creg ?_
                  refine wl (s_move (et d0) (dt (q60 p8)) ?_)
                  refine wl (s_fa fa43_1 (et d5) rfl (dt (q60 p9)) ?_)
                  refine wl (s_load ti3 (et (k60 d9)) ((hS.blk d0).cell d1) (dt (q70 p0)) ?_)
                  replace h:=bI h; obtain ⟨r35,g36,h⟩:=h
                  refine wl (s_callv isfn56 ef (e1 (et (k60 d8)) (e1 (et (k70 d0)) (e1 ec e0))) (vf_unit_w (hg.t (le22.t le27)) (m4.up (le22.t le27)) (m5.up (le22.t le27)) g36 hS) ?_)
                  rintro _ w7 ⟨μ4,rfl,le37,hS⟩
                  refine pu (dt (q70 p1)) ?_
                  refine wl (s_assign (et (k70 d1)) (dt p7) ?_)
                  refine wnil ?_
                  refine (fun h=>bn (xl h)) ?_
                  replace hS:=hS.drop Rm.z
                  exact ⟨_,_,rfl,(aK6 (aO1 (aI (aK2 (aO50 (aO20 (aO10 (aO1 aZ)))))))),_,r35,rfl,h,(le22.t (le27.t le37)),hS⟩
                · replace h:=iF h34 h
                  refine cseq ?_
                  refine cseq ?_
                  refine creg ?_
                  refine wl (s_eqi (et d9) ec (dt (q70 p3)) ?_)
                  refine wl (s_assign (et (k70 d3)) (dt (q70 p2)) ?_)
                  refine wnil ?_
                  refine xn ?_
                  refine ccutE ([74]) (by decide) (fun m w=>∃ (μx:M) (b38:Bool),m=(yK50 (yK20 (yK2 (.i (.bool b38)::(yK1 (yO1 74 []))))))∧vf_instr_j4 p_1 p_3 b38=some r∧Le μ2 μx∧Sq μx w0 w (.blk b15 43 [.int .i64 p_3.Op,.int .i64 p_3.A,.int .i64 p_3.N]::rsF)) (by rintro _ _ ⟨_,_,rfl,_⟩; rfl) ?_ ?_
                  · refine cifd (et (k70 d2)) (fun h39=>?_) (fun h39=>?_)
                    · replace h:=iT h39 h
                      refine cskip ?_
                      refine xl ?_
                      exact ⟨_,_,rfl,(aK50 (aK20 (aK2 (aI (aK1 (aO1 aZ)))))),_,(decide (p_3.Op=26)),rfl,h,Le.r,hS⟩
                    · replace h:=iF h39 h
                      refine creg ?_
                      refine wl (s_eqi (et d9) ec (dt (q70 p4)) ?_)
                      refine wl (s_assign (et (k70 d4)) (dt (q70 p2)) ?_)
                      refine wnil ?_
                      refine xl ?_
                      exact ⟨_,_,rfl,(aK50 (aK20 (aK2 (aI (aK1 (aO1 aZ)))))),_,(decide (p_3.Op=27)),rfl,h,Le.r,hS⟩
                  · rintro _ t w8 ⟨μ5,b38,rfl,h,le40,hS⟩
                    unfold vf_instr_j4 at h
                    refine nrm (mK50 (mK20 (mK2 (mi (mK1 (mO1 mz)))))) ?_
                    refine xn ?_
                    refine cifb (et (k70 d2)) (fun h41=>?_) (fun h41=>?_)
                    · replace h:=iT h41 h
                      refine cdraw (by kernel_rfl) rfl fun w9 hh_ ho_ ht_ hu_=>?_
                      replace hS:=hS.drew hh_ ho_ ht_ hu_
                      refine sf_start ?_
                      refine sf_pu (i:=0) [0,1,2,3,4,5,6,7,8,9,10,11,12,13,14,15,16] (blind_of fun _ _ _ h=>h.2) rfl rfl rfl (u_fa fa43_1 (et d5) rfl) (q70 p5) ?_
                      refine sf_rd (i:=1) [1,2,3,4,5,6,7,8,9,10,11,12,13,14,15,16] (blind_of fun _ _ _ h=>h.2) rfl rfl rfl (u_load ti3 (et (k70 d5)) ((hS.blk d0).cell d1)) (q70 p6) ?_
                      refine sf_pu (i:=2) [2,3,4,5,6,7,8,9,10,11,12,13,14,15,16] (blind_of fun _ _ _ h=>h.2) rfl rfl rfl (u_geq (et (k70 d6)) ec) (q70 p7) ?_
                      refine sf_pu (i:=3) [3,4,5,6,7,8,9,10,11,12,13,14,15,16] (blind_of fun _ _ _ h=>h.2) rfl rfl rfl (u_move (et (k70 d7))) (q70 p8) ?_
                      refine sfsd (k70 d8) (q70 p8) (q70 p8) (fun h42=>?_) (fun h42=>?_)
                      · replace h:=iT h42 h
                        refine sf_puY (i:=4) [4,5,14,15,16] (blind_of fun _ _ _ h=>h.2) rfl rfl rfl rfl (k70 d8) (u_fa fa43_1 (et d5) rfl) (q70 p9) ?_
                        refine sf_rdY (i:=5) [5,14,15,16] (blind_of fun _ _ _ h=>h.2) rfl rfl rfl rfl (k70 d8) (u_load ti3 (et (k70 d9)) ((hS.blk d0).cell d1)) (q80 p0) ?_
                        refine sf_puY (i:=6) [6,7,8,9,10,11,12,13,14,15,16] (blind_of fun _ _ _ h=>h.2) rfl rfl rfl rfl (k70 d8) (u_move (et d0)) (q80 p1) ?_
                        refine sf_puY (i:=7) [7,8,9,10,11,12,13,14,15,16] (blind_of fun _ _ _ h=>h.2) rfl rfl rfl rfl (k70 d8) (u_nilck (et (k80 d1))) (q80 p2) ?_
                        refine sf_puY (i:=8) [8,9,10,11,12,13,14,15,16] (blind_of fun _ _ _ h=>h.2) rfl rfl rfl rfl (k70 d8) (u_fa fa75_0 (et (k80 d2)) rfl) (q80 p3) ?_
                        refine sf_rdY (i:=9) [9,10,11,12,13,14,15,16] (blind_of fun _ _ _ h=>h.2) rfl rfl rfl rfl (k70 d8) (u_load ti72 (et (k80 d3)) ((m5 _ ((le22.t (le27.t le40)) _ hS.a)).one d0)) (q80 p4) ?_
                        replace h:=bI h; obtain ⟨x43,g44,h⟩:=h
                        obtain ⟨b45,o46,cs47,rfl,f48,m49⟩:=Np.get (m4.up (le22.t (le27.t le40))) g44
                        obtain ⟨a50,c51,a53,c54,rfl,m52,m55⟩:=m49
                        refine sf_puY (i:=10) [10,11,12,13,14,15,16] (blind_of fun _ _ _ h=>h.2) rfl rfl rfl rfl (k70 d8) (u_nilck (et (k80 d4))) (q80 p5) ?_
                        refine sf_puY (i:=11) [11,12,13,14,15,16] (blind_of fun _ _ _ h=>h.2) rfl rfl rfl rfl (k70 d8) (u_fa fa25_0 (et (k80 d5)) rfl) (q80 p6) ?_
                        refine sf_rdY (i:=12) [12,13,14,15,16] (blind_of fun _ _ _ h=>h.2) rfl rfl rfl rfl (k70 d8) (u_load ti22 (et (k80 d6)) ((f48 _ hS.a).one d0)) (q80 p7) ?_
                        refine sf_puY (i:=13) [13,14,15,16] (blind_of fun _ _ _ h=>h.2) rfl rfl rfl rfl (k70 d8) (u_lensl Tryz.underlying22 (et (k80 d7))) (q80 p8) ?_
                        refine sf_puY (i:=14) [14,15,16] (blind_of fun _ _ _ h=>h.2) rfl rfl rfl rfl (k70 d8) (u_lss (et (k80 d0)) (et (k80 d8))) (q80 p9) ?_
                        refine sf_pu (i:=15) [15,16] (blind_of fun _ _ _ h=>h.2) rfl rfl rfl (u_pickt (et (k70 d8)) (et (k80 d9))) (q90 p0) ?_
                        refine sf_pu (i:=16) [16] (blind_of fun _ _ _ h=>h.2) rfl rfl rfl (u_assign (et (k90 d0))) p7 ?_
                        refine sf_nil ?_
                        refine (fun h=>bn (xl h)) ?_
                        replace hS:=hS.drop Rm.z
                        exact ⟨_,_,rfl,(aK6 (aO1 (aI (aK2 (aO50 (aO20 (aO10 (aO1 aZ)))))))),_,(decide (p_3.A<(x43.Boxes.length:Int))),rfl,h,(le22.t (le27.t le40)),hS⟩
                      · replace h:=iF h42 h
                        refine sf_puN (i:=4) [4,5,14,15,16] (blind_of fun _ _ _ h=>h.2) rfl rfl rfl rfl (k70 d8) rfl (q70 p9) ?_
                        refine sf_puN (i:=5) [5,14,15,16] (blind_of fun _ _ _ h=>h.2) rfl rfl rfl rfl (k70 d8) rfl (q80 p0) ?_
                        refine sf_puN (i:=6) [6,7,8,9,10,11,12,13,14,15,16] (blind_of fun _ _ _ h=>h.2) rfl rfl rfl rfl (k70 d8) rfl (q80 p1) ?_
                        refine sf_puN (i:=7) [7,8,9,10,11,12,13,14,15,16] (blind_of fun _ _ _ h=>h.2) rfl rfl rfl rfl (k70 d8) rfl (q80 p2) ?_
                        refine sf_puN (i:=8) [8,9,10,11,12,13,14,15,16] (blind_of fun _ _ _ h=>h.2) rfl rfl rfl rfl (k70 d8) rfl (q80 p3) ?_
                        refine sf_puN (i:=9) [9,10,11,12,13,14,15,16] (blind_of fun _ _ _ h=>h.2) rfl rfl rfl rfl (k70 d8) rfl (q80 p4) ?_
                        refine sf_puN (i:=10) [10,11,12,13,14,15,16] (blind_of fun _ _ _ h=>h.2) rfl rfl rfl rfl (k70 d8) rfl (q80 p5) ?_
                        refine sf_puN (i:=11) [11,12,13,14,15,16] (blind_of fun _ _ _ h=>h.2) rfl rfl rfl rfl (k70 d8) rfl (q80 p6) ?_
                        refine sf_puN (i:=12) [12,13,14,15,16] (blind_of fun _ _ _ h=>h.2) rfl rfl rfl rfl (k70 d8) rfl (q80 p7) ?_
                        refine sf_puN (i:=13) [13,14,15,16] (blind_of fun _ _ _ h=>h.2) rfl rfl rfl rfl (k70 d8) rfl (q80 p8) ?_
                        refine sf_puN (i:=14) [14,15,16] (blind_of fun _ _ _ h=>h.2) rfl rfl rfl rfl (k70 d8) rfl (q80 p9) ?_
                        refine sf_pu (i:=15) [15,16] (blind_of fun _ _ _ h=>h.2) rfl rfl rfl (u_pickf (et (k70 d8)) ec) (q90 p0) ?_
                        refine sf_pu (i:=16) [16] (blind_of fun _ _ _ h=>h.2) rfl rfl rfl (u_assign (et (k90 d0))) p7 ?_
                        refine sf_nil ?_
                        refine (fun h=>bn (xl h)) ?_
                        replace hS:=hS.drop Rm.z
                        exact ⟨_,_,rfl,(aK6 (aO1 (aI (aK2 (aO50 (aO20 (aO10 (aO1 aZ)))))))),_,false,rfl,h,(le22.t (le27.t le40)),hS⟩
                    · replace h:=iF h41 h
                      refine cseq ?_
                      refine ccutE (rg 10 7) (by decide) (fun m w=>∃ (μx:M) (b56:Bool),m=(yK10 (yO7 10 (.i (.bool b56)::[])))∧vf_instr_j5 b56=some r∧Le μ5 μx∧Sq μx w0 w (rsF)) (by rintro _ _ ⟨_,_,rfl,_⟩; rfl) ?_ ?_
                      · refine creg ?_
                        refine wl (s_fa fa43_0 (et d5) rfl (dt (q10 p0)) ?_)
                        refine wl (s_load ti3 (et (k10 d0)) ((hS.blk d0).cell d0) (dt (q10 p1)) ?_)
                        refine wl (s_lss (et (k10 d1)) ec (dt (q10 p2)) ?_)
                        refine wl (s_move (et (k10 d2)) (dt (q10 p3)) ?_)
                        refine wspd (k10 d3) (q10 p3) (q10 p3) (fun h57=>?_) (fun h57=>?_)
                        · replace h:=iT h57 h
                          refine wn rfl (k10 d3) rfl (dt (q10 p4)) ?_
                          refine wn rfl (k10 d3) rfl (dt (q10 p5)) ?_
                          refine wn rfl (k10 d3) rfl (dt (q10 p6)) ?_
                          refine wl (s_pickt (et (k10 d3)) ec (dt (q10 p7)) ?_)
                          refine wnil ?_
                          refine xl ?_
                          replace hS:=hS.drop Rm.z
                          exact ⟨_,_,rfl,(aK10 (aO7 (aI aZ))),_,true,rfl,h,Le.r,hS⟩
                        · replace h:=iF h57 h
                          refine wy rfl (k10 d3) (s_fa fa43_0 (et d5) rfl (dt (q10 p4)) ?_)
                          refine wy rfl (k10 d3) (s_load ti3 (et (k10 d4)) ((hS.blk d0).cell d0) (dt (q10 p5)) ?_)
                          refine wy rfl (k10 d3) (s_gtr (et (k10 d5)) ec (dt (q10 p6)) ?_)
                          refine wl (s_pickf (et (k10 d3)) (et (k10 d6)) (dt (q10 p7)) ?_)
                          refine wnil ?_
                          refine xl ?_
                          replace hS:=hS.drop Rm.z
                          exact ⟨_,_,rfl,(aK10 (aO7 (aI aZ))),_,(decide ((32:Int)<p_3.Op)),rfl,h,Le.r,hS⟩
                      · rintro _ t w10 ⟨μ6,b56,rfl,h,le58,hS⟩
                        unfold vf_instr_j5 at h
                        refine nrm (mK10 (mO7 (mi mz))) ?_
                        refine xn ?_
                        refine cifb (et (k10 d7)) (fun h59=>?_) (fun h59=>?_)
                        · replace h:=iT h59 h
                          refine cseq ?_
                          refine creg ?_
                          refine wl (s_assign ec (dt p6) ?_)
                          refine wnil ?_
                          refine xn ?_
                          refine cret ?_
                          refine (fun h=>br (xr (xr h))) ?_
                          obtain rfl:=oI h
                          refine ret1 rfl d6 ?_
                          exact ⟨_,rfl,(le22.t (le27.t (le40.t le58))),hS⟩
                        · replace h:=iF h59 h
                          refine cskip ?_
                          refine (fun h=>bn (xl h)) ?_
                          exact ⟨_,_,rfl,(aK6 (aO1 (aI (aK2 (aO50 (aO20 (aO10 (aO1 aZ)))))))),_,true,rfl,h,(le22.t (le27.t (le40.t le58))),hS⟩
  · rintro _ t w11 ⟨μ7,b17,rfl,h,le60,hS⟩
    unfold vf_instr_j1 at h
    refine nrm (mK6 (mO1 (mi (mK2 (mO50 (mO20 (mO10 (mO1 mz)))))))) ?_
    refine xn ?_
    refine cseq ?_
    refine cseq ?_
    refine creg ?_
    refine wl (s_move (et d7) (dt (q90 p1)) ?_)
    refine wl (s_not (et (k90 d1)) (dt (q90 p2)) ?_)
    refine wnil ?_
    refine xn ?_
    refine cifnb (et (k90 d2)) (fun h61=>?_) (fun h61=>?_)
    · replace h:=iF h61 h
      refine cseq ?_
      refine creg ?_
      refine wl (s_assign ec (dt p6) ?_)
      refine wnil ?_
      refine xn ?_
      refine cret ?_
      refine xr ?_
      obtain rfl:=oI h
      refine ret1 rfl d6 ?_
      exact ⟨_,rfl,le60,hS⟩
    · replace h:=iT h61 h
      refine cskip ?_
      refine xn ?_
      refine cseq ?_
      refine creg ?_
      refine wl (s_assign ec (dt p6) ?_)
      refine wnil ?_
      refine xn ?_
      refine cret ?_
      obtain rfl:=oI h
      refine ret1 rfl d6 ?_
      exact ⟨_,rfl,le60,hS⟩
theorem idxf_i_w {μ0:M} {w0 w:World} {rsF:List Res} (hg:Le Gm μ0) {p_1:List Int} {a1:Option Addr} {c2:Nat} {K4:Nat} {caps5:List Value} {p_2:Int→Option Bool} {r:Int} (m3:Sl μ0 a1 c2 p_1) (m6:FnOk Tryz.prog μ0 K4 caps5 false p_2) (h:idxf_i p_1 p_2=some r) (hS:Sq μ0 w0 w (rsF)):CallsV Tryz.prog 65 [.slice a1 p_1.length c2,.func (.func K4) ⟨[]⟩ ⟨caps5⟩] w (fun v w'=>∃ (μ':M) ,v=.int .i64 r∧Le μ0 μ'∧Sq μ' w0 w' (rsF)):=by
  unfold idxf_i at h
  refine enter Tryz.func65 rfl (frm:=[_,_,_,_,_,_,_,_,_,_,_,_,_,_,_,_,_,_,_]) rfl ?_
  refine cseq ?_
  refine creg ?_
  refine wl (s_assign ec (dt p4) ?_)
  refine wnil ?_
  refine xn ?_
  refine cseq ?_
  refine cseq ?_
  refine creg ?_
  refine wl (s_move (et d0) (dt p6) ?_)
  refine wl (s_lensl Tryz.underlying38 (et d6) (dt p7) ?_)
  refine wl (s_move ec (dt p8) ?_)
  refine wnil ?_
  refine xn ?_
  refine cblock ?_
  refine cloopE (rg 4 2++rg 9 10) (by decide) (fun n m w=>∃ (μx:M) (i20:Int),m=(yK4 (yO2 4 (yK2 (.i (.int .i64 i20)::(yO10 9 [])))))∧idxf_i_l1 p_1 p_2 n i20=some r∧Le μ0 μx∧Sq μx w0 w (rsF)) (by rintro _ _ _ ⟨_,_,rfl,_⟩; rfl) _ _ (aK4 (aO2 (aK2 (aI (aO10 aZ))))) ⟨_,0,rfl,h,Le.r,hS⟩ ?_
  rintro n_1 _ t w1 ⟨μ1,i20,rfl,h,le35,hS⟩
  cases n_1 with
  | zero=>cases h
  | succ n_1 =>
  unfold idxf_i_l1 at h
  refine cnrm (mK4 (mO2 (mK2 (mi (mO10 mz))))) ?_
  refine cseq ?_
  refine creg ?_
  refine wl (s_lss (et d8) (et d7) (dt p9) ?_)
  refine wnil ?_
  refine xn ?_
  refine cseq ?_
  refine cifd (et d9) (fun h36=>?_) (fun h36=>?_)
  · replace h:=iT h36 h
    refine cskip ?_
    refine xn ?_
    refine cseq ?_
    refine cblock ?_
    refine cseq ?_
    refine creg ?_
    refine wl (s_move (et d8) (dt (q10 p0)) ?_)
    refine wl (s_assign (et (k10 d0)) (dt p5) ?_)
    refine wnil ?_
    refine xn ?_
    refine cseq ?_
    refine creg ?_
    refine wl (s_move (et d1) (dt (q10 p1)) ?_)
    refine wl (s_move (et d0) (dt (q10 p2)) ?_)
    refine wl (s_move (et d5) (dt (q10 p3)) ?_)
    replace h:=bI h; obtain ⟨x37,g38,h⟩:=h
    obtain ⟨b39,o40,cs41,e42,f43,m44⟩:=SlR.elem (m3.up le35) g38
    obtain rfl:=m44
    refine wl (s_iax Tryz.underlying38 ti3 (et (k10 d2)) (et (k10 d3)) e42 (dt (q10 p4)) ?_)
    refine wl (s_load ti3 (et (k10 d4)) ((f43 _ hS.a).one d0) (dt (q10 p5)) ?_)
    replace h:=bI h; obtain ⟨b45,g46,h⟩:=h
    refine wl (s_callc m6.isfn (et (k10 d1)) (e1 (et (k10 d5)) e0) ((m6.up le35).call (cs:=[.int .i64 x37]) Le.r rfl g46 hS) ?_)
    rintro _ w2 ⟨μ2,rfl,le47,hS⟩; refine pu (dt (q10 p6)) ?_
    refine wnil ?_
    refine xn ?_
    refine cifb (et (k10 d6)) (fun h48=>?_) (fun h48=>?_)
    · replace h:=iT h48 h
      refine cseq ?_
      refine creg ?_
      refine wl (s_move (et d5) (dt (q10 p7)) ?_)
      refine wl (s_assign (et (k10 d7)) (dt p4) ?_)
      refine wnil ?_
      refine xn ?_
      refine cret ?_
      refine (fun h=>br (xr (xr (br (xr h))))) ?_
      obtain rfl:=oI h
      refine ret1 rfl d4 ?_
      exact ⟨_,rfl,(le35.t le47),hS⟩
    · replace h:=iF h48 h
      refine cskip ?_
      refine (fun h=>bn (xn h)) ?_
      refine creg ?_
      replace h:=bI h; obtain ⟨i49,g50,h⟩:=h
      refine wl (s_addc (et d8) ec g50 (dt (q10 p8)) ?_)
      refine wl (s_move (et (k10 d8)) (dt p8) ?_)
      refine wnil ?_
      refine xl ?_
      exact ⟨n_1,_,_,rfl,(aK4 (aO2 (aK2 (aI (aO10 aZ))))),⟨_,i49,rfl,h,(le35.t le47),hS⟩,Nat.lt_succ_self _⟩
  · replace h:=iF h36 h
    refine cexit ?_
    refine (fun h=>xe (xe (bh h))) ?_
    refine xn ?_
    refine cseq ?_
    refine creg ?_
    refine wl (s_assign ec (dt p4) ?_)
    refine wnil ?_
    refine xn ?_
    refine cret ?_
    obtain rfl:=oI h
    refine ret1 rfl d4 ?_
    exact ⟨_,rfl,le35,hS⟩
theorem conf_i_w {μ0:M} {w0 w:World} {rsF:List Res} (hg:Le Gm μ0) {p_1:List Int} {a1:Option Addr} {c2:Nat} {K4:Nat} {caps5:List Value} {p_2:Int→Option Bool} {r:Bool} (m3:Sl μ0 a1 c2 p_1) (m6:FnOk Tryz.prog μ0 K4 caps5 false p_2) (h:conf_i p_1 p_2=some r) (hS:Sq μ0 w0 w (rsF)):CallsV Tryz.prog 40 [.slice a1 p_1.length c2,.func (.func K4) ⟨[]⟩ ⟨caps5⟩] w (fun v w'=>∃ (μ':M) ,v=.bool r∧Le μ0 μ'∧Sq μ' w0 w' (rsF)):=by
  unfold conf_i at h
  refine enter Tryz.func40 rfl (frm:=[_,_,_,_,_,_,_,_,_]) rfl ?_
  refine cseq ?_
  refine creg ?_
  refine wl (s_assign ec (dt p4) ?_)
  refine wnil ?_
  refine xn ?_
  refine cseq ?_
  refine creg ?_
  refine wl (s_move (et d0) (dt p5) ?_)
  refine wl (s_move (et d1) (dt p6) ?_)
  replace h:=bI h; obtain ⟨r7,g8,h⟩:=h
  refine wl (s_callv isfn65 ef (e1 (et d5) (e1 (et d6) e0)) (idxf_i_w hg m3 m6 g8 hS) ?_)
  rintro _ w1 ⟨μ1,rfl,le9,hS⟩
  refine pu (dt p7) ?_
  refine wl (s_geq (et d7) ec (dt p8) ?_)
  refine wl (s_assign (et d8) (dt p4) ?_)
  refine wnil ?_
  refine xn ?_
  refine cret ?_
  obtain rfl:=oI h
  refine ret1 rfl d4 ?_
  exact ⟨_,rfl,le9,hS⟩
theorem idxf_n_w {μ0:M} {w0 w:World} {rsF:List Res} (hg:Le Gm μ0) {p_1:List TInstr} {a1:Option Addr} {c2:Nat} {K4:Nat} {caps5:List Value} {p_2:TInstr→Option Bool} {r:Int} (m3:Sl μ0 a1 c2 p_1) (m6:FnOk Tryz.prog μ0 K4 caps5 true p_2) (h:idxf_n p_1 p_2=some r) (hS:Sq μ0 w0 w (rsF)):CallsV Tryz.prog 67 [.slice a1 p_1.length c2,.func (.func K4) ⟨[]⟩ ⟨caps5⟩] w (fun v w'=>∃ (μ':M) ,v=.int .i64 r∧Le μ0 μ'∧Sq μ' w0 w' (rsF)):=by
  unfold idxf_n at h
  refine enter Tryz.func67 rfl (frm:=[_,_,_,_,_,_,_,_,_,_,_,_,_,_,_,_,_,_,_]) rfl ?_
  refine cseq ?_
  refine creg ?_
  refine wl (s_assign ec (dt p4) ?_)
  refine wnil ?_
  refine xn ?_
  refine cseq ?_
  refine cseq ?_
  refine creg ?_
  refine wl (s_move (et d0) (dt p6) ?_)
  refine wl (s_lensl Tryz.underlying39 (et d6) (dt p7) ?_)
  refine wl (s_move ec (dt p8) ?_)
  refine wnil ?_
  refine xn ?_
  refine cblock ?_
  refine cloopE (rg 4 2++rg 9 10) (by decide) (fun n m w=>∃ (μx:M) (i20:Int),m=(yK4 (yO2 4 (yK2 (.i (.int .i64 i20)::(yO10 9 [])))))∧idxf_n_l1 p_1 p_2 n i20=some r∧Le μ0 μx∧Sq μx w0 w (rsF)) (by rintro _ _ _ ⟨_,_,rfl,_⟩; rfl) _ _ (aK4 (aO2 (aK2 (aI (aO10 aZ))))) ⟨_,0,rfl,h,Le.r,hS⟩ ?_
  rintro n_1 _ t w1 ⟨μ1,i20,rfl,h,le35,hS⟩
  cases n_1 with
  | zero=>cases h
  | succ n_1 =>
  unfold idxf_n_l1 at h
  refine cnrm (mK4 (mO2 (mK2 (mi (mO10 mz))))) ?_
  refine cseq ?_
  refine creg ?_
  refine wl (s_lss (et d8) (et d7) (dt p9) ?_)
  refine wnil ?_
  refine xn ?_
  refine cseq ?_
  refine cifd (et d9) (fun h36=>?_) (fun h36=>?_)
  · replace h:=iT h36 h
    refine cskip ?_
    refine xn ?_
    refine cseq ?_
    refine cblock ?_
    refine cseq ?_
    refine creg ?_
    refine wl (s_move (et d8) (dt (q10 p0)) ?_)
    refine wl (s_assign (et (k10 d0)) (dt p5) ?_)
    refine wnil ?_
    refine xn ?_
    refine cseq ?_
    refine creg ?_
    refine wl (s_move (et d1) (dt (q10 p1)) ?_)
    refine wl (s_move (et d0) (dt (q10 p2)) ?_)
    refine wl (s_move (et d5) (dt (q10 p3)) ?_)
    replace h:=bI h; obtain ⟨x37,g38,h⟩:=h
    obtain ⟨b39,o40,cs41,e42,f43,m44⟩:=SlR.elem (m3.up le35) g38
    obtain rfl:=m44
    refine wl (s_iax Tryz.underlying39 ti43 (et (k10 d2)) (et (k10 d3)) e42 (dt (q10 p4)) ?_)
    refine wl (s_loads ti43 (et (k10 d4)) (f43 _ hS.a) rfl (dt (q10 p5)) ?_)
    replace h:=bI h; obtain ⟨b45,g46,h⟩:=h
    refine wl (s_callc m6.isfn (et (k10 d1)) (e1 (et (k10 d5)) e0) ((m6.up le35).call (cs:=[.int .i64 x37.Op,.int .i64 x37.A,.int .i64 x37.N]) Le.r rfl g46 hS) ?_)
    rintro _ w2 ⟨μ2,rfl,le47,hS⟩; refine pu (dt (q10 p6)) ?_
    refine wnil ?_
    refine xn ?_
    refine cifb (et (k10 d6)) (fun h48=>?_) (fun h48=>?_)
    · replace h:=iT h48 h
      refine cseq ?_
      refine creg ?_
      refine wl (s_move (et d5) (dt (q10 p7)) ?_)
      refine wl (s_assign (et (k10 d7)) (dt p4) ?_)
      refine wnil ?_
      refine xn ?_
      refine cret ?_
      refine (fun h=>br (xr (xr (br (xr h))))) ?_
      obtain rfl:=oI h
      refine ret1 rfl d4 ?_
      exact ⟨_,rfl,(le35.t le47),hS⟩
    · replace h:=iF h48 h
      refine cskip ?_
      refine (fun h=>bn (xn h)) ?_
      refine creg ?_
      replace h:=bI h; obtain ⟨i49,g50,h⟩:=h
      refine wl (s_addc (et d8) ec g50 (dt (q10 p8)) ?_)
      refine wl (s_move (et (k10 d8)) (dt p8) ?_)
      refine wnil ?_
      refine xl ?_
      exact ⟨n_1,_,_,rfl,(aK4 (aO2 (aK2 (aI (aO10 aZ))))),⟨_,i49,rfl,h,(le35.t le47),hS⟩,Nat.lt_succ_self _⟩
  · replace h:=iF h36 h
    refine cexit ?_
    refine (fun h=>xe (xe (bh h))) ?_
    refine xn ?_
    refine cseq ?_
    refine creg ?_
    refine wl (s_assign ec (dt p4) ?_)
    refine wnil ?_
    refine xn ?_
    refine cret ?_
    obtain rfl:=oI h
    refine ret1 rfl d4 ?_
    exact ⟨_,rfl,le35,hS⟩
theorem conf_n_w {μ0:M} {w0 w:World} {rsF:List Res} (hg:Le Gm μ0) {p_1:List TInstr} {a1:Option Addr} {c2:Nat} {K4:Nat} {caps5:List Value} {p_2:TInstr→Option Bool} {r:Bool} (m3:Sl μ0 a1 c2 p_1) (m6:FnOk Tryz.prog μ0 K4 caps5 true p_2) (h:conf_n p_1 p_2=some r) (hS:Sq μ0 w0 w (rsF)):CallsV Tryz.prog 43 [.slice a1 p_1.length c2,.func (.func K4) ⟨[]⟩ ⟨caps5⟩] w (fun v w'=>∃ (μ':M) ,v=.bool r∧Le μ0 μ'∧Sq μ' w0 w' (rsF)):=by
  unfold conf_n at h
  refine enter Tryz.func43 rfl (frm:=[_,_,_,_,_,_,_,_,_]) rfl ?_
  refine cseq ?_
  refine creg ?_
  refine wl (s_assign ec (dt p4) ?_)
  refine wnil ?_
  refine xn ?_
  refine cseq ?_
  refine creg ?_
  refine wl (s_move (et d0) (dt p5) ?_)
  refine wl (s_move (et d1) (dt p6) ?_)
  replace h:=bI h; obtain ⟨r7,g8,h⟩:=h
  refine wl (s_callv isfn67 ef (e1 (et d5) (e1 (et d6) e0)) (idxf_n_w hg m3 m6 g8 hS) ?_)
  rintro _ w1 ⟨μ1,rfl,le9,hS⟩
  refine pu (dt p7) ?_
  refine wl (s_geq (et d7) ec (dt p8) ?_)
  refine wl (s_assign (et d8) (dt p4) ?_)
  refine wnil ?_
  refine xn ?_
  refine cret ?_
  obtain rfl:=oI h
  refine ret1 rfl d4 ?_
  exact ⟨_,rfl,le9,hS⟩
theorem vf_head1_w {μ0:M} {w0 w:World} {rsF:List Res} (hg:Le Gm μ0) {p_1:Int} {p_2:Option TVc} {b1:Nat} {o2:Nat} {v4:Value} {r:Bool} (m5:Np μ0 v4 p_2) (m3:At μ0 b1 o2 [v4]) (h:vf_head1 p_1 p_2=some r) (hS:Sq μ0 w0 w (rsF)):CallsV Tryz.prog 54 [.int .i64 p_1,.pointer (some ⟨b1,o2,none⟩)] w (fun v w'=>∃ (μ':M) ,v=.bool r∧Le μ0 μ'∧Sq μ' w0 w' (rsF)):=by
  unfold vf_head1 at h
  refine enter Tryz.func54 rfl (frm:=[_,_,_,_,_,_,_,_,_,_,_,_,_]) rfl ?_
  refine cseq ?_
  refine creg ?_
  refine wl (s_assign ec (dt p3) ?_)
  refine wnil ?_
  refine xn ?_
  refine cseq ?_
  refine creg ?_
  refine wl (s_move (et d0) (dt p4) ?_)
  replace h:=bI h; obtain ⟨r6,g7,h⟩:=h
  refine wl (s_callv isfn34 ef (e1 (et d4) e0) (vf_plain_w hg g7 hS) ?_)
  rintro _ w1 ⟨μ1,rfl,le8,hS⟩
  refine pu (dt p5) ?_
  refine wl (s_not (et d5) (dt p6) ?_)
  refine wl (s_move (et d6) (dt p7) ?_)
  refine wspnb d7 p7 p7 (fun h9=>?_) (fun h9=>?_)
  · replace h:=iF h9 h
    refine wy rfl d7 (s_load ti73 (et d1) ((m3 _ (le8 _ hS.a)).one d0) (dt p8) ?_)
    refine wy rfl d7 (s_move (et d0) (dt p9) ?_)
    replace h:=bI h; obtain ⟨x10,g11,h⟩:=h
    obtain ⟨b12,o13,cs14,rfl,f15,m16⟩:=Np.get (m5.up le8) g11
    obtain ⟨v17,rfl,m18⟩:=m16
    replace h:=bI h; obtain ⟨r19,g20,h⟩:=h
    refine wy rfl d7 (s_callv isfn55 ef (e1 (et d8) (e1 (et d9) e0)) (vf_handle_w (hg.t le8) m18 f15 g20 hS) ?_)
    rintro _ w2 ⟨μ2,rfl,le21,hS⟩
    refine pu (dt (q10 p0)) ?_
    refine wy rfl d7 (s_not (et (k10 d0)) (dt (q10 p1)) ?_)
    refine wl (s_pickt (et d7) (et (k10 d1)) (dt (q10 p2)) ?_)
    refine wl (s_assign (et (k10 d2)) (dt p3) ?_)
    refine wnil ?_
    refine xn ?_
    refine cret ?_
    obtain rfl:=oI h
    refine ret1 rfl d3 ?_
    exact ⟨_,rfl,(le8.t le21),hS⟩
  · replace h:=iT h9 h
    refine wn rfl d7 rfl (dt p8) ?_
    refine wn rfl d7 rfl (dt p9) ?_
    refine wn rfl d7 rfl (dt (q10 p0)) ?_
    refine wn rfl d7 rfl (dt (q10 p1)) ?_
    refine wl (s_pickf (et d7) ec (dt (q10 p2)) ?_)
    refine wl (s_assign (et (k10 d2)) (dt p3) ?_)
    refine wnil ?_
    refine xn ?_
    refine cret ?_
    obtain rfl:=oI h
    refine ret1 rfl d3 ?_
    exact ⟨_,rfl,le8,hS⟩
theorem vf_head_w {μ0:M} {w0 w:World} {rsF:List Res} (hg:Le Gm μ0) {p_1:TVc} {b1:Nat} {o2:Nat} {v3:Value} {p_2:TUnit} {b6:Nat} {o7:Nat} {a8:Option Addr} {c9:Nat} {a11:Option Addr} {c12:Nat} {r:Int} (m4:Np μ0 v3 p_1.m) (m5:At μ0 b1 o2 [v3]) (m10:Sl μ0 a8 c9 p_2.Locals) (m13:Sl μ0 a11 c12 p_2.Code) (m14:At μ0 b6 o7 [.int .i64 p_2.Kind,.int .i64 p_2.Params,.slice a8 p_2.Locals.length c9,.int .i64 p_2.Result,.int .i64 p_2.Takes,.slice a11 p_2.Code.length c12]) (h:vf_head p_1 p_2=some r) (hS:Sq μ0 w0 w (rsF)):CallsV Tryz.prog 35 [.pointer (some ⟨b1,o2,none⟩),.pointer (some ⟨b6,o7,none⟩)] w (fun v w'=>∃ (μ':M) ,v=.int .i64 r∧Le μ0 μ'∧Sq μ' w0 w' (rsF)):=by
  unfold vf_head at h
  refine enter Tryz.func35 rfl (frm:=[_,_,_,_,_,_,_,_,_,_,_,_,_,_,_,_,_,_,_,_,_,_,_,_,_,_,_,_,_,_,_,_,_,_,_,_,_,_,_,_,_,_,_,_,_,_,_,_,_,_,_,_,_,_,_,_,_,_,_,_,_,_,_,_,_,_,_,_,_,_,_,_,_,_,_,_,_,_,_,_,_,_,_,_,_,_,_,_,_,_,_,_,_,_,_,_,_,_,_,_,_,_,_,_,_,_,_,_,_,_,_,_,_,_,_,_,_,_,_,_,_,_,_]) rfl ?_
  refine cseq ?_
  refine creg ?_
  refine wl (s_box (et d0) rfl hS ?_); clear hS; intro b15 w1 hb16 hS; refine pu (dt p2) ?_
  refine wl (s_assign ec (dt p4) ?_)
  refine wnil ?_
  refine xn ?_
  refine cseq ?_
  refine cblock ?_
  refine cseq ?_
  refine ccutE (rg 6 19) (by decide) (fun m w=>∃ (μx:M) (b17:Bool),m=(yK5 (.i (.bool b17)::(yO10 6 (yO9 16 []))))∧vf_head_j1 p_1 p_2 b17=some r∧Le μ0 μx∧Sq μx w0 w (.blk b15 73 [.pointer (some ⟨b1,o2,none⟩)]::rsF)) (by rintro _ _ ⟨_,_,rfl,_⟩; rfl) ?_ ?_
  · refine creg ?_
    refine wl (s_move (et d1) (dt p6) ?_)
    refine wl (s_nilck (et d6) (dt p7) ?_)
    refine wl (s_fa fa41_0 (et d7) rfl (dt p8) ?_)
    refine wl (s_load ti3 (et d8) ((m14 _ hS.a).one d0) (dt p9) ?_)
    refine wl (s_nei (et d9) ec (dt (q10 p0)) ?_)
    refine wl (s_move (et (k10 d0)) (dt (q10 p1)) ?_)
    refine wspd (k10 d1) (q10 p1) (q10 p1) (fun h18=>?_) (fun h18=>?_)
    · replace h:=iT h18 h
      refine wy rfl (k10 d1) (s_move (et d1) (dt (q10 p2)) ?_)
      refine wy rfl (k10 d1) (s_nilck (et (k10 d2)) (dt (q10 p3)) ?_)
      refine wy rfl (k10 d1) (s_fa fa41_0 (et (k10 d3)) rfl (dt (q10 p4)) ?_)
      refine wy rfl (k10 d1) (s_load ti3 (et (k10 d4)) ((m14 _ hS.a).one d0) (dt (q10 p5)) ?_)
      refine wy rfl (k10 d1) (s_nei (et (k10 d5)) ec (dt (q10 p6)) ?_)
      refine wl (s_pickt (et (k10 d1)) (et (k10 d6)) (dt (q10 p7)) ?_)
      refine wl (s_move (et (k10 d7)) (dt (q10 p8)) ?_)
      refine wspd (k10 d8) (q10 p8) (q10 p8) (fun h19=>?_) (fun h19=>?_)
      · replace h:=iT h19 h
        refine wy rfl (k10 d8) (s_move (et d1) (dt (q10 p9)) ?_)
        refine wy rfl (k10 d8) (s_nilck (et (k10 d9)) (dt (q20 p0)) ?_)
        refine wy rfl (k10 d8) (s_fa fa41_0 (et (k20 d0)) rfl (dt (q20 p1)) ?_)
        refine wy rfl (k10 d8) (s_load ti3 (et (k20 d1)) ((m14 _ hS.a).one d0) (dt (q20 p2)) ?_)
        refine wy rfl (k10 d8) (s_nei (et (k20 d2)) ec (dt (q20 p3)) ?_)
        refine wl (s_pickt (et (k10 d8)) (et (k20 d3)) (dt (q20 p4)) ?_)
        refine wl (s_assign (et (k20 d4)) (dt p5) ?_)
        refine wnil ?_
        refine xl ?_
        exact ⟨_,_,rfl,(aK5 (aI (aO10 (aO9 aZ)))),_,(decide (p_2.Kind≠4)),rfl,h,Le.r,hS⟩
      · replace h:=iF h19 h
        refine wn rfl (k10 d8) rfl (dt (q10 p9)) ?_
        refine wn rfl (k10 d8) rfl (dt (q20 p0)) ?_
        refine wn rfl (k10 d8) rfl (dt (q20 p1)) ?_
        refine wn rfl (k10 d8) rfl (dt (q20 p2)) ?_
        refine wn rfl (k10 d8) rfl (dt (q20 p3)) ?_
        refine wl (s_pickf (et (k10 d8)) ec (dt (q20 p4)) ?_)
        refine wl (s_assign (et (k20 d4)) (dt p5) ?_)
        refine wnil ?_
        refine xl ?_
        exact ⟨_,_,rfl,(aK5 (aI (aO10 (aO9 aZ)))),_,false,rfl,h,Le.r,hS⟩
    · replace h:=iF h18 h
      refine wn rfl (k10 d1) rfl (dt (q10 p2)) ?_
      refine wn rfl (k10 d1) rfl (dt (q10 p3)) ?_
      refine wn rfl (k10 d1) rfl (dt (q10 p4)) ?_
      refine wn rfl (k10 d1) rfl (dt (q10 p5)) ?_
      refine wn rfl (k10 d1) rfl (dt (q10 p6)) ?_
      refine wl (s_pickf (et (k10 d1)) ec (dt (q10 p7)) ?_)
      refine wl (s_move (et (k10 d7)) (dt (q10 p8)) ?_)
      refine wn rfl (k10 d8) rfl (dt (q10 p9)) ?_
      refine wn rfl (k10 d8) rfl (dt (q20 p0)) ?_
      refine wn rfl (k10 d8) rfl (dt (q20 p1)) ?_
      refine wn rfl (k10 d8) rfl (dt (q20 p2)) ?_
      refine wn rfl (k10 d8) rfl (dt (q20 p3)) ?_
      refine wl (s_pickf (et (k10 d8)) ec (dt (q20 p4)) ?_)
      refine wl (s_assign (et (k20 d4)) (dt p5) ?_)
      refine wnil ?_
      refine xl ?_
      exact ⟨_,_,rfl,(aK5 (aI (aO10 (aO9 aZ)))),_,false,rfl,h,Le.r,hS⟩
  · rintro _ t w2 ⟨μ1,b17,rfl,h,le20,hS⟩
    unfold vf_head_j1 at h
    refine nrm (mK5 (mi (mO10 (mO9 mz)))) ?_
    refine xn ?_
    refine cifb (et d5) (fun h21=>?_) (fun h21=>?_)
    · replace h:=iT h21 h
      refine cseq ?_
      refine creg ?_
      refine wl (s_assign ec (dt p4) ?_)
      refine wnil ?_
      refine xn ?_
      refine cret ?_
      refine (fun h=>br (xr h)) ?_
      obtain rfl:=oI h
      refine ret1 rfl d4 ?_
      replace hS:=hS.drop Rm.z
      exact ⟨_,rfl,le20,hS⟩
    · replace h:=iF h21 h
      refine cseq ?_
      refine ccutE (rg 26 46) (by decide +kernel) (fun m w=>∃ (μx:M) (b22:Bool),m=(yK20 (yK5 (.i (.bool b22)::(yO20 26 (yO20 46 (yO6 66 []))))))∧vf_head_j2 p_1 p_2 b22=some r∧Le μ1 μx∧Sq μx w0 w (.blk b15 73 [.pointer (some ⟨b1,o2,none⟩)]::rsF)) (by rintro _ _ ⟨_,_,rfl,_⟩; rfl) ?_ ?_
      · refine cdraw (by kernel_rfl) rfl fun w3 hh_ ho_ ht_ hu_=>?_
        replace hS:=hS.drew hh_ ho_ ht_ hu_
        refine sf_start ?_
        refine sf_pu (i:=0) (R':=[1,2,3,4,5,6,7,8,9,10,11,12,13,14,15,16,17,18,19,20,21,22,23,24,25,26,27,28,29,30,31,32,33,34,35,36,37,38,39,40,41,42,43,44,45,46]) [0,1,2,3,4,5,6,7,8,9,10,11,12,13,14,15,16,17,18,19,20,21,22,23,24,25,26,27,28,29,30,31,32,33,34,35,36,37,38,39,40,41,42,43,44,45,46] (blind_of fun _ _ _ h=>h.2) (by kernel_rfl) (by kernel_rfl) rfl (u_move (et d1)) (q20 p6) ?_
        refine sf_pu (i:=1) (R':=[2,3,4,5,6,7,8,9,10,11,12,13,14,15,16,17,18,19,20,21,22,23,24,25,26,27,28,29,30,31,32,33,34,35,36,37,38,39,40,41,42,43,44,45,46]) [1,2,3,4,5,6,7,8,9,10,11,12,13,14,15,16,17,18,19,20,21,22,23,24,25,26,27,28,29,30,31,32,33,34,35,36,37,38,39,40,41,42,43,44,45,46] (blind_of fun _ _ _ h=>h.2) (by kernel_rfl) (by kernel_rfl) rfl (u_nilck (et (k20 d6))) (q20 p7) ?_
        refine sf_pu (i:=2) (R':=[3,4,5,6,7,8,9,10,11,12,13,14,15,16,17,18,19,20,21,22,23,24,25,26,27,28,29,30,31,32,33,34,35,36,37,38,39,40,41,42,43,44,45,46]) [2,3,4,5,6,7,8,9,10,11,12,13,14,15,16,17,18,19,20,21,22,23,24,25,26,27,28,29,30,31,32,33,34,35,36,37,38,39,40,41,42,43,44,45,46] (blind_of fun _ _ _ h=>h.2) (by kernel_rfl) (by kernel_rfl) rfl (u_fa fa41_2 (et (k20 d7)) rfl) (q20 p8) ?_
        refine sf_rd (i:=3) (R':=[4,5,6,7,8,9,10,11,12,13,14,15,16,17,18,19,20,21,22,23,24,25,26,27,28,29,30,31,32,33,34,35,36,37,38,39,40,41,42,43,44,45,46]) [3,4,5,6,7,8,9,10,11,12,13,14,15,16,17,18,19,20,21,22,23,24,25,26,27,28,29,30,31,32,33,34,35,36,37,38,39,40,41,42,43,44,45,46] (blind_of fun _ _ _ h=>h.2) (by kernel_rfl) (by kernel_rfl) rfl (u_load ti38 (et (k20 d8)) ((m14 _ (le20 _ hS.a)).one d2)) (q20 p9) ?_
        refine sf_pu (i:=4) (R':=[5,6,7,8,9,10,11,12,13,14,15,16,17,18,19,20,21,22,23,24,25,26,27,28,29,30,31,32,33,34,35,36,37,38,39,40,41,42,43,44,45,46]) [4,5,6,7,8,9,10,11,12,13,14,15,16,17,18,19,20,21,22,23,24,25,26,27,28,29,30,31,32,33,34,35,36,37,38,39,40,41,42,43,44,45,46] (blind_of fun _ _ _ h=>h.2) (by kernel_rfl) (by kernel_rfl) rfl (u_lensl Tryz.underlying38 (et (k20 d9))) (q30 p0) ?_
        refine sf_pu (i:=5) (R':=[6,7,8,9,10,11,12,13,14,15,16,17,18,19,20,21,22,23,24,25,26,27,28,29,30,31,32,33,34,35,36,37,38,39,40,41,42,43,44,45,46]) [5,6,7,8,9,10,11,12,13,14,15,16,17,18,19,20,21,22,23,24,25,26,27,28,29,30,31,32,33,34,35,36,37,38,39,40,41,42,43,44,45,46] (blind_of fun _ _ _ h=>h.2) (by kernel_rfl) (by kernel_rfl) rfl (u_gtr (et (k30 d0)) ec) (q30 p1) ?_
        refine sf_pu (i:=6) (R':=[7,8,9,10,11,12,13,14,15,16,17,18,19,20,21,22,23,24,25,26,27,28,29,30,31,32,33,34,35,36,37,38,39,40,41,42,43,44,45,46]) [6,7,8,9,10,11,12,13,14,15,16,17,18,19,20,21,22,23,24,25,26,27,28,29,30,31,32,33,34,35,36,37,38,39,40,41,42,43,44,45,46] (blind_of fun _ _ _ h=>h.2) (by kernel_rfl) (by kernel_rfl) rfl (u_move (et (k30 d1))) (q30 p2) ?_
        refine sfsd (k30 d2) (q30 p2) (q30 p2) (fun h23=>?_) (fun h23=>?_)
        · replace h:=iT h23 h
          refine sf_puN (i:=7) (R':=[8,9,10,11,12,13,14,15,16,17,18,19,20,21,22,23,24,25,26,27,28,29,30,31,32,33,34,35,36,37,38,39,40,41,42,43,44,45,46]) [7,8,9,10,11,12,13,14,15,16,17,18,19,20,21,22,23,24,25,26,27,28,29,30,31,32,33,34,35,36,37,38,39,40,41,42,43,44,45,46] (blind_of fun _ _ _ h=>h.2) (by kernel_rfl) (by kernel_rfl) rfl rfl (k30 d2) rfl (q30 p3) ?_
          refine sf_puN (i:=8) (R':=[9,10,11,12,13,14,15,16,17,18,19,20,21,22,23,24,25,26,27,28,29,30,31,32,33,34,35,36,37,38,39,40,41,42,43,44,45,46]) [8,9,10,11,12,13,14,15,16,17,18,19,20,21,22,23,24,25,26,27,28,29,30,31,32,33,34,35,36,37,38,39,40,41,42,43,44,45,46] (blind_of fun _ _ _ h=>h.2) (by kernel_rfl) (by kernel_rfl) rfl rfl (k30 d2) rfl (q30 p4) ?_
          refine sf_puN (i:=9) (R':=[10,11,12,13,14,15,16,17,18,19,20,21,22,23,24,25,26,27,28,29,30,31,32,33,34,35,36,37,38,39,40,41,42,43,44,45,46]) [9,10,11,12,13,14,15,16,17,18,19,20,21,22,23,24,25,26,27,28,29,30,31,32,33,34,35,36,37,38,39,40,41,42,43,44,45,46] (blind_of fun _ _ _ h=>h.2) (by kernel_rfl) (by kernel_rfl) rfl rfl (k30 d2) rfl (q30 p5) ?_
          refine sf_puN (i:=10) (R':=[11,12,13,14,15,16,17,18,19,20,21,22,23,24,25,26,27,28,29,30,31,32,33,34,35,36,37,38,39,40,41,42,43,44,45,46]) [10,11,12,13,14,15,16,17,18,19,20,21,22,23,24,25,26,27,28,29,30,31,32,33,34,35,36,37,38,39,40,41,42,43,44,45,46] (blind_of fun _ _ _ h=>h.2) (by kernel_rfl) (by kernel_rfl) rfl rfl (k30 d2) rfl (q30 p6) ?_
          refine sf_puN (i:=11) (R':=[12,13,14,15,16,17,18,19,20,21,22,23,24,25,26,27,28,29,30,31,32,33,34,35,36,37,38,39,40,41,42,43,44,45,46]) [11,12,13,14,15,16,17,18,19,20,21,22,23,24,25,26,27,28,29,30,31,32,33,34,35,36,37,38,39,40,41,42,43,44,45,46] (blind_of fun _ _ _ h=>h.2) (by kernel_rfl) (by kernel_rfl) rfl rfl (k30 d2) rfl (q30 p7) ?_
          refine sf_pu (i:=12) (R':=[13,14,15,16,17,18,19,20,21,22,23,24,25,26,27,28,29,30,31,32,33,34,35,36,37,38,39,40,41,42,43,44,45,46]) [12,13,14,15,16,17,18,19,20,21,22,23,24,25,26,27,28,29,30,31,32,33,34,35,36,37,38,39,40,41,42,43,44,45,46] (blind_of fun _ _ _ h=>h.2) (by kernel_rfl) (by kernel_rfl) rfl (u_pickt (et (k30 d2)) ec) (q30 p8) ?_
          refine sf_pu (i:=13) (R':=[14,15,16,17,18,19,20,21,22,23,24,25,26,27,28,29,30,31,32,33,34,35,36,37,38,39,40,41,42,43,44,45,46]) [13,14,15,16,17,18,19,20,21,22,23,24,25,26,27,28,29,30,31,32,33,34,35,36,37,38,39,40,41,42,43,44,45,46] (blind_of fun _ _ _ h=>h.2) (by kernel_rfl) (by kernel_rfl) rfl (u_move (et (k30 d8))) (q30 p9) ?_
          refine sf_puN (i:=14) (R':=[15,16,17,18,19,20,21,22,23,24,25,26,27,28,29,30,31,32,33,34,35,36,37,38,39,40,41,42,43,44,45,46]) [14,15,16,17,18,19,20,21,22,23,24,25,26,27,28,29,30,31,32,33,34,35,36,37,38,39,40,41,42,43,44,45,46] (blind_of fun _ _ _ h=>h.2) (by kernel_rfl) (by kernel_rfl) rfl rfl (k30 d9) rfl (q40 p0) ?_
          refine sf_puN (i:=15) (R':=[16,17,18,19,20,21,22,23,24,25,26,27,28,29,30,31,32,33,34,35,36,37,38,39,40,41,42,43,44,45,46]) [15,16,17,18,19,20,21,22,23,24,25,26,27,28,29,30,31,32,33,34,35,36,37,38,39,40,41,42,43,44,45,46] (blind_of fun _ _ _ h=>h.2) (by kernel_rfl) (by kernel_rfl) rfl rfl (k30 d9) rfl (q40 p1) ?_
          refine sf_puN (i:=16) (R':=[17,18,19,20,21,22,23,24,25,26,27,28,29,30,31,32,33,34,35,36,37,38,39,40,41,42,43,44,45,46]) [16,17,18,19,20,21,22,23,24,25,26,27,28,29,30,31,32,33,34,35,36,37,38,39,40,41,42,43,44,45,46] (blind_of fun _ _ _ h=>h.2) (by kernel_rfl) (by kernel_rfl) rfl rfl (k30 d9) rfl (q40 p2) ?_
          refine sf_puN (i:=17) (R':=[18,19,20,21,22,23,24,25,26,27,28,29,30,31,32,33,34,35,36,37,38,39,40,41,42,43,44,45,46]) [17,18,19,20,21,22,23,24,25,26,27,28,29,30,31,32,33,34,35,36,37,38,39,40,41,42,43,44,45,46] (blind_of fun _ _ _ h=>h.2) (by kernel_rfl) (by kernel_rfl) rfl rfl (k30 d9) rfl (q40 p3) ?_
          refine sf_puN (i:=18) (R':=[19,20,21,22,23,24,25,26,27,28,29,30,31,32,33,34,35,36,37,38,39,40,41,42,43,44,45,46]) [18,19,20,21,22,23,24,25,26,27,28,29,30,31,32,33,34,35,36,37,38,39,40,41,42,43,44,45,46] (blind_of fun _ _ _ h=>h.2) (by kernel_rfl) (by kernel_rfl) rfl rfl (k30 d9) rfl (q40 p4) ?_
          refine sf_pu (i:=19) (R':=[20,21,22,23,24,25,26,27,28,29,30,31,32,33,34,35,36,37,38,39,40,41,42,43,44,45,46]) [19,20,21,22,23,24,25,26,27,28,29,30,31,32,33,34,35,36,37,38,39,40,41,42,43,44,45,46] (blind_of fun _ _ _ h=>h.2) (by kernel_rfl) (by kernel_rfl) rfl (u_pickt (et (k30 d9)) ec) (q40 p5) ?_
          refine sf_pu (i:=20) (R':=[21,22,23,24,25,26,27,28,29,30,31,32,33,34,35,36,37,38,39,40,41,42,43,44,45,46]) [20,21,22,23,24,25,26,27,28,29,30,31,32,33,34,35,36,37,38,39,40,41,42,43,44,45,46] (blind_of fun _ _ _ h=>h.2) (by kernel_rfl) (by kernel_rfl) rfl (u_move (et (k40 d5))) (q40 p6) ?_
          refine sf_puN (i:=21) (R':=[22,23,24,25,26,27,28,29,30,31,32,33,34,35,36,37,38,39,40,41,42,43,44,45,46]) [21,22,23,24,30,31,32,33,34,35,36,37,38,39,40,41,42,43,44,45,46] (blind_of fun _ _ _ h=>h.2) (by kernel_rfl) (by kernel_rfl) rfl rfl (k40 d6) rfl (q40 p7) ?_
          refine sf_puN (i:=22) (R':=[23,24,25,26,27,28,29,30,31,32,33,34,35,36,37,38,39,40,41,42,43,44,45,46]) [22,23,24,30,31,32,33,34,35,36,37,38,39,40,41,42,43,44,45,46] (blind_of fun _ _ _ h=>h.2) (by kernel_rfl) (by kernel_rfl) rfl rfl (k40 d6) rfl (q40 p8) ?_
          refine sf_puN (i:=23) (R':=[24,25,26,27,28,29,30,31,32,33,34,35,36,37,38,39,40,41,42,43,44,45,46]) [23,24,30,31,32,33,34,35,36,37,38,39,40,41,42,43,44,45,46] (blind_of fun _ _ _ h=>h.2) (by kernel_rfl) (by kernel_rfl) rfl rfl (k40 d6) rfl (q40 p9) ?_
          refine sf_puN (i:=24) (R':=[25,26,27,28,29,30,31,32,33,34,35,36,37,38,39,40,41,42,43,44,45,46]) [24,30,31,32,33,34,35,36,37,38,39,40,41,42,43,44,45,46] (blind_of fun _ _ _ h=>h.2) (by kernel_rfl) (by kernel_rfl) rfl rfl (k40 d6) rfl (q50 p0) ?_
          refine sf_puN (i:=25) (R':=[26,27,28,29,30,31,32,33,34,35,36,37,38,39,40,41,42,43,44,45,46]) [25,26,27,28,29,30,31,32,33,34,35,36,37,38,39,40,41,42,43,44,45,46] (blind_of fun _ _ _ h=>h.2) (by kernel_rfl) (by kernel_rfl) rfl rfl (k40 d6) rfl (q50 p1) ?_
          refine sf_puN (i:=26) (R':=[27,28,29,30,31,32,33,34,35,36,37,38,39,40,41,42,43,44,45,46]) [26,27,28,29,30,31,32,33,34,35,36,37,38,39,40,41,42,43,44,45,46] (blind_of fun _ _ _ h=>h.2) (by kernel_rfl) (by kernel_rfl) rfl rfl (k40 d6) rfl (q50 p2) ?_
          refine sf_puN (i:=27) (R':=[28,29,30,31,32,33,34,35,36,37,38,39,40,41,42,43,44,45,46]) [27,28,29,30,31,32,33,34,35,36,37,38,39,40,41,42,43,44,45,46] (blind_of fun _ _ _ h=>h.2) (by kernel_rfl) (by kernel_rfl) rfl rfl (k40 d6) rfl (q50 p3) ?_
          refine sf_puN (i:=28) (R':=[29,30,31,32,33,34,35,36,37,38,39,40,41,42,43,44,45,46]) [28,29,30,31,32,33,34,35,36,37,38,39,40,41,42,43,44,45,46] (blind_of fun _ _ _ h=>h.2) (by kernel_rfl) (by kernel_rfl) rfl rfl (k40 d6) rfl (q50 p4) ?_
          refine sf_puN (i:=29) (R':=[30,31,32,33,34,35,36,37,38,39,40,41,42,43,44,45,46]) [29,30,31,32,33,34,35,36,37,38,39,40,41,42,43,44,45,46] (blind_of fun _ _ _ h=>h.2) (by kernel_rfl) (by kernel_rfl) rfl rfl (k40 d6) rfl (q50 p5) ?_
          refine sf_puN (i:=30) (R':=[31,32,33,34,35,36,37,38,39,40,41,42,43,44,45,46]) [30,31,32,33,34,35,36,37,38,39,40,41,42,43,44,45,46] (blind_of fun _ _ _ h=>h.2) (by kernel_rfl) (by kernel_rfl) rfl rfl (k40 d6) rfl (q50 p6) ?_
          refine sf_pu (i:=31) (R':=[32,33,34,35,36,37,38,39,40,41,42,43,44,45,46]) [31,32,33,34,35,36,37,38,39,40,41,42,43,44,45,46] (blind_of fun _ _ _ h=>h.2) (by kernel_rfl) (by kernel_rfl) rfl (u_pickt (et (k40 d6)) ec) (q50 p7) ?_
          refine sf_pu (i:=32) (R':=[33,34,35,36,37,38,39,40,41,42,43,44,45,46]) [32,33,34,35,36,37,38,39,40,41,42,43,44,45,46] (blind_of fun _ _ _ h=>h.2) (by kernel_rfl) (by kernel_rfl) rfl (u_move (et (k50 d7))) (q50 p8) ?_
          refine sf_puN (i:=33) (R':=[34,35,36,37,38,39,40,41,42,43,44,45,46]) [33,34,35,36,37,38,39,40,41,42,43,44,45,46] (blind_of fun _ _ _ h=>h.2) (by kernel_rfl) (by kernel_rfl) rfl rfl (k50 d8) rfl (q50 p9) ?_
          refine sf_puN (i:=34) (R':=[35,36,37,38,39,40,41,42,43,44,45,46]) [34,35,36,37,38,39,40,41,42,43,44,45,46] (blind_of fun _ _ _ h=>h.2) (by kernel_rfl) (by kernel_rfl) rfl rfl (k50 d8) rfl (q60 p0) ?_
          refine sf_puN (i:=35) [35,36,37,38,39,40,41,42,43,44,45,46] (blind_of fun _ _ _ h=>h.2) rfl rfl rfl rfl (k50 d8) rfl (q60 p1) ?_
          refine sf_puN (i:=36) [36,37,38,39,40,41,42,43,44,45,46] (blind_of fun _ _ _ h=>h.2) rfl rfl rfl rfl (k50 d8) rfl (q60 p2) ?_
          refine sf_puN (i:=37) [37,38,39,40,41,42,43,44,45,46] (blind_of fun _ _ _ h=>h.2) rfl rfl rfl rfl (k50 d8) rfl (q60 p3) ?_
          refine sf_puN (i:=38) [38,39,40,41,42,43,44,45,46] (blind_of fun _ _ _ h=>h.2) rfl rfl rfl rfl (k50 d8) rfl (q60 p4) ?_
          refine sf_puU (i:=39) [39,40,41,42,43,44,45,46] (blind_of fun _ _ _ h=>h.2) rfl rfl rfl rfl (k60 d4) (q60 p5) ?_
          refine sf_puU (i:=40) [40,41,42,43,44,45,46] (blind_of fun _ _ _ h=>h.2) rfl rfl rfl rfl (k60 d4) (q60 p6) ?_
          refine sf_puU (i:=41) [41,42,43,44,45,46] (blind_of fun _ _ _ h=>h.2) rfl rfl rfl rfl (k60 d4) (q60 p7) ?_
          refine sf_puU (i:=42) [42,43,44,45,46] (blind_of fun _ _ _ h=>h.2) rfl rfl rfl rfl (k60 d4) (q60 p8) ?_
          refine sf_puU (i:=43) [43,44,45,46] (blind_of fun _ _ _ h=>h.2) rfl rfl rfl rfl (k60 d4) (q60 p9) ?_
          refine sf_puN (i:=44) [44,45,46] (blind_of fun _ _ _ h=>h.2) rfl rfl rfl rfl (k50 d8) rfl (q70 p0) ?_
          refine sf_pu (i:=45) [45,46] (blind_of fun _ _ _ h=>h.2) rfl rfl rfl (u_pickt (et (k50 d8)) ec) (q70 p1) ?_
          refine sf_pu (i:=46) [46] (blind_of fun _ _ _ h=>h.2) rfl rfl rfl (u_assign (et (k70 d1))) (q20 p5) ?_
          refine sf_nil ?_
          refine xl ?_
          exact ⟨_,_,rfl,(aK20 (aK5 (aI (aO20 (aO20 (aO6 aZ)))))),_,true,rfl,h,Le.r,hS⟩
        · replace h:=iF h23 h
          refine sf_puY (i:=7) (R':=[8,9,10,11,12,13,14,15,16,17,18,19,20,21,22,23,24,25,26,27,28,29,30,31,32,33,34,35,36,37,38,39,40,41,42,43,44,45,46]) [7,8,9,10,11,12,13,14,15,16,17,18,19,20,21,22,23,24,25,26,27,28,29,30,31,32,33,34,35,36,37,38,39,40,41,42,43,44,45,46] (blind_of fun _ _ _ h=>h.2) (by kernel_rfl) (by kernel_rfl) rfl rfl (k30 d2) (u_move (et d1)) (q30 p3) ?_
          refine sf_puY (i:=8) (R':=[9,10,11,12,13,14,15,16,17,18,19,20,21,22,23,24,25,26,27,28,29,30,31,32,33,34,35,36,37,38,39,40,41,42,43,44,45,46]) [8,9,10,11,12,13,14,15,16,17,18,19,20,21,22,23,24,25,26,27,28,29,30,31,32,33,34,35,36,37,38,39,40,41,42,43,44,45,46] (blind_of fun _ _ _ h=>h.2) (by kernel_rfl) (by kernel_rfl) rfl rfl (k30 d2) (u_nilck (et (k30 d3))) (q30 p4) ?_
          refine sf_puY (i:=9) (R':=[10,11,12,13,14,15,16,17,18,19,20,21,22,23,24,25,26,27,28,29,30,31,32,33,34,35,36,37,38,39,40,41,42,43,44,45,46]) [9,10,11,12,13,14,15,16,17,18,19,20,21,22,23,24,25,26,27,28,29,30,31,32,33,34,35,36,37,38,39,40,41,42,43,44,45,46] (blind_of fun _ _ _ h=>h.2) (by kernel_rfl) (by kernel_rfl) rfl rfl (k30 d2) (u_fa fa41_1 (et (k30 d4)) rfl) (q30 p5) ?_
          refine sf_rdY (i:=10) (R':=[11,12,13,14,15,16,17,18,19,20,21,22,23,24,25,26,27,28,29,30,31,32,33,34,35,36,37,38,39,40,41,42,43,44,45,46]) [10,11,12,13,14,15,16,17,18,19,20,21,22,23,24,25,26,27,28,29,30,31,32,33,34,35,36,37,38,39,40,41,42,43,44,45,46] (blind_of fun _ _ _ h=>h.2) (by kernel_rfl) (by kernel_rfl) rfl rfl (k30 d2) (u_load ti3 (et (k30 d5)) ((m14 _ (le20 _ hS.a)).one d1)) (q30 p6) ?_
          refine sf_puY (i:=11) (R':=[12,13,14,15,16,17,18,19,20,21,22,23,24,25,26,27,28,29,30,31,32,33,34,35,36,37,38,39,40,41,42,43,44,45,46]) [11,12,13,14,15,16,17,18,19,20,21,22,23,24,25,26,27,28,29,30,31,32,33,34,35,36,37,38,39,40,41,42,43,44,45,46] (blind_of fun _ _ _ h=>h.2) (by kernel_rfl) (by kernel_rfl) rfl rfl (k30 d2) (u_lss (et (k30 d6)) ec) (q30 p7) ?_
          refine sf_pu (i:=12) (R':=[13,14,15,16,17,18,19,20,21,22,23,24,25,26,27,28,29,30,31,32,33,34,35,36,37,38,39,40,41,42,43,44,45,46]) [12,13,14,15,16,17,18,19,20,21,22,23,24,25,26,27,28,29,30,31,32,33,34,35,36,37,38,39,40,41,42,43,44,45,46] (blind_of fun _ _ _ h=>h.2) (by kernel_rfl) (by kernel_rfl) rfl (u_pickf (et (k30 d2)) (et (k30 d7))) (q30 p8) ?_
          refine sf_pu (i:=13) (R':=[14,15,16,17,18,19,20,21,22,23,24,25,26,27,28,29,30,31,32,33,34,35,36,37,38,39,40,41,42,43,44,45,46]) [13,14,15,16,17,18,19,20,21,22,23,24,25,26,27,28,29,30,31,32,33,34,35,36,37,38,39,40,41,42,43,44,45,46] (blind_of fun _ _ _ h=>h.2) (by kernel_rfl) (by kernel_rfl) rfl (u_move (et (k30 d8))) (q30 p9) ?_
          refine sfsd (k30 d9) (q30 p9) (q30 p9) (fun h24=>?_) (fun h24=>?_)
          · replace h:=iT h24 h
            refine sf_puN (i:=14) (R':=[15,16,17,18,19,20,21,22,23,24,25,26,27,28,29,30,31,32,33,34,35,36,37,38,39,40,41,42,43,44,45,46]) [14,15,16,17,18,19,20,21,22,23,24,25,26,27,28,29,30,31,32,33,34,35,36,37,38,39,40,41,42,43,44,45,46] (blind_of fun _ _ _ h=>h.2) (by kernel_rfl) (by kernel_rfl) rfl rfl (k30 d9) rfl (q40 p0) ?_
            refine sf_puN (i:=15) (R':=[16,17,18,19,20,21,22,23,24,25,26,27,28,29,30,31,32,33,34,35,36,37,38,39,40,41,42,43,44,45,46]) [15,16,17,18,19,20,21,22,23,24,25,26,27,28,29,30,31,32,33,34,35,36,37,38,39,40,41,42,43,44,45,46] (blind_of fun _ _ _ h=>h.2) (by kernel_rfl) (by kernel_rfl) rfl rfl (k30 d9) rfl (q40 p1) ?_
            refine sf_puN (i:=16) (R':=[17,18,19,20,21,22,23,24,25,26,27,28,29,30,31,32,33,34,35,36,37,38,39,40,41,42,43,44,45,46]) [16,17,18,19,20,21,22,23,24,25,26,27,28,29,30,31,32,33,34,35,36,37,38,39,40,41,42,43,44,45,46] (blind_of fun _ _ _ h=>h.2) (by kernel_rfl) (by kernel_rfl) rfl rfl (k30 d9) rfl (q40 p2) ?_
            refine sf_puN (i:=17) (R':=[18,19,20,21,22,23,24,25,26,27,28,29,30,31,32,33,34,35,36,37,38,39,40,41,42,43,44,45,46]) [17,18,19,20,21,22,23,24,25,26,27,28,29,30,31,32,33,34,35,36,37,38,39,40,41,42,43,44,45,46] (blind_of fun _ _ _ h=>h.2) (by kernel_rfl) (by kernel_rfl) rfl rfl (k30 d9) rfl (q40 p3) ?_
            refine sf_puN (i:=18) (R':=[19,20,21,22,23,24,25,26,27,28,29,30,31,32,33,34,35,36,37,38,39,40,41,42,43,44,45,46]) [18,19,20,21,22,23,24,25,26,27,28,29,30,31,32,33,34,35,36,37,38,39,40,41,42,43,44,45,46] (blind_of fun _ _ _ h=>h.2) (by kernel_rfl) (by kernel_rfl) rfl rfl (k30 d9) rfl (q40 p4) ?_
            refine sf_pu (i:=19) (R':=[20,21,22,23,24,25,26,27,28,29,30,31,32,33,34,35,36,37,38,39,40,41,42,43,44,45,46]) [19,20,21,22,23,24,25,26,27,28,29,30,31,32,33,34,35,36,37,38,39,40,41,42,43,44,45,46] (blind_of fun _ _ _ h=>h.2) (by kernel_rfl) (by kernel_rfl) rfl (u_pickt (et (k30 d9)) ec) (q40 p5) ?_
            refine sf_pu (i:=20) (R':=[21,22,23,24,25,26,27,28,29,30,31,32,33,34,35,36,37,38,39,40,41,42,43,44,45,46]) [20,21,22,23,24,25,26,27,28,29,30,31,32,33,34,35,36,37,38,39,40,41,42,43,44,45,46] (blind_of fun _ _ _ h=>h.2) (by kernel_rfl) (by kernel_rfl) rfl (u_move (et (k40 d5))) (q40 p6) ?_
            refine sf_puN (i:=21) (R':=[22,23,24,25,26,27,28,29,30,31,32,33,34,35,36,37,38,39,40,41,42,43,44,45,46]) [21,22,23,24,30,31,32,33,34,35,36,37,38,39,40,41,42,43,44,45,46] (blind_of fun _ _ _ h=>h.2) (by kernel_rfl) (by kernel_rfl) rfl rfl (k40 d6) rfl (q40 p7) ?_
            refine sf_puN (i:=22) (R':=[23,24,25,26,27,28,29,30,31,32,33,34,35,36,37,38,39,40,41,42,43,44,45,46]) [22,23,24,30,31,32,33,34,35,36,37,38,39,40,41,42,43,44,45,46] (blind_of fun _ _ _ h=>h.2) (by kernel_rfl) (by kernel_rfl) rfl rfl (k40 d6) rfl (q40 p8) ?_
            refine sf_puN (i:=23) (R':=[24,25,26,27,28,29,30,31,32,33,34,35,36,37,38,39,40,41,42,43,44,45,46]) [23,24,30,31,32,33,34,35,36,37,38,39,40,41,42,43,44,45,46] (blind_of fun _ _ _ h=>h.2) (by kernel_rfl) (by kernel_rfl) rfl rfl (k40 d6) rfl (q40 p9) ?_
            refine sf_puN (i:=24) (R':=[25,26,27,28,29,30,31,32,33,34,35,36,37,38,39,40,41,42,43,44,45,46]) [24,30,31,32,33,34,35,36,37,38,39,40,41,42,43,44,45,46] (blind_of fun _ _ _ h=>h.2) (by kernel_rfl) (by kernel_rfl) rfl rfl (k40 d6) rfl (q50 p0) ?_
            refine sf_puN (i:=25) (R':=[26,27,28,29,30,31,32,33,34,35,36,37,38,39,40,41,42,43,44,45,46]) [25,26,27,28,29,30,31,32,33,34,35,36,37,38,39,40,41,42,43,44,45,46] (blind_of fun _ _ _ h=>h.2) (by kernel_rfl) (by kernel_rfl) rfl rfl (k40 d6) rfl (q50 p1) ?_
            refine sf_puN (i:=26) (R':=[27,28,29,30,31,32,33,34,35,36,37,38,39,40,41,42,43,44,45,46]) [26,27,28,29,30,31,32,33,34,35,36,37,38,39,40,41,42,43,44,45,46] (blind_of fun _ _ _ h=>h.2) (by kernel_rfl) (by kernel_rfl) rfl rfl (k40 d6) rfl (q50 p2) ?_
            refine sf_puN (i:=27) (R':=[28,29,30,31,32,33,34,35,36,37,38,39,40,41,42,43,44,45,46]) [27,28,29,30,31,32,33,34,35,36,37,38,39,40,41,42,43,44,45,46] (blind_of fun _ _ _ h=>h.2) (by kernel_rfl) (by kernel_rfl) rfl rfl (k40 d6) rfl (q50 p3) ?_
            refine sf_puN (i:=28) (R':=[29,30,31,32,33,34,35,36,37,38,39,40,41,42,43,44,45,46]) [28,29,30,31,32,33,34,35,36,37,38,39,40,41,42,43,44,45,46] (blind_of fun _ _ _ h=>h.2) (by kernel_rfl) (by kernel_rfl) rfl rfl (k40 d6) rfl (q50 p4) ?_
            refine sf_puN (i:=29) (R':=[30,31,32,33,34,35,36,37,38,39,40,41,42,43,44,45,46]) [29,30,31,32,33,34,35,36,37,38,39,40,41,42,43,44,45,46] (blind_of fun _ _ _ h=>h.2) (by kernel_rfl) (by kernel_rfl) rfl rfl (k40 d6) rfl (q50 p5) ?_
            refine sf_puN (i:=30) (R':=[31,32,33,34,35,36,37,38,39,40,41,42,43,44,45,46]) [30,31,32,33,34,35,36,37,38,39,40,41,42,43,44,45,46] (blind_of fun _ _ _ h=>h.2) (by kernel_rfl) (by kernel_rfl) rfl rfl (k40 d6) rfl (q50 p6) ?_
            refine sf_pu (i:=31) (R':=[32,33,34,35,36,37,38,39,40,41,42,43,44,45,46]) [31,32,33,34,35,36,37,38,39,40,41,42,43,44,45,46] (blind_of fun _ _ _ h=>h.2) (by kernel_rfl) (by kernel_rfl) rfl (u_pickt (et (k40 d6)) ec) (q50 p7) ?_
            refine sf_pu (i:=32) (R':=[33,34,35,36,37,38,39,40,41,42,43,44,45,46]) [32,33,34,35,36,37,38,39,40,41,42,43,44,45,46] (blind_of fun _ _ _ h=>h.2) (by kernel_rfl) (by kernel_rfl) rfl (u_move (et (k50 d7))) (q50 p8) ?_
            refine sf_puN (i:=33) (R':=[34,35,36,37,38,39,40,41,42,43,44,45,46]) [33,34,35,36,37,38,39,40,41,42,43,44,45,46] (blind_of fun _ _ _ h=>h.2) (by kernel_rfl) (by kernel_rfl) rfl rfl (k50 d8) rfl (q50 p9) ?_
            refine sf_puN (i:=34) (R':=[35,36,37,38,39,40,41,42,43,44,45,46]) [34,35,36,37,38,39,40,41,42,43,44,45,46] (blind_of fun _ _ _ h=>h.2) (by kernel_rfl) (by kernel_rfl) rfl rfl (k50 d8) rfl (q60 p0) ?_
            refine sf_puN (i:=35) [35,36,37,38,39,40,41,42,43,44,45,46] (blind_of fun _ _ _ h=>h.2) rfl rfl rfl rfl (k50 d8) rfl (q60 p1) ?_
            refine sf_puN (i:=36) [36,37,38,39,40,41,42,43,44,45,46] (blind_of fun _ _ _ h=>h.2) rfl rfl rfl rfl (k50 d8) rfl (q60 p2) ?_
            refine sf_puN (i:=37) [37,38,39,40,41,42,43,44,45,46] (blind_of fun _ _ _ h=>h.2) rfl rfl rfl rfl (k50 d8) rfl (q60 p3) ?_
            refine sf_puN (i:=38) [38,39,40,41,42,43,44,45,46] (blind_of fun _ _ _ h=>h.2) rfl rfl rfl rfl (k50 d8) rfl (q60 p4) ?_
            refine sf_puU (i:=39) [39,40,41,42,43,44,45,46] (blind_of fun _ _ _ h=>h.2) rfl rfl rfl rfl (k60 d4) (q60 p5) ?_
            refine sf_puU (i:=40) [40,41,42,43,44,45,46] (blind_of fun _ _ _ h=>h.2) rfl rfl rfl rfl (k60 d4) (q60 p6) ?_
            refine sf_puU (i:=41) [41,42,43,44,45,46] (blind_of fun _ _ _ h=>h.2) rfl rfl rfl rfl (k60 d4) (q60 p7) ?_
            refine sf_puU (i:=42) [42,43,44,45,46] (blind_of fun _ _ _ h=>h.2) rfl rfl rfl rfl (k60 d4) (q60 p8) ?_
            refine sf_puU (i:=43) [43,44,45,46] (blind_of fun _ _ _ h=>h.2) rfl rfl rfl rfl (k60 d4) (q60 p9) ?_
            refine sf_puN (i:=44) [44,45,46] (blind_of fun _ _ _ h=>h.2) rfl rfl rfl rfl (k50 d8) rfl (q70 p0) ?_
            refine sf_pu (i:=45) [45,46] (blind_of fun _ _ _ h=>h.2) rfl rfl rfl (u_pickt (et (k50 d8)) ec) (q70 p1) ?_
            refine sf_pu (i:=46) [46] (blind_of fun _ _ _ h=>h.2) rfl rfl rfl (u_assign (et (k70 d1))) (q20 p5) ?_
            refine sf_nil ?_
            refine xl ?_
            exact ⟨_,_,rfl,(aK20 (aK5 (aI (aO20 (aO20 (aO6 aZ)))))),_,true,rfl,h,Le.r,hS⟩
          · replace h:=iF h24 h
            refine sf_puY (i:=14) (R':=[15,16,17,18,19,20,21,22,23,24,25,26,27,28,29,30,31,32,33,34,35,36,37,38,39,40,41,42,43,44,45,46]) [14,15,16,17,18,19,20,21,22,23,24,25,26,27,28,29,30,31,32,33,34,35,36,37,38,39,40,41,42,43,44,45,46] (blind_of fun _ _ _ h=>h.2) (by kernel_rfl) (by kernel_rfl) rfl rfl (k30 d9) (u_move (et d1)) (q40 p0) ?_
            refine sf_puY (i:=15) (R':=[16,17,18,19,20,21,22,23,24,25,26,27,28,29,30,31,32,33,34,35,36,37,38,39,40,41,42,43,44,45,46]) [15,16,17,18,19,20,21,22,23,24,25,26,27,28,29,30,31,32,33,34,35,36,37,38,39,40,41,42,43,44,45,46] (blind_of fun _ _ _ h=>h.2) (by kernel_rfl) (by kernel_rfl) rfl rfl (k30 d9) (u_nilck (et (k40 d0))) (q40 p1) ?_
            refine sf_puY (i:=16) (R':=[17,18,19,20,21,22,23,24,25,26,27,28,29,30,31,32,33,34,35,36,37,38,39,40,41,42,43,44,45,46]) [16,17,18,19,20,21,22,23,24,25,26,27,28,29,30,31,32,33,34,35,36,37,38,39,40,41,42,43,44,45,46] (blind_of fun _ _ _ h=>h.2) (by kernel_rfl) (by kernel_rfl) rfl rfl (k30 d9) (u_fa fa41_1 (et (k40 d1)) rfl) (q40 p2) ?_
            refine sf_rdY (i:=17) (R':=[18,19,20,21,22,23,24,25,26,27,28,29,30,31,32,33,34,35,36,37,38,39,40,41,42,43,44,45,46]) [17,18,19,20,21,22,23,24,25,26,27,28,29,30,31,32,33,34,35,36,37,38,39,40,41,42,43,44,45,46] (blind_of fun _ _ _ h=>h.2) (by kernel_rfl) (by kernel_rfl) rfl rfl (k30 d9) (u_load ti3 (et (k40 d2)) ((m14 _ (le20 _ hS.a)).one d1)) (q40 p3) ?_
            refine sf_puY (i:=18) (R':=[19,20,21,22,23,24,25,26,27,28,29,30,31,32,33,34,35,36,37,38,39,40,41,42,43,44,45,46]) [18,19,20,21,22,23,24,25,26,27,28,29,30,31,32,33,34,35,36,37,38,39,40,41,42,43,44,45,46] (blind_of fun _ _ _ h=>h.2) (by kernel_rfl) (by kernel_rfl) rfl rfl (k30 d9) (u_gtr (et (k40 d3)) ec) (q40 p4) ?_
            refine sf_pu (i:=19) (R':=[20,21,22,23,24,25,26,27,28,29,30,31,32,33,34,35,36,37,38,39,40,41,42,43,44,45,46]) [19,20,21,22,23,24,25,26,27,28,29,30,31,32,33,34,35,36,37,38,39,40,41,42,43,44,45,46] (blind_of fun _ _ _ h=>h.2) (by kernel_rfl) (by kernel_rfl) rfl (u_pickf (et (k30 d9)) (et (k40 d4))) (q40 p5) ?_
            refine sf_pu (i:=20) (R':=[21,22,23,24,25,26,27,28,29,30,31,32,33,34,35,36,37,38,39,40,41,42,43,44,45,46]) [20,21,22,23,24,25,26,27,28,29,30,31,32,33,34,35,36,37,38,39,40,41,42,43,44,45,46] (blind_of fun _ _ _ h=>h.2) (by kernel_rfl) (by kernel_rfl) rfl (u_move (et (k40 d5))) (q40 p6) ?_
            refine sfsd (k40 d6) (q40 p6) (q40 p6) (fun h25=>?_) (fun h25=>?_)
            · replace h:=iT h25 h
              refine sf_puN (i:=21) (R':=[22,23,24,25,26,27,28,29,30,31,32,33,34,35,36,37,38,39,40,41,42,43,44,45,46]) [21,22,23,24,30,31,32,33,34,35,36,37,38,39,40,41,42,43,44,45,46] (blind_of fun _ _ _ h=>h.2) (by kernel_rfl) (by kernel_rfl) rfl rfl (k40 d6) rfl (q40 p7) ?_
              refine sf_puN (i:=22) (R':=[23,24,25,26,27,28,29,30,31,32,33,34,35,36,37,38,39,40,41,42,43,44,45,46]) [22,23,24,30,31,32,33,34,35,36,37,38,39,40,41,42,43,44,45,46] (blind_of fun _ _ _ h=>h.2) (by kernel_rfl) (by kernel_rfl) rfl rfl (k40 d6) rfl (q40 p8) ?_
              refine sf_puN (i:=23) (R':=[24,25,26,27,28,29,30,31,32,33,34,35,36,37,38,39,40,41,42,43,44,45,46]) [23,24,30,31,32,33,34,35,36,37,38,39,40,41,42,43,44,45,46] (blind_of fun _ _ _ h=>h.2) (by kernel_rfl) (by kernel_rfl) rfl rfl (k40 d6) rfl (q40 p9) ?_
              refine sf_puN (i:=24) (R':=[25,26,27,28,29,30,31,32,33,34,35,36,37,38,39,40,41,42,43,44,45,46]) [24,30,31,32,33,34,35,36,37,38,39,40,41,42,43,44,45,46] (blind_of fun _ _ _ h=>h.2) (by kernel_rfl) (by kernel_rfl) rfl rfl (k40 d6) rfl (q50 p0) ?_
              refine sf_puN (i:=25) (R':=[26,27,28,29,30,31,32,33,34,35,36,37,38,39,40,41,42,43,44,45,46]) [25,26,27,28,29,30,31,32,33,34,35,36,37,38,39,40,41,42,43,44,45,46] (blind_of fun _ _ _ h=>h.2) (by kernel_rfl) (by kernel_rfl) rfl rfl (k40 d6) rfl (q50 p1) ?_
              refine sf_puN (i:=26) (R':=[27,28,29,30,31,32,33,34,35,36,37,38,39,40,41,42,43,44,45,46]) [26,27,28,29,30,31,32,33,34,35,36,37,38,39,40,41,42,43,44,45,46] (blind_of fun _ _ _ h=>h.2) (by kernel_rfl) (by kernel_rfl) rfl rfl (k40 d6) rfl (q50 p2) ?_
              refine sf_puN (i:=27) (R':=[28,29,30,31,32,33,34,35,36,37,38,39,40,41,42,43,44,45,46]) [27,28,29,30,31,32,33,34,35,36,37,38,39,40,41,42,43,44,45,46] (blind_of fun _ _ _ h=>h.2) (by kernel_rfl) (by kernel_rfl) rfl rfl (k40 d6) rfl (q50 p3) ?_
              refine sf_puN (i:=28) (R':=[29,30,31,32,33,34,35,36,37,38,39,40,41,42,43,44,45,46]) [28,29,30,31,32,33,34,35,36,37,38,39,40,41,42,43,44,45,46] (blind_of fun _ _ _ h=>h.2) (by kernel_rfl) (by kernel_rfl) rfl rfl (k40 d6) rfl (q50 p4) ?_
              refine sf_puN (i:=29) (R':=[30,31,32,33,34,35,36,37,38,39,40,41,42,43,44,45,46]) [29,30,31,32,33,34,35,36,37,38,39,40,41,42,43,44,45,46] (blind_of fun _ _ _ h=>h.2) (by kernel_rfl) (by kernel_rfl) rfl rfl (k40 d6) rfl (q50 p5) ?_
              refine sf_puN (i:=30) (R':=[31,32,33,34,35,36,37,38,39,40,41,42,43,44,45,46]) [30,31,32,33,34,35,36,37,38,39,40,41,42,43,44,45,46] (blind_of fun _ _ _ h=>h.2) (by kernel_rfl) (by kernel_rfl) rfl rfl (k40 d6) rfl (q50 p6) ?_
              refine sf_pu (i:=31) (R':=[32,33,34,35,36,37,38,39,40,41,42,43,44,45,46]) [31,32,33,34,35,36,37,38,39,40,41,42,43,44,45,46] (blind_of fun _ _ _ h=>h.2) (by kernel_rfl) (by kernel_rfl) rfl (u_pickt (et (k40 d6)) ec) (q50 p7) ?_
              refine sf_pu (i:=32) (R':=[33,34,35,36,37,38,39,40,41,42,43,44,45,46]) [32,33,34,35,36,37,38,39,40,41,42,43,44,45,46] (blind_of fun _ _ _ h=>h.2) (by kernel_rfl) (by kernel_rfl) rfl (u_move (et (k50 d7))) (q50 p8) ?_
              refine sf_puN (i:=33) (R':=[34,35,36,37,38,39,40,41,42,43,44,45,46]) [33,34,35,36,37,38,39,40,41,42,43,44,45,46] (blind_of fun _ _ _ h=>h.2) (by kernel_rfl) (by kernel_rfl) rfl rfl (k50 d8) rfl (q50 p9) ?_
              refine sf_puN (i:=34) (R':=[35,36,37,38,39,40,41,42,43,44,45,46]) [34,35,36,37,38,39,40,41,42,43,44,45,46] (blind_of fun _ _ _ h=>h.2) (by kernel_rfl) (by kernel_rfl) rfl rfl (k50 d8) rfl (q60 p0) ?_
              refine sf_puN (i:=35) [35,36,37,38,39,40,41,42,43,44,45,46] (blind_of fun _ _ _ h=>h.2) rfl rfl rfl rfl (k50 d8) rfl (q60 p1) ?_
              refine sf_puN (i:=36) [36,37,38,39,40,41,42,43,44,45,46] (blind_of fun _ _ _ h=>h.2) rfl rfl rfl rfl (k50 d8) rfl (q60 p2) ?_
              refine sf_puN (i:=37) [37,38,39,40,41,42,43,44,45,46] (blind_of fun _ _ _ h=>h.2) rfl rfl rfl rfl (k50 d8) rfl (q60 p3) ?_
              refine sf_puN (i:=38) [38,39,40,41,42,43,44,45,46] (blind_of fun _ _ _ h=>h.2) rfl rfl rfl rfl (k50 d8) rfl (q60 p4) ?_
              refine sf_puU (i:=39) [39,40,41,42,43,44,45,46] (blind_of fun _ _ _ h=>h.2) rfl rfl rfl rfl (k60 d4) (q60 p5) ?_
              refine sf_puU (i:=40) [40,41,42,43,44,45,46] (blind_of fun _ _ _ h=>h.2) rfl rfl rfl rfl (k60 d4) (q60 p6) ?_
              refine sf_puU (i:=41) [41,42,43,44,45,46] (blind_of fun _ _ _ h=>h.2) rfl rfl rfl rfl (k60 d4) (q60 p7) ?_
              refine sf_puU (i:=42) [42,43,44,45,46] (blind_of fun _ _ _ h=>h.2) rfl rfl rfl rfl (k60 d4) (q60 p8) ?_
              refine sf_puU (i:=43) [43,44,45,46] (blind_of fun _ _ _ h=>h.2) rfl rfl rfl rfl (k60 d4) (q60 p9) ?_
              refine sf_puN (i:=44) [44,45,46] (blind_of fun _ _ _ h=>h.2) rfl rfl rfl rfl (k50 d8) rfl (q70 p0) ?_
              refine sf_pu (i:=45) [45,46] (blind_of fun _ _ _ h=>h.2) rfl rfl rfl (u_pickt (et (k50 d8)) ec) (q70 p1) ?_
              refine sf_pu (i:=46) [46] (blind_of fun _ _ _ h=>h.2) rfl rfl rfl (u_assign (et (k70 d1))) (q20 p5) ?_
              refine sf_nil ?_
              refine xl ?_
              exact ⟨_,_,rfl,(aK20 (aK5 (aI (aO20 (aO20 (aO6 aZ)))))),_,true,rfl,h,Le.r,hS⟩
            · replace h:=iF h25 h
              refine sf_puY (i:=21) (R':=[22,23,24,25,26,27,28,29,30,31,32,33,34,35,36,37,38,39,40,41,42,43,44,45,46]) [21,22,23,24,30,31,32,33,34,35,36,37,38,39,40,41,42,43,44,45,46] (blind_of fun _ _ _ h=>h.2) (by kernel_rfl) (by kernel_rfl) rfl rfl (k40 d6) (u_move (et d1)) (q40 p7) ?_
              refine sf_puY (i:=22) (R':=[23,24,25,26,27,28,29,30,31,32,33,34,35,36,37,38,39,40,41,42,43,44,45,46]) [22,23,24,30,31,32,33,34,35,36,37,38,39,40,41,42,43,44,45,46] (blind_of fun _ _ _ h=>h.2) (by kernel_rfl) (by kernel_rfl) rfl rfl (k40 d6) (u_nilck (et (k40 d7))) (q40 p8) ?_
              refine sf_puY (i:=23) (R':=[24,25,26,27,28,29,30,31,32,33,34,35,36,37,38,39,40,41,42,43,44,45,46]) [23,24,30,31,32,33,34,35,36,37,38,39,40,41,42,43,44,45,46] (blind_of fun _ _ _ h=>h.2) (by kernel_rfl) (by kernel_rfl) rfl rfl (k40 d6) (u_fa fa41_1 (et (k40 d8)) rfl) (q40 p9) ?_
              refine sf_rdY (i:=24) (R':=[25,26,27,28,29,30,31,32,33,34,35,36,37,38,39,40,41,42,43,44,45,46]) [24,30,31,32,33,34,35,36,37,38,39,40,41,42,43,44,45,46] (blind_of fun _ _ _ h=>h.2) (by kernel_rfl) (by kernel_rfl) rfl rfl (k40 d6) (u_load ti3 (et (k40 d9)) ((m14 _ (le20 _ hS.a)).one d1)) (q50 p0) ?_
              refine sf_puY (i:=25) (R':=[26,27,28,29,30,31,32,33,34,35,36,37,38,39,40,41,42,43,44,45,46]) [25,26,27,28,29,30,31,32,33,34,35,36,37,38,39,40,41,42,43,44,45,46] (blind_of fun _ _ _ h=>h.2) (by kernel_rfl) (by kernel_rfl) rfl rfl (k40 d6) (u_move (et d1)) (q50 p1) ?_
              refine sf_puY (i:=26) (R':=[27,28,29,30,31,32,33,34,35,36,37,38,39,40,41,42,43,44,45,46]) [26,27,28,29,30,31,32,33,34,35,36,37,38,39,40,41,42,43,44,45,46] (blind_of fun _ _ _ h=>h.2) (by kernel_rfl) (by kernel_rfl) rfl rfl (k40 d6) (u_nilck (et (k50 d1))) (q50 p2) ?_
              refine sf_puY (i:=27) (R':=[28,29,30,31,32,33,34,35,36,37,38,39,40,41,42,43,44,45,46]) [27,28,29,30,31,32,33,34,35,36,37,38,39,40,41,42,43,44,45,46] (blind_of fun _ _ _ h=>h.2) (by kernel_rfl) (by kernel_rfl) rfl rfl (k40 d6) (u_fa fa41_2 (et (k50 d2)) rfl) (q50 p3) ?_
              refine sf_rdY (i:=28) (R':=[29,30,31,32,33,34,35,36,37,38,39,40,41,42,43,44,45,46]) [28,29,30,31,32,33,34,35,36,37,38,39,40,41,42,43,44,45,46] (blind_of fun _ _ _ h=>h.2) (by kernel_rfl) (by kernel_rfl) rfl rfl (k40 d6) (u_load ti38 (et (k50 d3)) ((m14 _ (le20 _ hS.a)).one d2)) (q50 p4) ?_
              refine sf_puY (i:=29) (R':=[30,31,32,33,34,35,36,37,38,39,40,41,42,43,44,45,46]) [29,30,31,32,33,34,35,36,37,38,39,40,41,42,43,44,45,46] (blind_of fun _ _ _ h=>h.2) (by kernel_rfl) (by kernel_rfl) rfl rfl (k40 d6) (u_lensl Tryz.underlying38 (et (k50 d4))) (q50 p5) ?_
              refine sf_puY (i:=30) (R':=[31,32,33,34,35,36,37,38,39,40,41,42,43,44,45,46]) [30,31,32,33,34,35,36,37,38,39,40,41,42,43,44,45,46] (blind_of fun _ _ _ h=>h.2) (by kernel_rfl) (by kernel_rfl) rfl rfl (k40 d6) (u_gtr (et (k50 d0)) (et (k50 d5))) (q50 p6) ?_
              refine sf_pu (i:=31) (R':=[32,33,34,35,36,37,38,39,40,41,42,43,44,45,46]) [31,32,33,34,35,36,37,38,39,40,41,42,43,44,45,46] (blind_of fun _ _ _ h=>h.2) (by kernel_rfl) (by kernel_rfl) rfl (u_pickf (et (k40 d6)) (et (k50 d6))) (q50 p7) ?_
              refine sf_pu (i:=32) (R':=[33,34,35,36,37,38,39,40,41,42,43,44,45,46]) [32,33,34,35,36,37,38,39,40,41,42,43,44,45,46] (blind_of fun _ _ _ h=>h.2) (by kernel_rfl) (by kernel_rfl) rfl (u_move (et (k50 d7))) (q50 p8) ?_
              refine sfsd (k50 d8) (q50 p8) (q50 p8) (fun h26=>?_) (fun h26=>?_)
              · replace h:=iT h26 h
                refine sf_puN (i:=33) (R':=[34,35,36,37,38,39,40,41,42,43,44,45,46]) [33,34,35,36,37,38,39,40,41,42,43,44,45,46] (blind_of fun _ _ _ h=>h.2) (by kernel_rfl) (by kernel_rfl) rfl rfl (k50 d8) rfl (q50 p9) ?_
                refine sf_puN (i:=34) (R':=[35,36,37,38,39,40,41,42,43,44,45,46]) [34,35,36,37,38,39,40,41,42,43,44,45,46] (blind_of fun _ _ _ h=>h.2) (by kernel_rfl) (by kernel_rfl) rfl rfl (k50 d8) rfl (q60 p0) ?_
                refine sf_puN (i:=35) [35,36,37,38,39,40,41,42,43,44,45,46] (blind_of fun _ _ _ h=>h.2) rfl rfl rfl rfl (k50 d8) rfl (q60 p1) ?_
                refine sf_puN (i:=36) [36,37,38,39,40,41,42,43,44,45,46] (blind_of fun _ _ _ h=>h.2) rfl rfl rfl rfl (k50 d8) rfl (q60 p2) ?_
                refine sf_puN (i:=37) [37,38,39,40,41,42,43,44,45,46] (blind_of fun _ _ _ h=>h.2) rfl rfl rfl rfl (k50 d8) rfl (q60 p3) ?_
                refine sf_puN (i:=38) [38,39,40,41,42,43,44,45,46] (blind_of fun _ _ _ h=>h.2) rfl rfl rfl rfl (k50 d8) rfl (q60 p4) ?_
                refine sf_puU (i:=39) [39,40,41,42,43,44,45,46] (blind_of fun _ _ _ h=>h.2) rfl rfl rfl rfl (k60 d4) (q60 p5) ?_
                refine sf_puU (i:=40) [40,41,42,43,44,45,46] (blind_of fun _ _ _ h=>h.2) rfl rfl rfl rfl (k60 d4) (q60 p6) ?_
                refine sf_puU (i:=41) [41,42,43,44,45,46] (blind_of fun _ _ _ h=>h.2) rfl rfl rfl rfl (k60 d4) (q60 p7) ?_
                refine sf_puU (i:=42) [42,43,44,45,46] (blind_of fun _ _ _ h=>h.2) rfl rfl rfl rfl (k60 d4) (q60 p8) ?_
                refine sf_puU (i:=43) [43,44,45,46] (blind_of fun _ _ _ h=>h.2) rfl rfl rfl rfl (k60 d4) (q60 p9) ?_
                refine sf_puN (i:=44) [44,45,46] (blind_of fun _ _ _ h=>h.2) rfl rfl rfl rfl (k50 d8) rfl (q70 p0) ?_
                refine sf_pu (i:=45) [45,46] (blind_of fun _ _ _ h=>h.2) rfl rfl rfl (u_pickt (et (k50 d8)) ec) (q70 p1) ?_
                refine sf_pu (i:=46) [46] (blind_of fun _ _ _ h=>h.2) rfl rfl rfl (u_assign (et (k70 d1))) (q20 p5) ?_
                refine sf_nil ?_
                refine xl ?_
                exact ⟨_,_,rfl,(aK20 (aK5 (aI (aO20 (aO20 (aO6 aZ)))))),_,true,rfl,h,Le.r,hS⟩
              · replace h:=iF h26 h
                refine sf_puY (i:=33) (R':=[34,35,36,37,38,39,40,41,42,43,44,45,46]) [33,34,35,36,37,38,39,40,41,42,43,44,45,46] (blind_of fun _ _ _ h=>h.2) (by kernel_rfl) (by kernel_rfl) rfl rfl (k50 d8) (u_move (et d1)) (q50 p9) ?_
                refine sf_puY (i:=34) (R':=[35,36,37,38,39,40,41,42,43,44,45,46]) [34,35,36,37,38,39,40,41,42,43,44,45,46] (blind_of fun _ _ _ h=>h.2) (by kernel_rfl) (by kernel_rfl) rfl rfl (k50 d8) (u_nilck (et (k50 d9))) (q60 p0) ?_
                refine sf_puY (i:=35) [35,36,37,38,39,40,41,42,43,44,45,46] (blind_of fun _ _ _ h=>h.2) rfl rfl rfl rfl (k50 d8) (u_fa fa41_0 (et (k60 d0)) rfl) (q60 p1) ?_
                refine sf_rdY (i:=36) [36,37,38,39,40,41,42,43,44,45,46] (blind_of fun _ _ _ h=>h.2) rfl rfl rfl rfl (k50 d8) (u_load ti3 (et (k60 d1)) ((m14 _ (le20 _ hS.a)).one d0)) (q60 p2) ?_
                refine sf_puY (i:=37) [37,38,39,40,41,42,43,44,45,46] (blind_of fun _ _ _ h=>h.2) rfl rfl rfl rfl (k50 d8) (u_eqi (et (k60 d2)) ec) (q60 p3) ?_
                refine sf_puY (i:=38) [38,39,40,41,42,43,44,45,46] (blind_of fun _ _ _ h=>h.2) rfl rfl rfl rfl (k50 d8) (u_move (et (k60 d3))) (q60 p4) ?_
                refine sfsd (k60 d4) (q60 p4) (q60 p4) (fun h27=>?_) (fun h27=>?_)
                · replace h:=iT h27 h
                  refine sf_puY (i:=39) [39,40,41,42,43,44,45,46] (blind_of fun _ _ _ h=>h.2) rfl rfl rfl rfl (k60 d4) (u_move (et d1)) (q60 p5) ?_
                  refine sf_puY (i:=40) [40,41,42,43,44,45,46] (blind_of fun _ _ _ h=>h.2) rfl rfl rfl rfl (k60 d4) (u_nilck (et (k60 d5))) (q60 p6) ?_
                  refine sf_puY (i:=41) [41,42,43,44,45,46] (blind_of fun _ _ _ h=>h.2) rfl rfl rfl rfl (k60 d4) (u_fa fa41_1 (et (k60 d6)) rfl) (q60 p7) ?_
                  refine sf_rdY (i:=42) [42,43,44,45,46] (blind_of fun _ _ _ h=>h.2) rfl rfl rfl rfl (k60 d4) (u_load ti3 (et (k60 d7)) ((m14 _ (le20 _ hS.a)).one d1)) (q60 p8) ?_
                  refine sf_puY (i:=43) [43,44,45,46] (blind_of fun _ _ _ h=>h.2) rfl rfl rfl rfl (k60 d4) (u_gtr (et (k60 d8)) ec) (q60 p9) ?_
                  refine sf_puY (i:=44) [44,45,46] (blind_of fun _ _ _ h=>h.2) rfl rfl rfl rfl (k50 d8) (u_pickt (et (k60 d4)) (et (k60 d9))) (q70 p0) ?_
                  refine sf_pu (i:=45) [45,46] (blind_of fun _ _ _ h=>h.2) rfl rfl rfl (u_pickf (et (k50 d8)) (et (k70 d0))) (q70 p1) ?_
                  refine sf_pu (i:=46) [46] (blind_of fun _ _ _ h=>h.2) rfl rfl rfl (u_assign (et (k70 d1))) (q20 p5) ?_
                  refine sf_nil ?_
                  refine xl ?_
                  exact ⟨_,_,rfl,(aK20 (aK5 (aI (aO20 (aO20 (aO6 aZ)))))),_,(decide ((0:Int)<p_2.Params)),rfl,h,Le.r,hS⟩
                · replace h:=iF h27 h
                  refine sf_puN (i:=39) [39,40,41,42,43,44,45,46] (blind_of fun _ _ _ h=>h.2) rfl rfl rfl rfl (k60 d4) rfl (q60 p5) ?_
                  refine sf_puN (i:=40) [40,41,42,43,44,45,46] (blind_of fun _ _ _ h=>h.2) rfl rfl rfl rfl (k60 d4) rfl (q60 p6) ?_
                  refine sf_puN (i:=41) [41,42,43,44,45,46] (blind_of fun _ _ _ h=>h.2) rfl rfl rfl rfl (k60 d4) rfl (q60 p7) ?_
                  refine sf_puN (i:=42) [42,43,44,45,46] (blind_of fun _ _ _ h=>h.2) rfl rfl rfl rfl (k60 d4) rfl (q60 p8) ?_
                  refine sf_puN (i:=43) [43,44,45,46] (blind_of fun _ _ _ h=>h.2) rfl rfl rfl rfl (k60 d4) rfl (q60 p9) ?_
                  refine sf_puY (i:=44) [44,45,46] (blind_of fun _ _ _ h=>h.2) rfl rfl rfl rfl (k50 d8) (u_pickf (et (k60 d4)) ec) (q70 p0) ?_
                  refine sf_pu (i:=45) [45,46] (blind_of fun _ _ _ h=>h.2) rfl rfl rfl (u_pickf (et (k50 d8)) (et (k70 d0))) (q70 p1) ?_
                  refine sf_pu (i:=46) [46] (blind_of fun _ _ _ h=>h.2) rfl rfl rfl (u_assign (et (k70 d1))) (q20 p5) ?_
                  refine sf_nil ?_
                  refine xl ?_
                  exact ⟨_,_,rfl,(aK20 (aK5 (aI (aO20 (aO20 (aO6 aZ)))))),_,false,rfl,h,Le.r,hS⟩
      · rintro _ t w4 ⟨μ2,b22,rfl,h,le28,hS⟩
        unfold vf_head_j2 at h
        refine nrm (mK20 (mK5 (mi (mO20 (mO20 (mO6 mz)))))) ?_
        refine xn ?_
        refine cifb (et (k20 d5)) (fun h29=>?_) (fun h29=>?_)
        · replace h:=iT h29 h
          refine cseq ?_
          refine creg ?_
          refine wl (s_assign ec (dt p4) ?_)
          refine wnil ?_
          refine xn ?_
          refine cret ?_
          refine (fun h=>br (xr h)) ?_
          obtain rfl:=oI h
          refine ret1 rfl d4 ?_
          replace hS:=hS.drop Rm.z
          exact ⟨_,rfl,(le20.t le28),hS⟩
        · replace h:=iF h29 h
          refine cseq ?_
          refine ccutE (rg 73 14) (by decide) (fun m w=>∃ (μx:M) (b30:Bool),m=(yK50 (yK20 (yK2 (.i (.bool b30)::(yO10 73 (yO4 83 []))))))∧vf_head_j3 p_1 p_2 b30=some r∧Le μ2 μx∧Sq μx w0 w (.blk b15 73 [.pointer (some ⟨b1,o2,none⟩)]::rsF)) (by rintro _ _ ⟨_,_,rfl,_⟩; rfl) ?_ ?_
          · refine creg ?_
            refine wl (s_move (et d1) (dt (q70 p3)) ?_)
            refine wl (s_nilck (et (k70 d3)) (dt (q70 p4)) ?_)
            refine wl (s_fa fa41_5 (et (k70 d4)) rfl (dt (q70 p5)) ?_)
            refine wl (s_load ti39 (et (k70 d5)) ((m14 _ ((le20.t le28) _ hS.a)).one d5) (dt (q70 p6)) ?_)
            refine wl (s_lensl Tryz.underlying39 (et (k70 d6)) (dt (q70 p7)) ?_)
            refine wl (s_lss (et (k70 d7)) ec (dt (q70 p8)) ?_)
            refine wl (s_move (et (k70 d8)) (dt (q70 p9)) ?_)
            refine wspd (k70 d9) (q70 p9) (q70 p9) (fun h31=>?_) (fun h31=>?_)
            · replace h:=iT h31 h
              refine wn rfl (k70 d9) rfl (dt (q80 p0)) ?_
              refine wn rfl (k70 d9) rfl (dt (q80 p1)) ?_
              refine wn rfl (k70 d9) rfl (dt (q80 p2)) ?_
              refine wn rfl (k70 d9) rfl (dt (q80 p3)) ?_
              refine wn rfl (k70 d9) rfl (dt (q80 p4)) ?_
              refine wn rfl (k70 d9) rfl (dt (q80 p5)) ?_
              refine wl (s_pickt (et (k70 d9)) ec (dt (q80 p6)) ?_)
              refine wl (s_assign (et (k80 d6)) (dt (q70 p2)) ?_)
              refine wnil ?_
              refine xl ?_
              exact ⟨_,_,rfl,(aK50 (aK20 (aK2 (aI (aO10 (aO4 aZ)))))),_,true,rfl,h,Le.r,hS⟩
            · replace h:=iF h31 h
              refine wy rfl (k70 d9) (s_move (et d1) (dt (q80 p0)) ?_)
              refine wy rfl (k70 d9) (s_nilck (et (k80 d0)) (dt (q80 p1)) ?_)
              refine wy rfl (k70 d9) (s_fa fa41_5 (et (k80 d1)) rfl (dt (q80 p2)) ?_)
              refine wy rfl (k70 d9) (s_load ti39 (et (k80 d2)) ((m14 _ ((le20.t le28) _ hS.a)).one d5) (dt (q80 p3)) ?_)
              refine wy rfl (k70 d9) (s_lensl Tryz.underlying39 (et (k80 d3)) (dt (q80 p4)) ?_)
              refine wy rfl (k70 d9) (s_gtr (et (k80 d4)) ec (dt (q80 p5)) ?_)
              refine wl (s_pickf (et (k70 d9)) (et (k80 d5)) (dt (q80 p6)) ?_)
              refine wl (s_assign (et (k80 d6)) (dt (q70 p2)) ?_)
              refine wnil ?_
              refine xl ?_
              exact ⟨_,_,rfl,(aK50 (aK20 (aK2 (aI (aO10 (aO4 aZ)))))),_,(decide ((4000:Int)<(p_2.Code.length:Int))),rfl,h,Le.r,hS⟩
          · rintro _ t w5 ⟨μ3,b30,rfl,h,le32,hS⟩
            unfold vf_head_j3 at h
            refine nrm (mK50 (mK20 (mK2 (mi (mO10 (mO4 mz)))))) ?_
            refine xn ?_
            refine cifb (et (k70 d2)) (fun h33=>?_) (fun h33=>?_)
            · replace h:=iT h33 h
              refine cseq ?_
              refine creg ?_
              refine wl (s_assign ec (dt p4) ?_)
              refine wnil ?_
              refine xn ?_
              refine cret ?_
              refine (fun h=>br (xr h)) ?_
              obtain rfl:=oI h
              refine ret1 rfl d4 ?_
              replace hS:=hS.drop Rm.z
              exact ⟨_,rfl,(le20.t (le28.t le32)),hS⟩
            · replace h:=iF h33 h
              refine cseq ?_
              refine ccutE (rg 88 28) (by decide +kernel) (fun m w=>∃ (μx:M) (b34:Bool),m=(yK50 (yK20 (yK10 (yK7 (.i (.bool b34)::(yO20 88 (yO8 108 [])))))))∧vf_head_j4 p_1 p_2 b34=some r∧Le μ3 μx∧Sq μx w0 w (.blk b15 73 [.pointer (some ⟨b1,o2,none⟩)]::rsF)) (by rintro _ _ ⟨_,_,rfl,_⟩; rfl) ?_ ?_
              · refine creg ?_
                refine wl (s_move (et d1) (dt (q80 p8)) ?_)
                refine wl (s_nilck (et (k80 d8)) (dt (q80 p9)) ?_)
                refine wl (s_fa fa41_0 (et (k80 d9)) rfl (dt (q90 p0)) ?_)
                refine wl (s_load ti3 (et (k90 d0)) ((m14 _ ((le20.t (le28.t le32)) _ hS.a)).one d0) (dt (q90 p1)) ?_)
                refine wl (s_nei (et (k90 d1)) ec (dt (q90 p2)) ?_)
                refine wl (s_move (et (k90 d2)) (dt (q90 p3)) ?_)
                refine wspd (k90 d3) (q90 p3) (q90 p3) (fun h35=>?_) (fun h35=>?_)
                · replace h:=iT h35 h
                  refine wy rfl (k90 d3) (s_move (et d1) (dt (q90 p4)) ?_)
                  refine wy rfl (k90 d3) (s_nilck (et (k90 d4)) (dt (q90 p5)) ?_)
                  refine wy rfl (k90 d3) (s_fa fa41_3 (et (k90 d5)) rfl (dt (q90 p6)) ?_)
                  refine wy rfl (k90 d3) (s_load ti3 (et (k90 d6)) ((m14 _ ((le20.t (le28.t le32)) _ hS.a)).one d3) (dt (q90 p7)) ?_)
                  replace h:=bI h; obtain ⟨r36,g37,h⟩:=h
                  refine wy rfl (k90 d3) (s_callv isfn34 ef (e1 (et (k90 d7)) e0) (vf_plain_w (hg.t (le20.t (le28.t le32))) g37 hS) ?_)
                  rintro _ w6 ⟨μ4,rfl,le38,hS⟩
                  refine pu (dt (q90 p8)) ?_
                  refine wy rfl (k90 d3) (s_not (et (k90 d8)) (dt (q90 p9)) ?_)
                  refine wl (s_pickt (et (k90 d3)) (et (k90 d9)) (dt (q100 p0)) ?_)
                  refine wl (s_move (et (k100 d0)) (dt (q100 p1)) ?_)
                  refine wspnb (k100 d1) (q100 p1) (q100 p1) (fun h39=>?_) (fun h39=>?_)
                  · replace h:=iF h39 h
                    refine wn rfl (k100 d1) rfl (dt (q100 p2)) ?_
                    refine wn rfl (k100 d1) rfl (dt (q100 p3)) ?_
                    refine wn rfl (k100 d1) rfl (dt (q100 p4)) ?_
                    refine wn rfl (k100 d1) rfl (dt (q100 p5)) ?_
                    refine wn rfl (k100 d1) rfl (dt (q100 p6)) ?_
                    refine wn rfl (k100 d1) rfl (dt (q100 p7)) ?_
                    refine wu rfl (k100 d7) (dt (q100 p8)) ?_
                    refine wu rfl (k100 d7) (dt (q100 p9)) ?_
                    refine wu rfl (k100 d7) (dt (q100 (q10 p0))) ?_
                    refine wu rfl (k100 d7) (dt (q100 (q10 p1))) ?_
                    refine wu rfl (k100 d7) (dt (q100 (q10 p2))) ?_
                    refine wu rfl (k100 d7) (dt (q100 (q10 p3))) ?_
                    refine wn rfl (k100 d1) rfl (dt (q100 (q10 p4))) ?_
                    refine wl (s_pickt (et (k100 d1)) ec (dt (q100 (q10 p5))) ?_)
                    refine wl (s_assign (et (k100 (k10 d5))) (dt (q80 p7)) ?_)
                    refine wnil ?_
                    refine xl ?_
                    exact ⟨_,_,rfl,(aK50 (aK20 (aK10 (aK7 (aI (aO20 (aO8 aZ))))))),_,true,rfl,h,le38,hS⟩
                  · replace h:=iT h39 h
                    refine wy rfl (k100 d1) (s_move (et d1) (dt (q100 p2)) ?_)
                    refine wy rfl (k100 d1) (s_nilck (et (k100 d2)) (dt (q100 p3)) ?_)
                    refine wy rfl (k100 d1) (s_fa fa41_0 (et (k100 d3)) rfl (dt (q100 p4)) ?_)
                    refine wy rfl (k100 d1) (s_load ti3 (et (k100 d4)) ((m14 _ ((le20.t (le28.t (le32.t le38))) _ hS.a)).one d0) (dt (q100 p5)) ?_)
                    refine wy rfl (k100 d1) (s_eqi (et (k100 d5)) ec (dt (q100 p6)) ?_)
                    refine wy rfl (k100 d1) (s_move (et (k100 d6)) (dt (q100 p7)) ?_)
                    refine wspd (k100 d7) (q100 p7) (q100 p7) (fun h40=>?_) (fun h40=>?_)
                    · replace h:=iT h40 h
                      refine wy rfl (k100 d7) (s_move (et d1) (dt (q100 p8)) ?_)
                      refine wy rfl (k100 d7) (s_nilck (et (k100 d8)) (dt (q100 p9)) ?_)
                      refine wy rfl (k100 d7) (s_fa fa41_4 (et (k100 d9)) rfl (dt (q100 (q10 p0))) ?_)
                      refine wy rfl (k100 d7) (s_load ti3 (et (k100 (k10 d0))) ((m14 _ ((le20.t (le28.t (le32.t le38))) _ hS.a)).one d4) (dt (q100 (q10 p1))) ?_)
                      replace h:=bI h; obtain ⟨r41,g42,h⟩:=h
                      refine wy rfl (k100 d7) (s_callv isfn34 ef (e1 (et (k100 (k10 d1))) e0) (vf_plain_w (hg.t (le20.t (le28.t (le32.t le38)))) g42 hS) ?_)
                      rintro _ w7 ⟨μ5,rfl,le43,hS⟩
                      refine pu (dt (q100 (q10 p2))) ?_
                      refine wy rfl (k100 d7) (s_not (et (k100 (k10 d2))) (dt (q100 (q10 p3))) ?_)
                      refine wy rfl (k100 d1) (s_pickt (et (k100 d7)) (et (k100 (k10 d3))) (dt (q100 (q10 p4))) ?_)
                      refine wl (s_pickf (et (k100 d1)) (et (k100 (k10 d4))) (dt (q100 (q10 p5))) ?_)
                      refine wl (s_assign (et (k100 (k10 d5))) (dt (q80 p7)) ?_)
                      refine wnil ?_
                      refine xl ?_
                      exact ⟨_,_,rfl,(aK50 (aK20 (aK10 (aK7 (aI (aO20 (aO8 aZ))))))),_,(!r41),rfl,h,(le38.t le43),hS⟩
                    · replace h:=iF h40 h
                      refine wn rfl (k100 d7) rfl (dt (q100 p8)) ?_
                      refine wn rfl (k100 d7) rfl (dt (q100 p9)) ?_
                      refine wn rfl (k100 d7) rfl (dt (q100 (q10 p0))) ?_
                      refine wn rfl (k100 d7) rfl (dt (q100 (q10 p1))) ?_
                      refine wn rfl (k100 d7) rfl (dt (q100 (q10 p2))) ?_
                      refine wn rfl (k100 d7) rfl (dt (q100 (q10 p3))) ?_
                      refine wy rfl (k100 d1) (s_pickf (et (k100 d7)) ec (dt (q100 (q10 p4))) ?_)
                      refine wl (s_pickf (et (k100 d1)) (et (k100 (k10 d4))) (dt (q100 (q10 p5))) ?_)
                      refine wl (s_assign (et (k100 (k10 d5))) (dt (q80 p7)) ?_)
                      refine wnil ?_
                      refine xl ?_
                      exact ⟨_,_,rfl,(aK50 (aK20 (aK10 (aK7 (aI (aO20 (aO8 aZ))))))),_,false,rfl,h,le38,hS⟩
                · replace h:=iF h35 h
                  refine wn rfl (k90 d3) rfl (dt (q90 p4)) ?_
                  refine wn rfl (k90 d3) rfl (dt (q90 p5)) ?_
                  refine wn rfl (k90 d3) rfl (dt (q90 p6)) ?_
                  refine wn rfl (k90 d3) rfl (dt (q90 p7)) ?_
                  refine wn rfl (k90 d3) rfl (dt (q90 p8)) ?_
                  refine wn rfl (k90 d3) rfl (dt (q90 p9)) ?_
                  refine wl (s_pickf (et (k90 d3)) ec (dt (q100 p0)) ?_)
                  refine wl (s_move (et (k100 d0)) (dt (q100 p1)) ?_)
                  refine wy rfl (k100 d1) (s_move (et d1) (dt (q100 p2)) ?_)
                  refine wy rfl (k100 d1) (s_nilck (et (k100 d2)) (dt (q100 p3)) ?_)
                  refine wy rfl (k100 d1) (s_fa fa41_0 (et (k100 d3)) rfl (dt (q100 p4)) ?_)
                  refine wy rfl (k100 d1) (s_load ti3 (et (k100 d4)) ((m14 _ ((le20.t (le28.t le32)) _ hS.a)).one d0) (dt (q100 p5)) ?_)
                  refine wy rfl (k100 d1) (s_eqi (et (k100 d5)) ec (dt (q100 p6)) ?_)
                  refine wy rfl (k100 d1) (s_move (et (k100 d6)) (dt (q100 p7)) ?_)
                  refine wspd (k100 d7) (q100 p7) (q100 p7) (fun h44=>?_) (fun h44=>?_)
                  · replace h:=iT h44 h
                    refine wy rfl (k100 d7) (s_move (et d1) (dt (q100 p8)) ?_)
                    refine wy rfl (k100 d7) (s_nilck (et (k100 d8)) (dt (q100 p9)) ?_)
                    refine wy rfl (k100 d7) (s_fa fa41_4 (et (k100 d9)) rfl (dt (q100 (q10 p0))) ?_)
                    refine wy rfl (k100 d7) (s_load ti3 (et (k100 (k10 d0))) ((m14 _ ((le20.t (le28.t le32)) _ hS.a)).one d4) (dt (q100 (q10 p1))) ?_)
                    replace h:=bI h; obtain ⟨r45,g46,h⟩:=h
                    refine wy rfl (k100 d7) (s_callv isfn34 ef (e1 (et (k100 (k10 d1))) e0) (vf_plain_w (hg.t (le20.t (le28.t le32))) g46 hS) ?_)
                    rintro _ w8 ⟨μ6,rfl,le47,hS⟩
                    refine pu (dt (q100 (q10 p2))) ?_
                    refine wy rfl (k100 d7) (s_not (et (k100 (k10 d2))) (dt (q100 (q10 p3))) ?_)
                    refine wy rfl (k100 d1) (s_pickt (et (k100 d7)) (et (k100 (k10 d3))) (dt (q100 (q10 p4))) ?_)
                    refine wl (s_pickf (et (k100 d1)) (et (k100 (k10 d4))) (dt (q100 (q10 p5))) ?_)
                    refine wl (s_assign (et (k100 (k10 d5))) (dt (q80 p7)) ?_)
                    refine wnil ?_
                    refine xl ?_
                    exact ⟨_,_,rfl,(aK50 (aK20 (aK10 (aK7 (aI (aO20 (aO8 aZ))))))),_,(!r45),rfl,h,le47,hS⟩
                  · replace h:=iF h44 h
                    refine wn rfl (k100 d7) rfl (dt (q100 p8)) ?_
                    refine wn rfl (k100 d7) rfl (dt (q100 p9)) ?_
                    refine wn rfl (k100 d7) rfl (dt (q100 (q10 p0))) ?_
                    refine wn rfl (k100 d7) rfl (dt (q100 (q10 p1))) ?_
                    refine wn rfl (k100 d7) rfl (dt (q100 (q10 p2))) ?_
                    refine wn rfl (k100 d7) rfl (dt (q100 (q10 p3))) ?_
                    refine wy rfl (k100 d1) (s_pickf (et (k100 d7)) ec (dt (q100 (q10 p4))) ?_)
                    refine wl (s_pickf (et (k100 d1)) (et (k100 (k10 d4))) (dt (q100 (q10 p5))) ?_)
                    refine wl (s_assign (et (k100 (k10 d5))) (dt (q80 p7)) ?_)
                    refine wnil ?_
                    refine xl ?_
                    exact ⟨_,_,rfl,(aK50 (aK20 (aK10 (aK7 (aI (aO20 (aO8 aZ))))))),_,false,rfl,h,Le.r,hS⟩
              · rintro _ t w9 ⟨μ7,b34,rfl,h,le48,hS⟩
                unfold vf_head_j4 at h
                refine nrm (mK50 (mK20 (mK10 (mK7 (mi (mO20 (mO8 mz))))))) ?_
                refine xn ?_
                refine cifb (et (k80 d7)) (fun h49=>?_) (fun h49=>?_)
                · replace h:=iT h49 h
                  refine cseq ?_
                  refine creg ?_
                  refine wl (s_assign ec (dt p4) ?_)
                  refine wnil ?_
                  refine xn ?_
                  refine cret ?_
                  refine (fun h=>br (xr h)) ?_
                  obtain rfl:=oI h
                  refine ret1 rfl d4 ?_
                  replace hS:=hS.drop Rm.z
                  exact ⟨_,rfl,(le20.t (le28.t (le32.t le48))),hS⟩
                · replace h:=iF h49 h
                  refine cseq ?_
                  refine creg ?_
                  refine wl (s_move (et d1) (dt (q100 (q10 p7))) ?_)
                  refine wl (s_nilck (et (k100 (k10 d7))) (dt (q100 (q10 p8))) ?_)
                  refine wl (s_fa fa41_2 (et (k100 (k10 d8))) rfl (dt (q100 (q10 p9))) ?_)
                  refine wl (s_load ti38 (et (k100 (k10 d9))) ((m14 _ ((le20.t (le28.t (le32.t le48))) _ hS.a)).one d2) (dt (q100 (q20 p0))) ?_)
                  obtain ⟨μ8,le51,m50,hS⟩:=Sep.frzAt hS
                  refine wl (s_mkfn e0 (e1 (et d2) e0) (dt (q100 (q20 p1))) ?_)
                  replace h:=bI h; obtain ⟨r52,g53,h⟩:=h
                  refine wl (s_callv isfn40 ef (e1 (et (k100 (k20 d0))) (e1 (et (k100 (k20 d1))) e0)) (conf_i_w (hg.t (le20.t (le28.t (le32.t (le48.t le51))))) (m10.up (le20.t (le28.t (le32.t (le48.t le51))))) (⟨isfn54,fun hle_ hm_ g_ hS_=>by obtain rfl:=hm_; exact vf_head1_w ((hg.t (le20.t (le28.t (le32.t (le48.t le51))))).t hle_) ((Np.of (α:=TVc) (m5.up (le20.t (le28.t (le32.t (le48.t le51))))) (TVc.i ⟨v3,rfl,(m4.up (le20.t (le28.t (le32.t (le48.t le51)))))⟩)).up hle_) (m50.up hle_) g_ hS_⟩) g53 hS) ?_)
                  rintro _ w10 ⟨μ9,rfl,le54,hS⟩
                  refine pu (dt (q100 (q20 p2))) ?_
                  refine wl (s_assign (et (k100 (k20 d2))) (dt (q100 (q10 p6))) ?_)
                  refine wnil ?_
                  refine xn ?_
                  refine cifb (et (k100 (k10 d6))) (fun h55=>?_) (fun h55=>?_)
                  · replace h:=iT h55 h
                    refine cseq ?_
                    refine creg ?_
                    refine wl (s_assign ec (dt p4) ?_)
                    refine wnil ?_
                    refine xn ?_
                    refine cret ?_
                    refine (fun h=>br (xr h)) ?_
                    obtain rfl:=oI h
                    refine ret1 rfl d4 ?_
                    exact ⟨_,rfl,(le20.t (le28.t (le32.t (le48.t (le51.t le54))))),hS⟩
                  · replace h:=iF h55 h
                    refine cskip ?_
                    refine (fun h=>bn (xn h)) ?_
                    refine cseq ?_
                    refine creg ?_
                    refine wl (s_assign ec (dt p4) ?_)
                    refine wnil ?_
                    refine xn ?_
                    refine cret ?_
                    obtain rfl:=oI h
                    refine ret1 rfl d4 ?_
                    exact ⟨_,rfl,(le20.t (le28.t (le32.t (le48.t (le51.t le54))))),hS⟩
theorem vf_form_w {μ0:M} {w0 w:World} {rsF:List Res} (hg:Le Gm μ0) {p_1:TVc} {b1:Nat} {o2:Nat} {v3:Value} {r:TWhere} (m4:Np μ0 v3 p_1.m) (m5:At μ0 b1 o2 [v3]) (h:vf_form p_1=some r) (hS:Sq μ0 w0 w (rsF)):CallsV Tryz.prog 22 [.pointer (some ⟨b1,o2,none⟩)] w (fun v w'=>∃ (μ':M) ,v=.agg ⟨[.int .i64 r.Err,.int .i64 r.Unit,.int .i64 r.At]⟩∧Le μ0 μ'∧Sq μ' w0 w' (rsF)):=by
  unfold vf_form at h
  refine enter Tryz.func22 rfl (frm:=[_,_,_,_,_,_,_,_,_,_,_,_,_,_,_,_,_,_,_,_,_,_,_,_,_,_,_,_,_,_,_,_,_,_,_,_,_,_,_,_,_,_,_,_,_,_,_,_,_,_,_,_,_,_,_,_,_,_,_,_,_,_,_,_,_,_,_,_,_,_,_,_,_,_,_,_,_,_,_,_,_,_,_,_,_,_,_,_,_,_,_,_,_,_,_,_,_,_,_,_,_,_,_,_,_,_,_,_,_,_,_,_,_,_,_,_,_,_,_,_,_,_,_,_]) rfl ?_
  refine cseq ?_
  refine creg ?_
  refine wl (s_alloc ti29 hS ?_); clear hS; intro b6 w1 hb7 hS; refine pu (dt p2) ?_
  refine wnil ?_
  refine xn ?_
  refine cseq ?_
  refine cseq ?_
  refine ccutE (rg 12 19) (by decide) (fun m w=>∃ (μx:M) (b8:Bool),m=(yK10 (yK2 (yO10 12 (yO9 22 (.i (.bool b8)::[])))))∧vf_form_j1 p_1 b8=some r∧Le μ0 μx∧Sq μx w0 w (.blk b6 29 [.int .i64 0,.int .i64 0,.int .i64 0]::rsF)) (by rintro _ _ ⟨_,_,rfl,_⟩; rfl) ?_ ?_
  · refine creg ?_
    refine wl (s_move (et d0) (dt (q10 p2)) ?_)
    refine wl (s_nilck (et (k10 d2)) (dt (q10 p3)) ?_)
    refine wl (s_fa fa75_0 (et (k10 d3)) rfl (dt (q10 p4)) ?_)
    refine wl (s_load ti72 (et (k10 d4)) ((m5 _ hS.a).one d0) (dt (q10 p5)) ?_)
    replace h:=bI h; obtain ⟨x9,g10,h⟩:=h
    obtain ⟨b11,o12,cs13,rfl,f14,m15⟩:=Np.get m4 g10
    obtain ⟨a16,c17,a19,c20,rfl,m18,m21⟩:=m15
    refine wl (s_nilck (et (k10 d5)) (dt (q10 p6)) ?_)
    refine wl (s_fa fa25_0 (et (k10 d6)) rfl (dt (q10 p7)) ?_)
    refine wl (s_load ti22 (et (k10 d7)) ((f14 _ hS.a).one d0) (dt (q10 p8)) ?_)
    refine wl (s_lensl Tryz.underlying22 (et (k10 d8)) (dt (q10 p9)) ?_)
    refine wl (s_gtr (et (k10 d9)) ec (dt (q20 p0)) ?_)
    refine wl (s_move (et (k20 d0)) (dt (q20 p1)) ?_)
    refine wspd (k20 d1) (q20 p1) (q20 p1) (fun h22=>?_) (fun h22=>?_)
    · replace h:=iT h22 h
      refine wn rfl (k20 d1) rfl (dt (q20 p2)) ?_
      refine wn rfl (k20 d1) rfl (dt (q20 p3)) ?_
      refine wn rfl (k20 d1) rfl (dt (q20 p4)) ?_
      refine wn rfl (k20 d1) rfl (dt (q20 p5)) ?_
      refine wn rfl (k20 d1) rfl (dt (q20 p6)) ?_
      refine wn rfl (k20 d1) rfl (dt (q20 p7)) ?_
      refine wn rfl (k20 d1) rfl (dt (q20 p8)) ?_
      refine wn rfl (k20 d1) rfl (dt (q20 p9)) ?_
      refine wn rfl (k20 d1) rfl (dt (q30 p0)) ?_
      refine wl (s_pickt (et (k20 d1)) ec (dt (q30 p1)) ?_)
      refine wnil ?_
      refine xl ?_
      exact ⟨_,_,rfl,(aK10 (aK2 (aO10 (aO9 (aI aZ))))),_,true,rfl,h,Le.r,hS⟩
    · replace h:=iF h22 h
      refine wy rfl (k20 d1) (s_move (et d0) (dt (q20 p2)) ?_)
      refine wy rfl (k20 d1) (s_nilck (et (k20 d2)) (dt (q20 p3)) ?_)
      refine wy rfl (k20 d1) (s_fa fa75_0 (et (k20 d3)) rfl (dt (q20 p4)) ?_)
      refine wy rfl (k20 d1) (s_load ti72 (et (k20 d4)) ((m5 _ hS.a).one d0) (dt (q20 p5)) ?_)
      refine wy rfl (k20 d1) (s_nilck (et (k20 d5)) (dt (q20 p6)) ?_)
      refine wy rfl (k20 d1) (s_fa fa25_1 (et (k20 d6)) rfl (dt (q20 p7)) ?_)
      refine wy rfl (k20 d1) (s_load ti23 (et (k20 d7)) ((f14 _ hS.a).one d1) (dt (q20 p8)) ?_)
      refine wy rfl (k20 d1) (s_lensl Tryz.underlying23 (et (k20 d8)) (dt (q20 p9)) ?_)
      refine wy rfl (k20 d1) (s_gtr (et (k20 d9)) ec (dt (q30 p0)) ?_)
      refine wl (s_pickf (et (k20 d1)) (et (k30 d0)) (dt (q30 p1)) ?_)
      refine wnil ?_
      refine xl ?_
      exact ⟨_,_,rfl,(aK10 (aK2 (aO10 (aO9 (aI aZ))))),_,(decide ((30:Int)<(x9.Units.length:Int))),rfl,h,Le.r,hS⟩
  · rintro _ t w2 ⟨μ1,b8,rfl,h,le23,hS⟩
    unfold vf_form_j1 at h
    refine nrm (mK10 (mK2 (mO10 (mO9 (mi mz))))) ?_
    refine xn ?_
    refine cifb (et (k30 d1)) (fun h24=>?_) (fun h24=>?_)
    · replace h:=iT h24 h
      refine cseq ?_
      refine creg ?_
      refine wl (s_build ti29 pl29 (Fl.o rfl ec rfl rfl p0 Fl.z) (dt (q30 p2)) ?_)
      refine wl (s_storeA ti29 (et d2) (et (k30 d2)) rfl rfl hS d0 rfl p0 dn ?_)
      clear hS; intro w3 hS
      refine wnil ?_
      refine xn ?_
      refine cret ?_
      refine xr ?_
      obtain rfl:=oI h
      refine retN rfl (RVs.s (.a d2 ti29 (hS.blk d0).cells rfl) RVs.z) ?_
      replace hS:=hS.drop Rm.z
      exact ⟨_,rfl,le23,hS⟩
    · replace h:=iF h24 h
      refine cskip ?_
      refine xn ?_
      refine cseq ?_
      refine cseq ?_
      refine creg ?_
      refine wl (s_move (et d0) (dt (q30 p3)) ?_)
      refine wl (s_nilck (et (k30 d3)) (dt (q30 p4)) ?_)
      refine wl (s_fa fa75_0 (et (k30 d4)) rfl (dt (q30 p5)) ?_)
      refine wl (s_load ti72 (et (k30 d5)) ((m5 _ (le23 _ hS.a)).one d0) (dt (q30 p6)) ?_)
      replace h:=bI h; obtain ⟨x25,g26,h⟩:=h
      obtain ⟨b27,o28,cs29,rfl,f30,m31⟩:=Np.get (m4.up le23) g26
      obtain ⟨a32,c33,a35,c36,rfl,m34,m37⟩:=m31
      refine wl (s_nilck (et (k30 d6)) (dt (q30 p7)) ?_)
      refine wl (s_fa fa25_0 (et (k30 d7)) rfl (dt (q30 p8)) ?_)
      refine wl (s_load ti22 (et (k30 d8)) ((f30 _ hS.a).one d0) (dt (q30 p9)) ?_)
      refine wl (s_lensl Tryz.underlying22 (et (k30 d9)) (dt (q40 p0)) ?_)
      refine wl (s_move ec (dt (q40 p1)) ?_)
      refine wnil ?_
      refine xn ?_
      refine cblock ?_
      refine cloopE (rg 3 2++rg 42 21) (by decide +kernel) (fun n m w=>∃ (μx:M) (i55:Int),m=(yK3 (yO2 3 (yK20 (yK10 (yK6 (.i (.int .i64 i55)::(yO20 42 (yO1 62 []))))))))∧vf_form_l1 p_1 x25 n i55=some r∧Le μ1 μx∧Sq μx w0 w (.blk b6 29 [.int .i64 0,.int .i64 0,.int .i64 0]::rsF)) (by rintro _ _ _ ⟨_,_,rfl,_⟩; rfl) _ _ (aK3 (aO2 (aK20 (aK10 (aK6 (aI (aO20 (aO1 aZ)))))))) ⟨_,0,rfl,h,Le.r,hS⟩ ?_
      rintro n_1 _ t w4 ⟨μ2,i55,rfl,h,le73,hS⟩
      cases n_1 with
      | zero=>cases h
      | succ n_1 =>
      unfold vf_form_l1 at h
      refine cnrm (mK3 (mO2 (mK20 (mK10 (mK6 (mi (mO20 (mO1 mz)))))))) ?_
      refine cseq ?_
      refine creg ?_
      refine wl (s_lss (et (k40 d1)) (et (k40 d0)) (dt (q40 p2)) ?_)
      refine wnil ?_
      refine xn ?_
      refine cseq ?_
      refine cifd (et (k40 d2)) (fun h74=>?_) (fun h74=>?_)
      · replace h:=iT h74 h
        refine cskip ?_
        refine xn ?_
        refine cseq ?_
        refine cblock ?_
        refine cseq ?_
        refine creg ?_
        refine wl (s_move (et (k40 d1)) (dt (q40 p3)) ?_)
        replace h:=bI h; obtain ⟨x75,g76,h⟩:=h
        obtain ⟨b77,o78,cs79,e80,f81,m82⟩:=SlR.elem (m34.up le73) g76
        obtain rfl:=m82
        refine wl (s_iax Tryz.underlying22 ti56 (et (k30 d9)) (et (k40 d1)) e80 (dt (q40 p4)) ?_)
        refine wl (s_loads ti56 (et (k40 d4)) (f81 _ hS.a) rfl (dt (q40 p5)) ?_)
        refine wl (s_alloc ti56 hS ?_); clear hS; intro b83 w5 hb84 hS; refine pu (dt p4) ?_
        refine wl (s_assign (et (k40 d3)) (dt p3) ?_)
        refine wl (s_storeA ti56 (et d4) (et (k40 d5)) rfl rfl hS d0 rfl p0 dn ?_)
        clear hS; intro w6 hS
        refine wnil ?_
        refine xn ?_
        refine cseq ?_
        refine cseq ?_
        refine creg ?_
        refine wl (s_fa fa56_0 (et d4) rfl (dt (q40 p6)) ?_)
        refine wl (s_load ti3 (et (k40 d6)) ((hS.blk d0).cell d0) (dt (q40 p7)) ?_)
        replace h:=bI h; obtain ⟨r85,g86,h⟩:=h
        refine wl (s_callv isfn34 ef (e1 (et (k40 d7)) e0) (vf_plain_w (hg.t (le23.t le73)) g86 hS) ?_)
        rintro _ w7 ⟨μ3,rfl,le87,hS⟩
        refine pu (dt (q40 p8)) ?_
        refine wl (s_not (et (k40 d8)) (dt (q40 p9)) ?_)
        refine wnil ?_
        refine xn ?_
        refine cifnb (et (k40 d9)) (fun h88=>?_) (fun h88=>?_)
        · replace h:=iF h88 h
          refine cseq ?_
          refine creg ?_
          refine wl (s_move (et d3) (dt (q50 p0)) ?_)
          refine wl (s_build ti29 pl29 (Fl.o rfl ec rfl rfl p0 (Fl.o rfl (et (k50 d0)) rfl rfl p2 Fl.z)) (dt (q50 p1)) ?_)
          refine wl (s_storeA ti29 (et d2) (et (k50 d1)) rfl rfl hS d1 rfl p1 dn ?_)
          clear hS; intro w8 hS
          refine wnil ?_
          refine xn ?_
          refine cret ?_
          refine (fun h=>xr (br (xr (xr (br (xr h)))))) ?_
          obtain rfl:=oI h
          refine retN rfl (RVs.s (.a d2 ti29 (hS.blk d1).cells rfl) RVs.z) ?_
          replace hS:=hS.drop Rm.z
          replace hS:=hS.drop Rm.z
          exact ⟨_,rfl,(le23.t (le73.t le87)),hS⟩
        · replace h:=iT h88 h
          refine cskip ?_
          refine xn ?_
          refine cseq ?_
          refine ccutE (rg 52 7) (by decide) (fun m w=>∃ (μx:M) (b89:Bool),m=(yK50 (yK2 (yO7 52 (.i (.bool b89)::[]))))∧vf_form_j2 i55 (vf_form_l1 p_1 x25 n_1) b89=some r∧Le μ3 μx∧Sq μx w0 w (.blk b6 29 [.int .i64 0,.int .i64 0,.int .i64 0]::rsF)) (by rintro _ _ ⟨_,_,rfl,_⟩; rfl) ?_ ?_
          · refine creg ?_
            refine wl (s_fa fa56_1 (et d4) rfl (dt (q50 p2)) ?_)
            refine wl (s_load ti3 (et (k50 d2)) ((hS.blk d0).cell d1) (dt (q50 p3)) ?_)
            refine wl (s_lss (et (k50 d3)) ec (dt (q50 p4)) ?_)
            refine wl (s_move (et (k50 d4)) (dt (q50 p5)) ?_)
            refine wspd (k50 d5) (q50 p5) (q50 p5) (fun h90=>?_) (fun h90=>?_)
            · replace h:=iT h90 h
              refine wn rfl (k50 d5) rfl (dt (q50 p6)) ?_
              refine wn rfl (k50 d5) rfl (dt (q50 p7)) ?_
              refine wn rfl (k50 d5) rfl (dt (q50 p8)) ?_
              refine wl (s_pickt (et (k50 d5)) ec (dt (q50 p9)) ?_)
              refine wnil ?_
              refine xl ?_
              replace hS:=hS.drop Rm.z
              exact ⟨_,_,rfl,(aK50 (aK2 (aO7 (aI aZ)))),_,true,rfl,h,Le.r,hS⟩
            · replace h:=iF h90 h
              refine wy rfl (k50 d5) (s_fa fa56_1 (et d4) rfl (dt (q50 p6)) ?_)
              refine wy rfl (k50 d5) (s_load ti3 (et (k50 d6)) ((hS.blk d0).cell d1) (dt (q50 p7)) ?_)
              refine wy rfl (k50 d5) (s_gtr (et (k50 d7)) ec (dt (q50 p8)) ?_)
              refine wl (s_pickf (et (k50 d5)) (et (k50 d8)) (dt (q50 p9)) ?_)
              refine wnil ?_
              refine xl ?_
              replace hS:=hS.drop Rm.z
              exact ⟨_,_,rfl,(aK50 (aK2 (aO7 (aI aZ)))),_,(decide ((20:Int)<x75.Cap)),rfl,h,Le.r,hS⟩
          · rintro _ t w9 ⟨μ4,b89,rfl,h,le91,hS⟩
            unfold vf_form_j2 at h
            refine nrm (mK50 (mK2 (mO7 (mi mz)))) ?_
            refine xn ?_
            refine cifb (et (k50 d9)) (fun h92=>?_) (fun h92=>?_)
            · replace h:=iT h92 h
              refine cseq ?_
              refine creg ?_
              refine wl (s_move (et d3) (dt (q60 p0)) ?_)
              refine wl (s_build ti29 pl29 (Fl.o rfl ec rfl rfl p0 (Fl.o rfl (et (k60 d0)) rfl rfl p2 Fl.z)) (dt (q60 p1)) ?_)
              refine wl (s_storeA ti29 (et d2) (et (k60 d1)) rfl rfl hS d0 rfl p0 dn ?_)
              clear hS; intro w10 hS
              refine wnil ?_
              refine xn ?_
              refine cret ?_
              refine (fun h=>br (xr (xr (br (xr h))))) ?_
              obtain rfl:=oI h
              refine retN rfl (RVs.s (.a d2 ti29 (hS.blk d0).cells rfl) RVs.z) ?_
              replace hS:=hS.drop Rm.z
              exact ⟨_,rfl,(le23.t (le73.t (le87.t le91))),hS⟩
            · replace h:=iF h92 h
              refine cskip ?_
              refine (fun h=>bn (xn h)) ?_
              refine creg ?_
              replace h:=bI h; obtain ⟨i93,g94,h⟩:=h
              refine wl (s_addc (et (k40 d1)) ec g94 (dt (q60 p2)) ?_)
              refine wl (s_move (et (k60 d2)) (dt (q40 p1)) ?_)
              refine wnil ?_
              refine xl ?_
              exact ⟨n_1,_,_,rfl,(aK3 (aO2 (aK20 (aK10 (aK6 (aI (aO20 (aO1 aZ)))))))),⟨_,i93,rfl,h,(le73.t (le87.t le91)),hS⟩,Nat.lt_succ_self _⟩
      · replace h:=iF h74 h
        refine cexit ?_
        refine (fun h=>xe (xe (bh h))) ?_
        refine xn ?_
        refine cseq ?_
        refine creg ?_
        refine wl (s_assign ec (dt p5) ?_)
        refine wnil ?_
        refine xn ?_
        refine cseq ?_
        refine cseq ?_
        refine creg ?_
        refine wl (s_move (et d0) (dt (q60 p3)) ?_)
        refine wl (s_nilck (et (k60 d3)) (dt (q60 p4)) ?_)
        refine wl (s_fa fa75_0 (et (k60 d4)) rfl (dt (q60 p5)) ?_)
        refine wl (s_load ti72 (et (k60 d5)) ((m5 _ ((le23.t le73) _ hS.a)).one d0) (dt (q60 p6)) ?_)
        refine wl (s_nilck (et (k60 d6)) (dt (q60 p7)) ?_)
        refine wl (s_fa fa25_1 (et (k60 d7)) rfl (dt (q60 p8)) ?_)
        refine wl (s_load ti23 (et (k60 d8)) ((f30 _ (le73 _ hS.a)).one d1) (dt (q60 p9)) ?_)
        refine wl (s_lensl Tryz.underlying23 (et (k60 d9)) (dt (q70 p0)) ?_)
        refine wl (s_move ec (dt (q70 p1)) ?_)
        refine wnil ?_
        refine xn ?_
        refine cblock ?_
        refine cloopE (rg 6 6++rg 72 48) (by decide +kernel) (fun n m w=>∃ (μx:M) (i163:Int) (i164:Int),m=(yK5 (.i (.int .i64 i163)::(yO6 6 (yK50 (yK9 (.i (.int .i64 i164)::(yO20 72 (yO20 92 (yO8 112 [])))))))))∧vf_form_l2 p_1 x25 n i163 i164=some r∧Le μ2 μx∧Sq μx w0 w (.blk b6 29 [.int .i64 0,.int .i64 0,.int .i64 0]::rsF)) (by rintro _ _ _ ⟨_,_,_,rfl,_⟩; rfl) _ _ (aK5 (aI (aO6 (aK50 (aK9 (aI (aO20 (aO20 (aO8 aZ))))))))) ⟨_,0,0,rfl,h,Le.r,hS⟩ ?_
        rintro n_2 _ t w11 ⟨μ5,i163,i164,rfl,h,le233,hS⟩
        cases n_2 with
        | zero=>cases h
        | succ n_2 =>
        unfold vf_form_l2 at h
        refine cnrm (mK5 (mi (mO6 (mK50 (mK9 (mi (mO20 (mO20 (mO8 mz))))))))) ?_
        refine cseq ?_
        refine creg ?_
        refine wl (s_lss (et (k70 d1)) (et (k70 d0)) (dt (q70 p2)) ?_)
        refine wnil ?_
        refine xn ?_
        refine cseq ?_
        refine cifd (et (k70 d2)) (fun h234=>?_) (fun h234=>?_)
        · replace h:=iT h234 h
          refine cskip ?_
          refine xn ?_
          refine cseq ?_
          refine cblock ?_
          refine cseq ?_
          refine creg ?_
          refine wl (s_move (et (k70 d1)) (dt (q70 p3)) ?_)
          refine wl (s_assign (et (k70 d3)) (dt p6) ?_)
          refine wnil ?_
          refine xn ?_
          refine cseq ?_
          refine creg ?_
          refine wl (s_move (et d0) (dt (q70 p4)) ?_)
          refine wl (s_nilck (et (k70 d4)) (dt (q70 p5)) ?_)
          refine wl (s_fa fa75_0 (et (k70 d5)) rfl (dt (q70 p6)) ?_)
          refine wl (s_load ti72 (et (k70 d6)) ((m5 _ ((le23.t (le73.t le233)) _ hS.a)).one d0) (dt (q70 p7)) ?_)
          refine wl (s_nilck (et (k70 d7)) (dt (q70 p8)) ?_)
          refine wl (s_fa fa25_1 (et (k70 d8)) rfl (dt (q70 p9)) ?_)
          refine wl (s_load ti23 (et (k70 d9)) ((f30 _ ((le73.t le233) _ hS.a)).one d1) (dt (q80 p0)) ?_)
          refine wl (s_move (et d6) (dt (q80 p1)) ?_)
          replace h:=bI h; obtain ⟨x235,g236,h⟩:=h
          obtain ⟨b237,o238,cs239,e240,f241,m242⟩:=SlR.elem (m37.up (le73.t le233)) g236
          obtain ⟨a243,c244,a246,c247,rfl,m245,m248⟩:=m242
          refine wl (s_iax Tryz.underlying23 ti41 (et (k80 d0)) (et (k80 d1)) e240 (dt (q80 p2)) ?_)
          refine wl (s_assign (et (k80 d2)) (dt p7) ?_)
          refine wnil ?_
          refine xn ?_
          refine cseq ?_
          refine cseq ?_
          refine creg ?_
          refine wl (s_move (et d0) (dt (q80 p3)) ?_)
          refine wl (s_move (et d7) (dt (q80 p4)) ?_)
          replace h:=bI h; obtain ⟨r249,g250,h⟩:=h
          refine wl (s_callv isfn35 ef (e1 (et (k80 d3)) (e1 (et (k80 d4)) e0)) (vf_head_w (hg.t (le23.t (le73.t le233))) (m4.up (le23.t (le73.t le233))) (m5.up (le23.t (le73.t le233))) m245 m248 f241 g250 hS) ?_)
          rintro _ w12 ⟨μ6,rfl,le251,hS⟩
          refine pu (dt (q80 p5)) ?_
          refine wl (s_assign (et (k80 d5)) (dt p8) ?_)
          refine wnil ?_
          refine xn ?_
          refine cseq ?_
          refine creg ?_
          refine wl (s_move (et d8) (dt (q80 p6)) ?_)
          refine wl (s_nei (et (k80 d6)) ec (dt (q80 p7)) ?_)
          refine wnil ?_
          refine xn ?_
          refine cifd (et (k80 d7)) (fun h252=>?_) (fun h252=>?_)
          · replace h:=iT h252 h
            refine cseq ?_
            refine creg ?_
            refine wl (s_move (et d8) (dt (q80 p8)) ?_)
            refine wl (s_move (et d6) (dt (q80 p9)) ?_)
            refine wl (s_build ti29 pl29 (Fl.o rfl (et (k80 d8)) rfl rfl p0 (Fl.o rfl (et (k80 d9)) rfl rfl p1 Fl.z)) (dt (q90 p0)) ?_)
            refine wl (s_storeA ti29 (et d2) (et (k90 d0)) rfl rfl hS d0 rfl p0 dn ?_)
            clear hS; intro w13 hS
            refine wnil ?_
            refine xn ?_
            refine cret ?_
            refine (fun h=>xr (br (xr (xr (br (xr h)))))) ?_
            obtain rfl:=oI h
            refine retN rfl (RVs.s (.a d2 ti29 (hS.blk d0).cells rfl) RVs.z) ?_
            replace hS:=hS.drop Rm.z
            exact ⟨_,rfl,(le23.t (le73.t (le233.t le251))),hS⟩
          · replace h:=iF h252 h
            refine cskip ?_
            refine xn ?_
            refine cseq ?_
            refine cseq ?_
            refine creg ?_
            refine wl (s_move (et d7) (dt (q90 p1)) ?_)
            refine wl (s_nilck (et (k90 d1)) (dt (q90 p2)) ?_)
            refine wl (s_fa fa41_5 (et (k90 d2)) rfl (dt (q90 p3)) ?_)
            refine wl (s_load ti39 (et (k90 d3)) ((f241 _ (le251 _ hS.a)).one d5) (dt (q90 p4)) ?_)
            refine wl (s_lensl Tryz.underlying39 (et (k90 d4)) (dt (q90 p5)) ?_)
            refine wl (s_move ec (dt (q90 p6)) ?_)
            refine wnil ?_
            refine xn ?_
            refine cblock ?_
            refine cloopE (rg 9 3++rg 97 15) (by decide) (fun n m w=>∃ (μx:M) (i268:Int),m=(yK9 (yO3 9 (yK50 (yK20 (yK10 (yK4 (.i (.int .i64 i268)::(yO10 97 (yO5 107 [])))))))))∧vf_form_l3 p_1 i163 i164 x235 (vf_form_l2 p_1 x25 n_2) n i268=some r∧Le μ6 μx∧Sq μx w0 w (.blk b6 29 [.int .i64 0,.int .i64 0,.int .i64 0]::rsF)) (by rintro _ _ _ ⟨_,_,rfl,_⟩; rfl) _ _ (aK9 (aO3 (aK50 (aK20 (aK10 (aK4 (aI (aO10 (aO5 aZ))))))))) ⟨_,0,rfl,h,Le.r,hS⟩ ?_
            rintro n_3 _ t w14 ⟨μ7,i268,rfl,h,le284,hS⟩
            cases n_3 with
            | zero=>cases h
            | succ n_3 =>
            unfold vf_form_l3 at h
            refine cnrm (mK9 (mO3 (mK50 (mK20 (mK10 (mK4 (mi (mO10 (mO5 mz))))))))) ?_
            refine cseq ?_
            refine creg ?_
            refine wl (s_lss (et (k90 d6)) (et (k90 d5)) (dt (q90 p7)) ?_)
            refine wnil ?_
            refine xn ?_
            refine cseq ?_
            refine cifd (et (k90 d7)) (fun h285=>?_) (fun h285=>?_)
            · replace h:=iT h285 h
              refine cskip ?_
              refine xn ?_
              refine cseq ?_
              refine cblock ?_
              refine cseq ?_
              refine creg ?_
              refine wl (s_move (et (k90 d6)) (dt (q90 p8)) ?_)
              replace h:=bI h; obtain ⟨x286,g287,h⟩:=h
              obtain ⟨b288,o289,cs290,e291,f292,m293⟩:=SlR.elem (m248.up (le251.t le284)) g287
              obtain rfl:=m293
              refine wl (s_iax Tryz.underlying39 ti43 (et (k90 d4)) (et (k90 d6)) e291 (dt (q90 p9)) ?_)
              refine wl (s_loads ti43 (et (k90 d9)) (f292 _ hS.a) rfl (dt (q100 p0)) ?_)
              refine wl (s_alloc ti43 hS ?_); clear hS; intro b294 w15 hb295 hS; refine pu (dt (q10 p0)) ?_
              refine wl (s_assign (et (k90 d8)) (dt p9) ?_)
              refine wl (s_storeA ti43 (et (k10 d0)) (et (k100 d0)) rfl rfl hS d0 rfl p0 dn ?_)
              clear hS; intro w16 hS
              refine wnil ?_
              refine xn ?_
              refine cseq ?_
              refine creg ?_
              refine wl (s_move (et d0) (dt (q100 p1)) ?_)
              refine wl (s_move (et d7) (dt (q100 p2)) ?_)
              refine wl (s_loads ti43 (et (k10 d0)) (hS.blk d0).cells rfl (dt (q100 p3)) ?_)
              replace h:=bI h; obtain ⟨r296,g297,h⟩:=h
              refine wl (s_callv isfn36 ef (e1 (et (k100 d1)) (e1 (et (k100 d2)) (e1 (et (k100 d3)) e0))) (vf_instr_w (hg.t (le23.t (le73.t (le233.t (le251.t le284))))) (m4.up (le23.t (le73.t (le233.t (le251.t le284))))) (m5.up (le23.t (le73.t (le233.t (le251.t le284))))) (m245.up (le251.t le284)) (m248.up (le251.t le284)) (f241.up (le251.t le284)) g297 hS) ?_)
              rintro _ w17 ⟨μ8,rfl,le298,hS⟩
              refine pu (dt (q100 p4)) ?_
              refine wl (s_assign (et (k100 d4)) (dt (q10 p1)) ?_)
              refine wnil ?_
              refine xn ?_
              refine cseq ?_
              refine creg ?_
              refine wl (s_move (et (k10 d1)) (dt (q100 p5)) ?_)
              refine wl (s_nei (et (k100 d5)) ec (dt (q100 p6)) ?_)
              refine wnil ?_
              refine xn ?_
              refine cifd (et (k100 d6)) (fun h299=>?_) (fun h299=>?_)
              · replace h:=iT h299 h
                refine cseq ?_
                refine creg ?_
                refine wl (s_move (et (k10 d1)) (dt (q100 p7)) ?_)
                refine wl (s_move (et d6) (dt (q100 p8)) ?_)
                refine wl (s_move (et d9) (dt (q100 p9)) ?_)
                refine wl (s_build ti29 pl29 (Fl.o rfl (et (k100 d7)) rfl rfl p0 (Fl.o rfl (et (k100 d8)) rfl rfl p1 (Fl.o rfl (et (k100 d9)) rfl rfl p2 Fl.z))) (dt (q100 (q10 p0))) ?_)
                refine wl (s_storeA ti29 (et d2) (et (k100 (k10 d0))) rfl rfl hS d1 rfl p1 dn ?_)
                clear hS; intro w18 hS
                refine wnil ?_
                refine xn ?_
                refine cret ?_
                refine (fun h=>br (xr (xr (br (xr (br (xr (xr (br (xr h)))))))))) ?_
                obtain rfl:=oI h
                refine retN rfl (RVs.s (.a d2 ti29 (hS.blk d1).cells rfl) RVs.z) ?_
                replace hS:=hS.drop Rm.z
                replace hS:=hS.drop Rm.z
                exact ⟨_,rfl,(le23.t (le73.t (le233.t (le251.t (le284.t le298))))),hS⟩
              · replace h:=iF h299 h
                refine cskip ?_
                refine (fun h=>bn (xn h)) ?_
                refine creg ?_
                replace h:=bI h; obtain ⟨i300,g301,h⟩:=h
                refine wl (s_addc (et (k90 d6)) ec g301 (dt (q100 (q10 p1))) ?_)
                refine wl (s_move (et (k100 (k10 d1))) (dt (q90 p6)) ?_)
                refine wnil ?_
                refine xl ?_
                replace hS:=hS.drop Rm.z
                exact ⟨n_3,_,_,rfl,(aK9 (aO3 (aK50 (aK20 (aK10 (aK4 (aI (aO10 (aO5 aZ))))))))),⟨_,i300,rfl,h,(le284.t le298),hS⟩,Nat.lt_succ_self _⟩
            · replace h:=iF h285 h
              refine cexit ?_
              refine (fun h=>xe (xe (bh h))) ?_
              refine xn ?_
              refine cseq ?_
              refine creg ?_
              refine wl (s_move (et d7) (dt (q100 (q10 p2))) ?_)
              refine wl (s_nilck (et (k100 (k10 d2))) (dt (q100 (q10 p3))) ?_)
              refine wl (s_fa fa41_0 (et (k100 (k10 d3))) rfl (dt (q100 (q10 p4))) ?_)
              refine wl (s_load ti3 (et (k100 (k10 d4))) ((f241 _ ((le251.t le284) _ hS.a)).one d0) (dt (q100 (q10 p5))) ?_)
              refine wl (s_eqi (et (k100 (k10 d5))) ec (dt (q100 (q10 p6))) ?_)
              refine wnil ?_
              refine xn ?_
              refine cifd (et (k100 (k10 d6))) (fun h302=>?_) (fun h302=>?_)
              · replace h:=iT h302 h
                refine creg ?_
                refine wl (s_move (et d5) (dt (q100 (q10 p7))) ?_)
                replace h:=bI h; obtain ⟨i303,g304,h⟩:=h
                refine wl (s_addc (et (k100 (k10 d7))) ec g304 (dt (q100 (q10 p8))) ?_)
                refine wl (s_assign (et (k100 (k10 d8))) (dt p5) ?_)
                refine wnil ?_
                refine (fun h=>bn (xn h)) ?_
                refine creg ?_
                replace h:=bI h; obtain ⟨i305,g306,h⟩:=h
                refine wl (s_addc (et (k70 d1)) ec g306 (dt (q100 (q10 p9))) ?_)
                refine wl (s_move (et (k100 (k10 d9))) (dt (q70 p1)) ?_)
                refine wnil ?_
                refine xl ?_
                exact ⟨n_2,_,_,rfl,(aK5 (aI (aO6 (aK50 (aK9 (aI (aO20 (aO20 (aO8 aZ))))))))),⟨_,i303,i305,rfl,h,(le233.t (le251.t le284)),hS⟩,Nat.lt_succ_self _⟩
              · replace h:=iF h302 h
                refine cskip ?_
                refine (fun h=>bn (xn h)) ?_
                refine creg ?_
                replace h:=bI h; obtain ⟨i307,g308,h⟩:=h
                refine wl (s_addc (et (k70 d1)) ec g308 (dt (q100 (q10 p9))) ?_)
                refine wl (s_move (et (k100 (k10 d9))) (dt (q70 p1)) ?_)
                refine wnil ?_
                refine xl ?_
                exact ⟨n_2,_,_,rfl,(aK5 (aI (aO6 (aK50 (aK9 (aI (aO20 (aO20 (aO8 aZ))))))))),⟨_,i163,i307,rfl,h,(le233.t (le251.t le284)),hS⟩,Nat.lt_succ_self _⟩
        · replace h:=iF h234 h
          refine cexit ?_
          refine (fun h=>xe (xe (bh h))) ?_
          refine xn ?_
          refine cseq ?_
          refine cseq ?_
          refine creg ?_
          refine wl (s_move (et d5) (dt (q100 (q20 p0))) ?_)
          refine wl (s_eqi (et (k100 (k20 d0))) ec (dt (q100 (q20 p1))) ?_)
          refine wnil ?_
          refine xn ?_
          refine cifd (et (k100 (k20 d1))) (fun h309=>?_) (fun h309=>?_)
          · replace h:=iT h309 h
            refine cseq ?_
            refine creg ?_
            refine wl (s_build ti29 pl29 (Fl.o rfl ec rfl rfl p0 Fl.z) (dt (q100 (q20 p2))) ?_)
            refine wl (s_storeA ti29 (et d2) (et (k100 (k20 d2))) rfl rfl hS d0 rfl p0 dn ?_)
            clear hS; intro w19 hS
            refine wnil ?_
            refine xn ?_
            refine cret ?_
            refine xr ?_
            obtain rfl:=oI h
            refine retN rfl (RVs.s (.a d2 ti29 (hS.blk d0).cells rfl) RVs.z) ?_
            replace hS:=hS.drop Rm.z
            exact ⟨_,rfl,(le23.t (le73.t le233)),hS⟩
          · replace h:=iF h309 h
            refine cskip ?_
            refine xn ?_
            refine cseq ?_
            refine creg ?_
            refine wl (s_build ti29 pl29 Fl.z (dt (q100 (q20 p3))) ?_)
            refine wl (s_storeA ti29 (et d2) (et (k100 (k20 d3))) rfl rfl hS d0 rfl p0 dn ?_)
            clear hS; intro w20 hS
            refine wnil ?_
            refine xn ?_
            refine cret ?_
            obtain rfl:=oI h
            refine retN rfl (RVs.s (.a d2 ti29 (hS.blk d0).cells rfl) RVs.z) ?_
            replace hS:=hS.drop Rm.z
            exact ⟨_,rfl,(le23.t (le73.t le233)),hS⟩
end Go.Proofs.YtppgfpelddpnbaaGreatDoor
