/- Texts of SynJoined Wl. -/
import Derived.Test.YtbdiobhgejmgoaaDoorCMd
import Derived.Test.YtbdiobhgejmgoaaDoorCWb
set_option linter.unusedSimpArgs false
set_option linter.unusedVariables false
set_option linter.unusedSectionVars false
set_option maxRecDepth 100000
set_option maxHeartbeats 20000000
namespace Go.Proofs.YtbdiobhgejmgoaaDoor
open Go.Wk Go.Xt Go.Y
structure SmESound (sf:SmE):Prop where
  sm_expr:∀ {μ0:M} {w0 w:World} {rsF:List Res} (hg:Le Gm μ0) {p_1:TExpr} {a1:Option Addr} {c2:Nat} {p_2:TExpr} {a4:Option Addr} {c5:Nat} {r:Bool} (m3:Sl μ0 a1 c2 p_1.Kids) (m6:Sl μ0 a4 c5 p_2.Kids) (h:sf.sm_expr p_1 p_2=some r) (hS:Sq μ0 w0 w (rsF)),CallsV Tryd.prog 29 [.agg ⟨[.int .i64 p_1.Kind,.int .i64 p_1.N,S p_1.Name,.slice a1 p_1.Kids.length c2]⟩,.agg ⟨[.int .i64 p_2.Kind,.int .i64 p_2.N,S p_2.Name,.slice a4 p_2.Kids.length c5]⟩] w (fun v w'=>∃ (μ':M) ,v=.bool r∧Le μ0 μ'∧Sq μ' w0 w' (rsF))
theorem sm_expr_w {self:SmE} (IH:SmESound self) {μ0:M} {w0 w:World} {rsF:List Res} (hg:Le Gm μ0) {p_1:TExpr} {a1:Option Addr} {c2:Nat} {p_2:TExpr} {a4:Option Addr} {c5:Nat} {r:Bool} (m3:Sl μ0 a1 c2 p_1.Kids) (m6:Sl μ0 a4 c5 p_2.Kids) (h:sm_expr self p_1 p_2=some r) (hS:Sq μ0 w0 w (rsF)):CallsV Tryd.prog 29 [.agg ⟨[.int .i64 p_1.Kind,.int .i64 p_1.N,S p_1.Name,.slice a1 p_1.Kids.length c2]⟩,.agg ⟨[.int .i64 p_2.Kind,.int .i64 p_2.N,S p_2.Name,.slice a4 p_2.Kids.length c5]⟩] w (fun v w'=>∃ (μ':M) ,v=.bool r∧Le μ0 μ'∧Sq μ' w0 w' (rsF)):=by
  unfold sm_expr at h
  refine enter Tryd.func29 rfl (frm:=[_,_,_,_,_,_,_,_,_,_,_,_,_,_,_,_,_,_,_,_,_,_,_,_,_,_,_,_,_,_,_,_,_,_,_,_,_,_,_,_,_,_,_,_,_,_,_,_,_,_,_,_,_]) rfl ?_
  refine cseq ?_
  refine creg ?_
  refine wl (s_box (et d0) rfl hS ?_); clear hS; intro b7 w1 hb8 hS; refine pu (dt p2) ?_
  refine wl (s_box (et d1) rfl hS ?_); clear hS; intro b9 w2 hb10 hS; refine pu (dt p3) ?_
  refine wl (s_assign ec (dt p4) ?_)
  refine wnil ?_
  refine xn ?_
  refine cseq ?_
  refine cseq ?_
  refine ccutE (rg 6 27) (by decide +kernel) (fun m w=>∃ (μx:M) (b11:Bool),m=(yK6 (yO20 6 (yO7 26 (.i (.bool b11)::[]))))∧sm_expr_j1 self p_1 p_2 b11=some r∧Le μ0 μx∧Sq μx w0 w (.blk b7 39 [.int .i64 p_1.Kind,.int .i64 p_1.N,S p_1.Name,.slice a1 p_1.Kids.length c2]::.blk b9 39 [.int .i64 p_2.Kind,.int .i64 p_2.N,S p_2.Name,.slice a4 p_2.Kids.length c5]::rsF)) (by rintro _ _ ⟨_,_,rfl,_⟩; rfl) ?_ ?_
  · refine creg ?_
    refine wl (s_fa fa39_0 (et d2) rfl (dt p6) ?_)
    refine wl (s_load ti3 (et d6) ((hS.blk d1).cell d0) (dt p7) ?_)
    refine wl (s_fa fa39_0 (et d3) rfl (dt p8) ?_)
    refine wl (s_load ti3 (et d8) ((hS.blk d0).cell d0) (dt p9) ?_)
    refine wl (s_nei (et d7) (et d9) (dt (q10 p0)) ?_)
    refine wl (s_move (et (k10 d0)) (dt (q10 p1)) ?_)
    refine wspd (k10 d1) (q10 p1) (q10 p1) (fun h12=>?_) (fun h12=>?_)
    · replace h:=iT h12 h
      refine wn rfl (k10 d1) rfl (dt (q10 p2)) ?_
      refine wn rfl (k10 d1) rfl (dt (q10 p3)) ?_
      refine wn rfl (k10 d1) rfl (dt (q10 p4)) ?_
      refine wn rfl (k10 d1) rfl (dt (q10 p5)) ?_
      refine wn rfl (k10 d1) rfl (dt (q10 p6)) ?_
      refine wl (s_pickt (et (k10 d1)) ec (dt (q10 p7)) ?_)
      refine wl (s_move (et (k10 d7)) (dt (q10 p8)) ?_)
      refine wn rfl (k10 d8) rfl (dt (q10 p9)) ?_
      refine wn rfl (k10 d8) rfl (dt (q20 p0)) ?_
      refine wn rfl (k10 d8) rfl (dt (q20 p1)) ?_
      refine wn rfl (k10 d8) rfl (dt (q20 p2)) ?_
      refine wn rfl (k10 d8) rfl (dt (q20 p3)) ?_
      refine wl (s_pickt (et (k10 d8)) ec (dt (q20 p4)) ?_)
      refine wl (s_move (et (k20 d4)) (dt (q20 p5)) ?_)
      refine wn rfl (k20 d5) rfl (dt (q20 p6)) ?_
      refine wn rfl (k20 d5) rfl (dt (q20 p7)) ?_
      refine wn rfl (k20 d5) rfl (dt (q20 p8)) ?_
      refine wn rfl (k20 d5) rfl (dt (q20 p9)) ?_
      refine wn rfl (k20 d5) rfl (dt (q30 p0)) ?_
      refine wn rfl (k20 d5) rfl (dt (q30 p1)) ?_
      refine wn rfl (k20 d5) rfl (dt (q30 p2)) ?_
      refine wl (s_pickt (et (k20 d5)) ec (dt (q30 p3)) ?_)
      refine wnil ?_
      refine xl ?_
      replace hS:=hS.bg (Bg.s Bg.z)
      exact ⟨_,_,rfl,(aK6 (aO20 (aO7 (aI aZ)))),_,true,rfl,h,Le.r,hS⟩
    · replace h:=iF h12 h
      refine wy rfl (k10 d1) (s_fa fa39_1 (et d2) rfl (dt (q10 p2)) ?_)
      refine wy rfl (k10 d1) (s_load ti2 (et (k10 d2)) ((hS.blk d1).cell d1) (dt (q10 p3)) ?_)
      refine wy rfl (k10 d1) (s_fa fa39_1 (et d3) rfl (dt (q10 p4)) ?_)
      refine wy rfl (k10 d1) (s_load ti2 (et (k10 d4)) ((hS.blk d0).cell d1) (dt (q10 p5)) ?_)
      refine wy rfl (k10 d1) (s_nei (et (k10 d3)) (et (k10 d5)) (dt (q10 p6)) ?_)
      refine wl (s_pickf (et (k10 d1)) (et (k10 d6)) (dt (q10 p7)) ?_)
      refine wl (s_move (et (k10 d7)) (dt (q10 p8)) ?_)
      refine wspd (k10 d8) (q10 p8) (q10 p8) (fun h13=>?_) (fun h13=>?_)
      · replace h:=iT h13 h
        refine wn rfl (k10 d8) rfl (dt (q10 p9)) ?_
        refine wn rfl (k10 d8) rfl (dt (q20 p0)) ?_
        refine wn rfl (k10 d8) rfl (dt (q20 p1)) ?_
        refine wn rfl (k10 d8) rfl (dt (q20 p2)) ?_
        refine wn rfl (k10 d8) rfl (dt (q20 p3)) ?_
        refine wl (s_pickt (et (k10 d8)) ec (dt (q20 p4)) ?_)
        refine wl (s_move (et (k20 d4)) (dt (q20 p5)) ?_)
        refine wn rfl (k20 d5) rfl (dt (q20 p6)) ?_
        refine wn rfl (k20 d5) rfl (dt (q20 p7)) ?_
        refine wn rfl (k20 d5) rfl (dt (q20 p8)) ?_
        refine wn rfl (k20 d5) rfl (dt (q20 p9)) ?_
        refine wn rfl (k20 d5) rfl (dt (q30 p0)) ?_
        refine wn rfl (k20 d5) rfl (dt (q30 p1)) ?_
        refine wn rfl (k20 d5) rfl (dt (q30 p2)) ?_
        refine wl (s_pickt (et (k20 d5)) ec (dt (q30 p3)) ?_)
        refine wnil ?_
        refine xl ?_
        replace hS:=hS.bg (Bg.s Bg.z)
        exact ⟨_,_,rfl,(aK6 (aO20 (aO7 (aI aZ)))),_,true,rfl,h,Le.r,hS⟩
      · replace h:=iF h13 h
        refine wy rfl (k10 d8) (s_fa fa39_2 (et d2) rfl (dt (q10 p9)) ?_)
        refine wy rfl (k10 d8) (s_load ti9 (et (k10 d9)) ((hS.blk d1).cell d2) (dt (q20 p0)) ?_)
        refine wy rfl (k10 d8) (s_fa fa39_2 (et d3) rfl (dt (q20 p1)) ?_)
        refine wy rfl (k10 d8) (s_load ti9 (et (k20 d1)) ((hS.blk d0).cell d2) (dt (q20 p2)) ?_)
        refine wy rfl (k10 d8) (s_nes (et (k20 d0)) (et (k20 d2)) (dt (q20 p3)) ?_)
        refine wl (s_pickf (et (k10 d8)) (et (k20 d3)) (dt (q20 p4)) ?_)
        refine wl (s_move (et (k20 d4)) (dt (q20 p5)) ?_)
        refine wspd (k20 d5) (q20 p5) (q20 p5) (fun h14=>?_) (fun h14=>?_)
        · replace h:=iT h14 h
          refine wn rfl (k20 d5) rfl (dt (q20 p6)) ?_
          refine wn rfl (k20 d5) rfl (dt (q20 p7)) ?_
          refine wn rfl (k20 d5) rfl (dt (q20 p8)) ?_
          refine wn rfl (k20 d5) rfl (dt (q20 p9)) ?_
          refine wn rfl (k20 d5) rfl (dt (q30 p0)) ?_
          refine wn rfl (k20 d5) rfl (dt (q30 p1)) ?_
          refine wn rfl (k20 d5) rfl (dt (q30 p2)) ?_
          refine wl (s_pickt (et (k20 d5)) ec (dt (q30 p3)) ?_)
          refine wnil ?_
          refine xl ?_
          replace hS:=hS.bg (Bg.s Bg.z)
          exact ⟨_,_,rfl,(aK6 (aO20 (aO7 (aI aZ)))),_,true,rfl,h,Le.r,hS⟩
        · replace h:=iF h14 h
          refine wy rfl (k20 d5) (s_fa fa39_3 (et d2) rfl (dt (q20 p6)) ?_)
          refine wy rfl (k20 d5) (s_load ti37 (et (k20 d6)) ((hS.blk d1).cell d3) (dt (q20 p7)) ?_)
          refine wy rfl (k20 d5) (s_lensl Tryd.underlying37 (et (k20 d7)) (dt (q20 p8)) ?_)
          refine wy rfl (k20 d5) (s_fa fa39_3 (et d3) rfl (dt (q20 p9)) ?_)
          refine wy rfl (k20 d5) (s_load ti37 (et (k20 d9)) ((hS.blk d0).cell d3) (dt (q30 p0)) ?_)
          refine wy rfl (k20 d5) (s_lensl Tryd.underlying37 (et (k30 d0)) (dt (q30 p1)) ?_)
          refine wy rfl (k20 d5) (s_nei (et (k20 d8)) (et (k30 d1)) (dt (q30 p2)) ?_)
          refine wl (s_pickf (et (k20 d5)) (et (k30 d2)) (dt (q30 p3)) ?_)
          refine wnil ?_
          refine xl ?_
          replace hS:=hS.bg (Bg.s Bg.z)
          exact ⟨_,_,rfl,(aK6 (aO20 (aO7 (aI aZ)))),_,(decide ((p_1.Kids.length:Int)≠(p_2.Kids.length:Int))),rfl,h,Le.r,hS⟩
  · rintro _ t w3 ⟨μ1,b11,rfl,h,le15,hS⟩
    unfold sm_expr_j1 at h
    refine nrm (mK6 (mO20 (mO7 (mi mz)))) ?_
    refine xn ?_
    refine cifb (et (k30 d3)) (fun h16=>?_) (fun h16=>?_)
    · replace h:=iT h16 h
      refine cseq ?_
      refine creg ?_
      refine wl (s_assign ec (dt p4) ?_)
      refine wnil ?_
      refine xn ?_
      refine cret ?_
      refine xr ?_
      obtain rfl:=oI h
      refine ret1 rfl d4 ?_
      replace hS:=hS.drop Rm.z
      replace hS:=hS.drop Rm.z
      exact ⟨_,rfl,le15,hS⟩
    · replace h:=iF h16 h
      refine cskip ?_
      refine xn ?_
      refine cseq ?_
      refine cseq ?_
      refine creg ?_
      refine wl (s_fa fa39_3 (et d2) rfl (dt (q30 p4)) ?_)
      refine wl (s_load ti37 (et (k30 d4)) ((hS.blk d0).cell d3) (dt (q30 p5)) ?_)
      refine wl (s_lensl Tryd.underlying37 (et (k30 d5)) (dt (q30 p6)) ?_)
      refine wl (s_move ec (dt (q30 p7)) ?_)
      refine wnil ?_
      refine xn ?_
      refine cblock ?_
      refine cloopE (rg 4 2++rg 38 15) (by decide) (fun n m w=>∃ (μx:M) (i44:Int),m=(yK4 (yO2 4 (yK20 (yK10 (yK1 (.i (.int .i64 i44)::(yO10 38 (yO5 48 []))))))))∧sm_expr_l1 self p_1 p_2 n i44=some r∧Le μ1 μx∧Sq μx w0 w (.blk b7 39 [.int .i64 p_1.Kind,.int .i64 p_1.N,S p_1.Name,.slice a1 p_1.Kids.length c2]::.blk b9 39 [.int .i64 p_2.Kind,.int .i64 p_2.N,S p_2.Name,.slice a4 p_2.Kids.length c5]::rsF)) (by rintro _ _ _ ⟨_,_,rfl,_⟩; rfl) _ _ (aK4 (aO2 (aK20 (aK10 (aK1 (aI (aO10 (aO5 aZ)))))))) ⟨_,0,rfl,h,Le.r,hS⟩ ?_
      rintro n_1 _ t w4 ⟨μ2,i44,rfl,h,le72,hS⟩
      cases n_1 with
      | zero=>cases h
      | succ n_1 =>
      unfold sm_expr_l1 at h
      refine cnrm (mK4 (mO2 (mK20 (mK10 (mK1 (mi (mO10 (mO5 mz)))))))) ?_
      refine cseq ?_
      refine creg ?_
      refine wl (s_lss (et (k30 d7)) (et (k30 d6)) (dt (q30 p8)) ?_)
      refine wnil ?_
      refine xn ?_
      refine cseq ?_
      refine cifd (et (k30 d8)) (fun h73=>?_) (fun h73=>?_)
      · replace h:=iT h73 h
        refine cskip ?_
        refine xn ?_
        refine cseq ?_
        refine cblock ?_
        refine cseq ?_
        refine creg ?_
        refine wl (s_move (et (k30 d7)) (dt (q30 p9)) ?_)
        refine wl (s_assign (et (k30 d9)) (dt p5) ?_)
        refine wnil ?_
        refine xn ?_
        refine cseq ?_
        refine cdraw (by kernel_rfl) rfl fun w5 hh_ ho_ ht_ hu_=>?_
        replace hS:=hS.drew hh_ ho_ ht_ hu_
        refine sf_start ?_
        refine sf_pu (i:=0) [0,1,3,4,10,11] (blind_of fun _ _ _ h=>h.2) rfl rfl rfl (u_fa fa39_3 (et d2) rfl) (q40 p0) ?_
        refine sf_rd (i:=1) [1,3,4,10,11] (blind_of fun _ _ _ h=>h.2) rfl rfl rfl (u_load ti37 (et (k40 d0)) ((hS.blk d0).cell d3)) (q40 p1) ?_
        refine sf_pu (i:=2) [2,3,4,10,11] (blind_of fun _ _ _ h=>h.2) rfl rfl rfl (u_move (et d5)) (q40 p2) ?_
        replace h:=bI h; obtain ⟨x74,g75,h⟩:=h
        obtain ⟨b76,o77,cs78,e79,f80,m81⟩:=SlR.elem (m3.up (le15.t le72)) g75
        obtain ⟨a82,c83,rfl,m84⟩:=TExpr.o m81
        refine sf_pu (i:=3) [3,4,10,11] (blind_of fun _ _ _ h=>h.2) rfl rfl rfl (u_iax Tryd.underlying37 ti39 (et (k40 d1)) (et (k40 d2)) e79) (q40 p3) ?_
        refine sf_rd (i:=4) [4,10,11] (blind_of fun _ _ _ h=>h.2) rfl rfl rfl (u_loads ti39 (et (k40 d3)) (f80 _ hS.a) rfl) (q40 p4) ?_
        refine sf_pu (i:=5) [5,6,8,9,10,11] (blind_of fun _ _ _ h=>h.2) rfl rfl rfl (u_fa fa39_3 (et d3) rfl) (q40 p5) ?_
        refine sf_rd (i:=6) [6,8,9,10,11] (blind_of fun _ _ _ h=>h.2) rfl rfl rfl (u_load ti37 (et (k40 d5)) ((hS.blk d1).cell d3)) (q40 p6) ?_
        refine sf_pu (i:=7) [7,8,9,10,11] (blind_of fun _ _ _ h=>h.2) rfl rfl rfl (u_move (et d5)) (q40 p7) ?_
        replace h:=bI h; obtain ⟨x85,g86,h⟩:=h
        obtain ⟨b87,o88,cs89,e90,f91,m92⟩:=SlR.elem (m6.up (le15.t le72)) g86
        obtain ⟨a93,c94,rfl,m95⟩:=TExpr.o m92
        refine sf_pu (i:=8) [8,9,10,11] (blind_of fun _ _ _ h=>h.2) rfl rfl rfl (u_iax Tryd.underlying37 ti39 (et (k40 d6)) (et (k40 d7)) e90) (q40 p8) ?_
        refine sf_rd (i:=9) [9,10,11] (blind_of fun _ _ _ h=>h.2) rfl rfl rfl (u_loads ti39 (et (k40 d8)) (f91 _ hS.a) rfl) (q40 p9) ?_
        replace h:=bI h; obtain ⟨r96,g97,h⟩:=h
        refine sf1 rfl rfl rfl rfl (wn0 rfl) (s_callv isfn29 ef (e1 (et (k40 d4)) (e1 (et (k40 d9)) e0)) (IH.sm_expr (hg.t (le15.t le72)) m84 m95 g97 hS) ?_)
        rintro _ w6 ⟨μ3,rfl,le98,hS⟩
        refine pu (dt (q50 p0)) ?_
        refine ⟨Mons.z,?_⟩
        refine sf_pu (i:=11) [11] (blind_of fun _ _ _ h=>h.2) rfl rfl rfl (u_not (et (k50 d0))) (q50 p1) ?_
        refine sf_nil ?_
        refine xn ?_
        refine cifnb (et (k50 d1)) (fun h99=>?_) (fun h99=>?_)
        · replace h:=iF h99 h
          refine cseq ?_
          refine creg ?_
          refine wl (s_assign ec (dt p4) ?_)
          refine wnil ?_
          refine xn ?_
          refine cret ?_
          refine (fun h=>br (xr (xr (br (xr h))))) ?_
          obtain rfl:=oI h
          refine ret1 rfl d4 ?_
          replace hS:=hS.drop Rm.z
          replace hS:=hS.drop Rm.z
          exact ⟨_,rfl,(le15.t (le72.t le98)),hS⟩
        · replace h:=iT h99 h
          refine cskip ?_
          refine (fun h=>bn (xn h)) ?_
          refine creg ?_
          replace h:=bI h; obtain ⟨i100,g101,h⟩:=h
          refine wl (s_addc (et (k30 d7)) ec g101 (dt (q50 p2)) ?_)
          refine wl (s_move (et (k50 d2)) (dt (q30 p7)) ?_)
          refine wnil ?_
          refine xl ?_
          exact ⟨n_1,_,_,rfl,(aK4 (aO2 (aK20 (aK10 (aK1 (aI (aO10 (aO5 aZ)))))))),⟨_,i100,rfl,h,(le72.t le98),hS⟩,Nat.lt_succ_self _⟩
      · replace h:=iF h73 h
        refine cexit ?_
        refine (fun h=>xe (xe (bh h))) ?_
        refine xn ?_
        refine cseq ?_
        refine creg ?_
        refine wl (s_assign ec (dt p4) ?_)
        refine wnil ?_
        refine xn ?_
        refine cret ?_
        obtain rfl:=oI h
        refine ret1 rfl d4 ?_
        replace hS:=hS.drop Rm.z
        replace hS:=hS.drop Rm.z
        exact ⟨_,rfl,(le15.t le72),hS⟩
theorem SmE_sound:∀ n,SmESound (SmE_run n)
  | 0=>⟨(by intros; rename_i h _; cases h)⟩
  | n+1=>⟨sm_expr_w (SmE_sound n)⟩
structure SmSSound (sf:SmS):Prop where
  sm_stats:∀ {μ0:M} {w0 w:World} {rsF:List Res} (hg:Le Gm μ0) {p_1:List TStat} {a1:Option Addr} {c2:Nat} {p_2:List TStat} {a4:Option Addr} {c5:Nat} {r:Bool} (m3:Sl μ0 a1 c2 p_1) (m6:Sl μ0 a4 c5 p_2) (h:sf.sm_stats p_1 p_2=some r) (hS:Sq μ0 w0 w (rsF)),CallsV Tryd.prog 13 [.slice a1 p_1.length c2,.slice a4 p_2.length c5] w (fun v w'=>∃ (μ':M) ,v=.bool r∧Le μ0 μ'∧Sq μ' w0 w' (rsF))
theorem sm_stats_w {self:SmS} (IH:SmSSound self) {fu:Nat} {μ0:M} {w0 w:World} {rsF:List Res} (hg:Le Gm μ0) {p_1:List TStat} {a1:Option Addr} {c2:Nat} {p_2:List TStat} {a4:Option Addr} {c5:Nat} {r:Bool} (m3:Sl μ0 a1 c2 p_1) (m6:Sl μ0 a4 c5 p_2) (h:sm_stats fu self p_1 p_2=some r) (hS:Sq μ0 w0 w (rsF)):CallsV Tryd.prog 13 [.slice a1 p_1.length c2,.slice a4 p_2.length c5] w (fun v w'=>∃ (μ':M) ,v=.bool r∧Le μ0 μ'∧Sq μ' w0 w' (rsF)):=by
  unfold sm_stats at h
  refine enter Tryd.func13 rfl (frm:=[_,_,_,_,_,_,_,_,_,_,_,_,_,_,_,_,_,_,_,_,_,_,_,_,_,_,_,_,_,_,_,_,_,_,_,_,_,_,_,_,_,_,_,_,_,_,_,_,_,_,_,_,_,_,_,_,_,_,_,_,_,_,_,_,_,_,_,_,_,_,_,_,_,_,_,_,_,_,_,_,_,_,_]) rfl ?_
  refine cseq ?_
  refine creg ?_
  refine wl (s_assign ec (dt p4) ?_)
  refine wnil ?_
  refine xn ?_
  refine cseq ?_
  refine cseq ?_
  refine creg ?_
  refine wl (s_move (et d0) (dt p6) ?_)
  refine wl (s_lensl Tryd.underlying34 (et d6) (dt p7) ?_)
  refine wl (s_move (et d1) (dt p8) ?_)
  refine wl (s_lensl Tryd.underlying34 (et d8) (dt p9) ?_)
  refine wl (s_nei (et d7) (et d9) (dt (q10 p0)) ?_)
  refine wnil ?_
  refine xn ?_
  refine cifd (et (k10 d0)) (fun h7=>?_) (fun h7=>?_)
  · replace h:=iT h7 h
    refine cseq ?_
    refine creg ?_
    refine wl (s_assign ec (dt p4) ?_)
    refine wnil ?_
    refine xn ?_
    refine cret ?_
    refine xr ?_
    obtain rfl:=oI h
    refine ret1 rfl d4 ?_
    exact ⟨_,rfl,Le.r,hS⟩
  · replace h:=iF h7 h
    refine cskip ?_
    refine xn ?_
    refine cseq ?_
    refine cseq ?_
    refine creg ?_
    refine wl (s_move (et d0) (dt (q10 p1)) ?_)
    refine wl (s_lensl Tryd.underlying34 (et (k10 d1)) (dt (q10 p2)) ?_)
    refine wl (s_move ec (dt (q10 p3)) ?_)
    refine wnil ?_
    refine xn ?_
    refine cblock ?_
    refine cloopE (rg 4 2++rg 14 69) (by decide +kernel) (fun n m w=>∃ (μx:M) (i194:Int),m=(yK4 (yO2 4 (yK7 (.i (.int .i64 i194)::(yO50 14 (yO10 64 (yO9 74 [])))))))∧sm_stats_l1 fu self p_1 p_2 n i194=some r∧Le μ0 μx∧Sq μx w0 w (rsF)) (by rintro _ _ _ ⟨_,_,rfl,_⟩; rfl) _ _ (aK4 (aO2 (aK7 (aI (aO50 (aO10 (aO9 aZ))))))) ⟨_,0,rfl,h,Le.r,hS⟩ ?_
    rintro n_1 _ t w1 ⟨μ1,i194,rfl,h,le381,hS⟩
    cases n_1 with
    | zero=>cases h
    | succ n_1 =>
    unfold sm_stats_l1 at h
    refine cnrm (mK4 (mO2 (mK7 (mi (mO50 (mO10 (mO9 mz))))))) ?_
    refine cseq ?_
    refine creg ?_
    refine wl (s_lss (et (k10 d3)) (et (k10 d2)) (dt (q10 p4)) ?_)
    refine wnil ?_
    refine xn ?_
    refine cseq ?_
    refine cifd (et (k10 d4)) (fun h382=>?_) (fun h382=>?_)
    · replace h:=iT h382 h
      refine cskip ?_
      refine xn ?_
      refine cseq ?_
      refine cblock ?_
      refine cseq ?_
      refine creg ?_
      refine wl (s_move (et (k10 d3)) (dt (q10 p5)) ?_)
      refine wl (s_assign (et (k10 d5)) (dt p5) ?_)
      refine wnil ?_
      refine xn ?_
      refine cseq ?_
      refine ccutE (rg 16 65) (by decide +kernel) (fun m w=>∃ (μx:M) (b383:Bool),m=(yK10 (yK6 (yO50 16 (yO10 66 (yO5 76 (.i (.bool b383)::[]))))))∧sm_stats_j1 i194 (sm_stats_l1 fu self p_1 p_2 n_1) b383=some r∧Le μ1 μx∧Sq μx w0 w (rsF)) (by rintro _ _ ⟨_,_,rfl,_⟩; rfl) ?_ ?_
      · refine cdraw (by kernel_rfl) rfl fun w2 hh_ ho_ ht_ hu_=>?_
        replace hS:=hS.drew hh_ ho_ ht_ hu_
        refine sf_start ?_
        refine sf_pu (i:=0) (R':=[1,2,3,4,5,6,7,8,9,10,11,12,13,14,15,16,17,18,19,20,21,22,23,24,25,26,27,28,29,30,31,32,33,34,35,36,37,38,39,40,41,42,43,44,45,46,47,48,49,50,51,52,53,54,55,56,57,58,59,60,61,62,63,64,65]) [0,2,3,4,10,11,12,13,14,15,16,17,18,19,20,21,22,23,24,25,26,27,28,29,30,31,32,33,34,35,36,37,38,39,40,41,42,43,44,45,46,47,48,49,50,51,52,53,54,55,56,57,58,59,60,61,62,63,64,65] (blind_of fun _ _ _ h=>h.2) (by kernel_rfl) (by kernel_rfl) rfl (u_move (et d0)) (q10 p6) ?_
        refine sf_pu (i:=1) (R':=[2,3,4,5,6,7,8,9,10,11,12,13,14,15,16,17,18,19,20,21,22,23,24,25,26,27,28,29,30,31,32,33,34,35,36,37,38,39,40,41,42,43,44,45,46,47,48,49,50,51,52,53,54,55,56,57,58,59,60,61,62,63,64,65]) [1,2,3,4,10,11,12,13,14,15,16,17,18,19,20,21,22,23,24,25,26,27,28,29,30,31,32,33,34,35,36,37,38,39,40,41,42,43,44,45,46,47,48,49,50,51,52,53,54,55,56,57,58,59,60,61,62,63,64,65] (blind_of fun _ _ _ h=>h.2) (by kernel_rfl) (by kernel_rfl) rfl (u_move (et d5)) (q10 p7) ?_
        replace h:=bI h; obtain ⟨x384,g385,h⟩:=h
        obtain ⟨b386,o387,cs388,e389,f390,m391⟩:=SlR.elem (m3.up le381) g385
        obtain ⟨a392,c393,a395,c396,a398,c399,rfl,m394,m397,m400⟩:=TStat.o m391
        refine sf_pu (i:=2) (R':=[3,4,5,6,7,8,9,10,11,12,13,14,15,16,17,18,19,20,21,22,23,24,25,26,27,28,29,30,31,32,33,34,35,36,37,38,39,40,41,42,43,44,45,46,47,48,49,50,51,52,53,54,55,56,57,58,59,60,61,62,63,64,65]) [2,3,4,10,11,12,13,14,15,16,17,18,19,20,21,22,23,24,25,26,27,28,29,30,31,32,33,34,35,36,37,38,39,40,41,42,43,44,45,46,47,48,49,50,51,52,53,54,55,56,57,58,59,60,61,62,63,64,65] (blind_of fun _ _ _ h=>h.2) (by kernel_rfl) (by kernel_rfl) rfl (u_iax Tryd.underlying34 ti41 (et (k10 d6)) (et (k10 d7)) e389) (q10 p8) ?_
        refine sf_pu (i:=3) (R':=[4,5,6,7,8,9,10,11,12,13,14,15,16,17,18,19,20,21,22,23,24,25,26,27,28,29,30,31,32,33,34,35,36,37,38,39,40,41,42,43,44,45,46,47,48,49,50,51,52,53,54,55,56,57,58,59,60,61,62,63,64,65]) [3,4,10,11,12,13,14,15,16,17,18,19,20,21,22,23,24,25,26,27,28,29,30,31,32,33,34,35,36,37,38,39,40,41,42,43,44,45,46,47,48,49,50,51,52,53,54,55,56,57,58,59,60,61,62,63,64,65] (blind_of fun _ _ _ h=>h.2) (by kernel_rfl) (by kernel_rfl) rfl (u_fa fa41_0 (et (k10 d8)) rfl) (q10 p9) ?_
        refine sf_rd (i:=4) (R':=[5,6,7,8,9,10,11,12,13,14,15,16,17,18,19,20,21,22,23,24,25,26,27,28,29,30,31,32,33,34,35,36,37,38,39,40,41,42,43,44,45,46,47,48,49,50,51,52,53,54,55,56,57,58,59,60,61,62,63,64,65]) [4,10,11,12,13,14,15,16,17,18,19,20,21,22,23,24,25,26,27,28,29,30,31,32,33,34,35,36,37,38,39,40,41,42,43,44,45,46,47,48,49,50,51,52,53,54,55,56,57,58,59,60,61,62,63,64,65] (blind_of fun _ _ _ h=>h.2) (by kernel_rfl) (by kernel_rfl) rfl (u_load ti3 (et (k10 d9)) ((f390 _ hS.a).one d0)) (q20 p0) ?_
        refine sf_pu (i:=5) (R':=[6,7,8,9,10,11,12,13,14,15,16,17,18,19,20,21,22,23,24,25,26,27,28,29,30,31,32,33,34,35,36,37,38,39,40,41,42,43,44,45,46,47,48,49,50,51,52,53,54,55,56,57,58,59,60,61,62,63,64,65]) [5,7,8,9,10,11,12,13,14,15,16,17,18,19,20,21,22,23,24,25,26,27,28,29,30,31,32,33,34,35,36,37,38,39,40,41,42,43,44,45,46,47,48,49,50,51,52,53,54,55,56,57,58,59,60,61,62,63,64,65] (blind_of fun _ _ _ h=>h.2) (by kernel_rfl) (by kernel_rfl) rfl (u_move (et d1)) (q20 p1) ?_
        refine sf_pu (i:=6) (R':=[7,8,9,10,11,12,13,14,15,16,17,18,19,20,21,22,23,24,25,26,27,28,29,30,31,32,33,34,35,36,37,38,39,40,41,42,43,44,45,46,47,48,49,50,51,52,53,54,55,56,57,58,59,60,61,62,63,64,65]) [6,7,8,9,10,11,12,13,14,15,16,17,18,19,20,21,22,23,24,25,26,27,28,29,30,31,32,33,34,35,36,37,38,39,40,41,42,43,44,45,46,47,48,49,50,51,52,53,54,55,56,57,58,59,60,61,62,63,64,65] (blind_of fun _ _ _ h=>h.2) (by kernel_rfl) (by kernel_rfl) rfl (u_move (et d5)) (q20 p2) ?_
        replace h:=bI h; obtain ⟨x401,g402,h⟩:=h
        obtain ⟨b403,o404,cs405,e406,f407,m408⟩:=SlR.elem (m6.up le381) g402
        obtain ⟨a409,c410,a412,c413,a415,c416,rfl,m411,m414,m417⟩:=TStat.o m408
        refine sf_pu (i:=7) (R':=[8,9,10,11,12,13,14,15,16,17,18,19,20,21,22,23,24,25,26,27,28,29,30,31,32,33,34,35,36,37,38,39,40,41,42,43,44,45,46,47,48,49,50,51,52,53,54,55,56,57,58,59,60,61,62,63,64,65]) [7,8,9,10,11,12,13,14,15,16,17,18,19,20,21,22,23,24,25,26,27,28,29,30,31,32,33,34,35,36,37,38,39,40,41,42,43,44,45,46,47,48,49,50,51,52,53,54,55,56,57,58,59,60,61,62,63,64,65] (blind_of fun _ _ _ h=>h.2) (by kernel_rfl) (by kernel_rfl) rfl (u_iax Tryd.underlying34 ti41 (et (k20 d1)) (et (k20 d2)) e406) (q20 p3) ?_
        refine sf_pu (i:=8) (R':=[9,10,11,12,13,14,15,16,17,18,19,20,21,22,23,24,25,26,27,28,29,30,31,32,33,34,35,36,37,38,39,40,41,42,43,44,45,46,47,48,49,50,51,52,53,54,55,56,57,58,59,60,61,62,63,64,65]) [8,9,10,11,12,13,14,15,16,17,18,19,20,21,22,23,24,25,26,27,28,29,30,31,32,33,34,35,36,37,38,39,40,41,42,43,44,45,46,47,48,49,50,51,52,53,54,55,56,57,58,59,60,61,62,63,64,65] (blind_of fun _ _ _ h=>h.2) (by kernel_rfl) (by kernel_rfl) rfl (u_fa fa41_0 (et (k20 d3)) rfl) (q20 p4) ?_
        refine sf_rd (i:=9) (R':=[10,11,12,13,14,15,16,17,18,19,20,21,22,23,24,25,26,27,28,29,30,31,32,33,34,35,36,37,38,39,40,41,42,43,44,45,46,47,48,49,50,51,52,53,54,55,56,57,58,59,60,61,62,63,64,65]) [9,10,11,12,13,14,15,16,17,18,19,20,21,22,23,24,25,26,27,28,29,30,31,32,33,34,35,36,37,38,39,40,41,42,43,44,45,46,47,48,49,50,51,52,53,54,55,56,57,58,59,60,61,62,63,64,65] (blind_of fun _ _ _ h=>h.2) (by kernel_rfl) (by kernel_rfl) rfl (u_load ti3 (et (k20 d4)) ((f407 _ hS.a).one d0)) (q20 p5) ?_
        refine sf_pu (i:=10) (R':=[11,12,13,14,15,16,17,18,19,20,21,22,23,24,25,26,27,28,29,30,31,32,33,34,35,36,37,38,39,40,41,42,43,44,45,46,47,48,49,50,51,52,53,54,55,56,57,58,59,60,61,62,63,64,65]) [10,11,12,13,14,15,16,17,18,19,20,21,22,23,24,25,26,27,28,29,30,31,32,33,34,35,36,37,38,39,40,41,42,43,44,45,46,47,48,49,50,51,52,53,54,55,56,57,58,59,60,61,62,63,64,65] (blind_of fun _ _ _ h=>h.2) (by kernel_rfl) (by kernel_rfl) rfl (u_nei (et (k20 d0)) (et (k20 d5))) (q20 p6) ?_
        refine sf_pu (i:=11) (R':=[12,13,14,15,16,17,18,19,20,21,22,23,24,25,26,27,28,29,30,31,32,33,34,35,36,37,38,39,40,41,42,43,44,45,46,47,48,49,50,51,52,53,54,55,56,57,58,59,60,61,62,63,64,65]) [11,12,13,14,15,16,17,18,19,20,21,22,23,24,25,26,27,28,29,30,31,32,33,34,35,36,37,38,39,40,41,42,43,44,45,46,47,48,49,50,51,52,53,54,55,56,57,58,59,60,61,62,63,64,65] (blind_of fun _ _ _ h=>h.2) (by kernel_rfl) (by kernel_rfl) rfl (u_move (et (k20 d6))) (q20 p7) ?_
        refine sfsd (k20 d7) (q20 p7) (q20 p7) (fun h418=>?_) (fun h418=>?_)
        · replace h:=iT h418 h
          refine sf_puN (i:=12) (R':=[13,14,15,16,17,18,19,20,21,22,23,24,25,26,27,28,29,30,31,32,33,34,35,36,37,38,39,40,41,42,43,44,45,46,47,48,49,50,51,52,53,54,55,56,57,58,59,60,61,62,63,64,65]) [12,14,15,16,22,23,24,25,26,27,28,29,30,31,32,33,34,35,36,37,38,39,40,41,42,43,44,45,46,47,48,49,50,51,52,53,54,55,56,57,58,59,60,61,62,63,64,65] (blind_of fun _ _ _ h=>h.2) (by kernel_rfl) (by kernel_rfl) rfl rfl (k20 d7) rfl (q20 p8) ?_
          refine sf_puN (i:=13) (R':=[14,15,16,17,18,19,20,21,22,23,24,25,26,27,28,29,30,31,32,33,34,35,36,37,38,39,40,41,42,43,44,45,46,47,48,49,50,51,52,53,54,55,56,57,58,59,60,61,62,63,64,65]) [13,14,15,16,22,23,24,25,26,27,28,29,30,31,32,33,34,35,36,37,38,39,40,41,42,43,44,45,46,47,48,49,50,51,52,53,54,55,56,57,58,59,60,61,62,63,64,65] (blind_of fun _ _ _ h=>h.2) (by kernel_rfl) (by kernel_rfl) rfl rfl (k20 d7) rfl (q20 p9) ?_
          refine sf_puN (i:=14) (R':=[15,16,17,18,19,20,21,22,23,24,25,26,27,28,29,30,31,32,33,34,35,36,37,38,39,40,41,42,43,44,45,46,47,48,49,50,51,52,53,54,55,56,57,58,59,60,61,62,63,64,65]) [14,15,16,22,23,24,25,26,27,28,29,30,31,32,33,34,35,36,37,38,39,40,41,42,43,44,45,46,47,48,49,50,51,52,53,54,55,56,57,58,59,60,61,62,63,64,65] (blind_of fun _ _ _ h=>h.2) (by kernel_rfl) (by kernel_rfl) rfl rfl (k20 d7) rfl (q30 p0) ?_
          refine sf_puN (i:=15) (R':=[16,17,18,19,20,21,22,23,24,25,26,27,28,29,30,31,32,33,34,35,36,37,38,39,40,41,42,43,44,45,46,47,48,49,50,51,52,53,54,55,56,57,58,59,60,61,62,63,64,65]) [15,16,22,23,24,25,26,27,28,29,30,31,32,33,34,35,36,37,38,39,40,41,42,43,44,45,46,47,48,49,50,51,52,53,54,55,56,57,58,59,60,61,62,63,64,65] (blind_of fun _ _ _ h=>h.2) (by kernel_rfl) (by kernel_rfl) rfl rfl (k20 d7) rfl (q30 p1) ?_
          refine sf_puN (i:=16) (R':=[17,18,19,20,21,22,23,24,25,26,27,28,29,30,31,32,33,34,35,36,37,38,39,40,41,42,43,44,45,46,47,48,49,50,51,52,53,54,55,56,57,58,59,60,61,62,63,64,65]) [16,22,23,24,25,26,27,28,29,30,31,32,33,34,35,36,37,38,39,40,41,42,43,44,45,46,47,48,49,50,51,52,53,54,55,56,57,58,59,60,61,62,63,64,65] (blind_of fun _ _ _ h=>h.2) (by kernel_rfl) (by kernel_rfl) rfl rfl (k20 d7) rfl (q30 p2) ?_
          refine sf_puN (i:=17) (R':=[18,19,20,21,22,23,24,25,26,27,28,29,30,31,32,33,34,35,36,37,38,39,40,41,42,43,44,45,46,47,48,49,50,51,52,53,54,55,56,57,58,59,60,61,62,63,64,65]) [17,19,20,21,22,23,24,25,26,27,28,29,30,31,32,33,34,35,36,37,38,39,40,41,42,43,44,45,46,47,48,49,50,51,52,53,54,55,56,57,58,59,60,61,62,63,64,65] (blind_of fun _ _ _ h=>h.2) (by kernel_rfl) (by kernel_rfl) rfl rfl (k20 d7) rfl (q30 p3) ?_
          refine sf_puN (i:=18) (R':=[19,20,21,22,23,24,25,26,27,28,29,30,31,32,33,34,35,36,37,38,39,40,41,42,43,44,45,46,47,48,49,50,51,52,53,54,55,56,57,58,59,60,61,62,63,64,65]) [18,19,20,21,22,23,24,25,26,27,28,29,30,31,32,33,34,35,36,37,38,39,40,41,42,43,44,45,46,47,48,49,50,51,52,53,54,55,56,57,58,59,60,61,62,63,64,65] (blind_of fun _ _ _ h=>h.2) (by kernel_rfl) (by kernel_rfl) rfl rfl (k20 d7) rfl (q30 p4) ?_
          refine sf_puN (i:=19) (R':=[20,21,22,23,24,25,26,27,28,29,30,31,32,33,34,35,36,37,38,39,40,41,42,43,44,45,46,47,48,49,50,51,52,53,54,55,56,57,58,59,60,61,62,63,64,65]) [19,20,21,22,23,24,25,26,27,28,29,30,31,32,33,34,35,36,37,38,39,40,41,42,43,44,45,46,47,48,49,50,51,52,53,54,55,56,57,58,59,60,61,62,63,64,65] (blind_of fun _ _ _ h=>h.2) (by kernel_rfl) (by kernel_rfl) rfl rfl (k20 d7) rfl (q30 p5) ?_
          refine sf_puN (i:=20) (R':=[21,22,23,24,25,26,27,28,29,30,31,32,33,34,35,36,37,38,39,40,41,42,43,44,45,46,47,48,49,50,51,52,53,54,55,56,57,58,59,60,61,62,63,64,65]) [20,21,22,23,24,25,26,27,28,29,30,31,32,33,34,35,36,37,38,39,40,41,42,43,44,45,46,47,48,49,50,51,52,53,54,55,56,57,58,59,60,61,62,63,64,65] (blind_of fun _ _ _ h=>h.2) (by kernel_rfl) (by kernel_rfl) rfl rfl (k20 d7) rfl (q30 p6) ?_
          refine sf_puN (i:=21) (R':=[22,23,24,25,26,27,28,29,30,31,32,33,34,35,36,37,38,39,40,41,42,43,44,45,46,47,48,49,50,51,52,53,54,55,56,57,58,59,60,61,62,63,64,65]) [21,22,23,24,25,26,27,28,29,30,31,32,33,34,35,36,37,38,39,40,41,42,43,44,45,46,47,48,49,50,51,52,53,54,55,56,57,58,59,60,61,62,63,64,65] (blind_of fun _ _ _ h=>h.2) (by kernel_rfl) (by kernel_rfl) rfl rfl (k20 d7) rfl (q30 p7) ?_
          refine sf_puN (i:=22) (R':=[23,24,25,26,27,28,29,30,31,32,33,34,35,36,37,38,39,40,41,42,43,44,45,46,47,48,49,50,51,52,53,54,55,56,57,58,59,60,61,62,63,64,65]) [22,23,24,25,26,27,28,29,30,31,32,33,34,35,36,37,38,39,40,41,42,43,44,45,46,47,48,49,50,51,52,53,54,55,56,57,58,59,60,61,62,63,64,65] (blind_of fun _ _ _ h=>h.2) (by kernel_rfl) (by kernel_rfl) rfl rfl (k20 d7) rfl (q30 p8) ?_
          refine sf_pu (i:=23) (R':=[24,25,26,27,28,29,30,31,32,33,34,35,36,37,38,39,40,41,42,43,44,45,46,47,48,49,50,51,52,53,54,55,56,57,58,59,60,61,62,63,64,65]) [23,24,25,26,27,28,29,30,31,32,33,34,35,36,37,38,39,40,41,42,43,44,45,46,47,48,49,50,51,52,53,54,55,56,57,58,59,60,61,62,63,64,65] (blind_of fun _ _ _ h=>h.2) (by kernel_rfl) (by kernel_rfl) rfl (u_pickt (et (k20 d7)) ec) (q30 p9) ?_
          refine sf_pu (i:=24) (R':=[25,26,27,28,29,30,31,32,33,34,35,36,37,38,39,40,41,42,43,44,45,46,47,48,49,50,51,52,53,54,55,56,57,58,59,60,61,62,63,64,65]) [24,25,26,27,28,29,30,31,32,33,34,35,36,37,38,39,40,41,42,43,44,45,46,47,48,49,50,51,52,53,54,55,56,57,58,59,60,61,62,63,64,65] (blind_of fun _ _ _ h=>h.2) (by kernel_rfl) (by kernel_rfl) rfl (u_move (et (k30 d9))) (q40 p0) ?_
          refine sf_puN (i:=25) (R':=[26,27,28,29,30,31,32,33,34,35,36,37,38,39,40,41,42,43,44,45,46,47,48,49,50,51,52,53,54,55,56,57,58,59,60,61,62,63,64,65]) [25,27,28,29,35,36,37,38,39,40,41,42,43,44,45,46,47,48,49,50,51,52,53,54,55,56,57,58,59,60,61,62,63,64,65] (blind_of fun _ _ _ h=>h.2) (by kernel_rfl) (by kernel_rfl) rfl rfl (k40 d0) rfl (q40 p1) ?_
          refine sf_puN (i:=26) (R':=[27,28,29,30,31,32,33,34,35,36,37,38,39,40,41,42,43,44,45,46,47,48,49,50,51,52,53,54,55,56,57,58,59,60,61,62,63,64,65]) [26,27,28,29,35,36,37,38,39,40,41,42,43,44,45,46,47,48,49,50,51,52,53,54,55,56,57,58,59,60,61,62,63,64,65] (blind_of fun _ _ _ h=>h.2) (by kernel_rfl) (by kernel_rfl) rfl rfl (k40 d0) rfl (q40 p2) ?_
          refine sf_puN (i:=27) (R':=[28,29,30,31,32,33,34,35,36,37,38,39,40,41,42,43,44,45,46,47,48,49,50,51,52,53,54,55,56,57,58,59,60,61,62,63,64,65]) [27,28,29,35,36,37,38,39,40,41,42,43,44,45,46,47,48,49,50,51,52,53,54,55,56,57,58,59,60,61,62,63,64,65] (blind_of fun _ _ _ h=>h.2) (by kernel_rfl) (by kernel_rfl) rfl rfl (k40 d0) rfl (q40 p3) ?_
          refine sf_puN (i:=28) (R':=[29,30,31,32,33,34,35,36,37,38,39,40,41,42,43,44,45,46,47,48,49,50,51,52,53,54,55,56,57,58,59,60,61,62,63,64,65]) [28,29,35,36,37,38,39,40,41,42,43,44,45,46,47,48,49,50,51,52,53,54,55,56,57,58,59,60,61,62,63,64,65] (blind_of fun _ _ _ h=>h.2) (by kernel_rfl) (by kernel_rfl) rfl rfl (k40 d0) rfl (q40 p4) ?_
          refine sf_puN (i:=29) (R':=[30,31,32,33,34,35,36,37,38,39,40,41,42,43,44,45,46,47,48,49,50,51,52,53,54,55,56,57,58,59,60,61,62,63,64,65]) [29,35,36,37,38,39,40,41,42,43,44,45,46,47,48,49,50,51,52,53,54,55,56,57,58,59,60,61,62,63,64,65] (blind_of fun _ _ _ h=>h.2) (by kernel_rfl) (by kernel_rfl) rfl rfl (k40 d0) rfl (q40 p5) ?_
          refine sf_puN (i:=30) (R':=[31,32,33,34,35,36,37,38,39,40,41,42,43,44,45,46,47,48,49,50,51,52,53,54,55,56,57,58,59,60,61,62,63,64,65]) [30,32,33,34,35,36,37,38,39,40,41,42,43,44,45,46,47,48,49,50,51,52,53,54,55,56,57,58,59,60,61,62,63,64,65] (blind_of fun _ _ _ h=>h.2) (by kernel_rfl) (by kernel_rfl) rfl rfl (k40 d0) rfl (q40 p6) ?_
          refine sf_puN (i:=31) (R':=[32,33,34,35,36,37,38,39,40,41,42,43,44,45,46,47,48,49,50,51,52,53,54,55,56,57,58,59,60,61,62,63,64,65]) [31,32,33,34,35,36,37,38,39,40,41,42,43,44,45,46,47,48,49,50,51,52,53,54,55,56,57,58,59,60,61,62,63,64,65] (blind_of fun _ _ _ h=>h.2) (by kernel_rfl) (by kernel_rfl) rfl rfl (k40 d0) rfl (q40 p7) ?_
          refine sf_puN (i:=32) (R':=[33,34,35,36,37,38,39,40,41,42,43,44,45,46,47,48,49,50,51,52,53,54,55,56,57,58,59,60,61,62,63,64,65]) [32,33,34,35,36,37,38,39,40,41,42,43,44,45,46,47,48,49,50,51,52,53,54,55,56,57,58,59,60,61,62,63,64,65] (blind_of fun _ _ _ h=>h.2) (by kernel_rfl) (by kernel_rfl) rfl rfl (k40 d0) rfl (q40 p8) ?_
          refine sf_puN (i:=33) (R':=[34,35,36,37,38,39,40,41,42,43,44,45,46,47,48,49,50,51,52,53,54,55,56,57,58,59,60,61,62,63,64,65]) [33,34,35,36,37,38,39,40,41,42,43,44,45,46,47,48,49,50,51,52,53,54,55,56,57,58,59,60,61,62,63,64,65] (blind_of fun _ _ _ h=>h.2) (by kernel_rfl) (by kernel_rfl) rfl rfl (k40 d0) rfl (q40 p9) ?_
          refine sf_puN (i:=34) (R':=[35,36,37,38,39,40,41,42,43,44,45,46,47,48,49,50,51,52,53,54,55,56,57,58,59,60,61,62,63,64,65]) [34,35,36,37,38,39,40,41,42,43,44,45,46,47,48,49,50,51,52,53,54,55,56,57,58,59,60,61,62,63,64,65] (blind_of fun _ _ _ h=>h.2) (by kernel_rfl) (by kernel_rfl) rfl rfl (k40 d0) rfl (q50 p0) ?_
          refine sf_puN (i:=35) (R':=[36,37,38,39,40,41,42,43,44,45,46,47,48,49,50,51,52,53,54,55,56,57,58,59,60,61,62,63,64,65]) [35,36,37,38,39,40,41,42,43,44,45,46,47,48,49,50,51,52,53,54,55,56,57,58,59,60,61,62,63,64,65] (blind_of fun _ _ _ h=>h.2) (by kernel_rfl) (by kernel_rfl) rfl rfl (k40 d0) rfl (q50 p1) ?_
          refine sf_puN (i:=36) (R':=[37,38,39,40,41,42,43,44,45,46,47,48,49,50,51,52,53,54,55,56,57,58,59,60,61,62,63,64,65]) [36,37,38,39,40,41,42,43,44,45,46,47,48,49,50,51,52,53,54,55,56,57,58,59,60,61,62,63,64,65] (blind_of fun _ _ _ h=>h.2) (by kernel_rfl) (by kernel_rfl) rfl rfl (k40 d0) rfl (q50 p2) ?_
          refine sf_pu (i:=37) (R':=[38,39,40,41,42,43,44,45,46,47,48,49,50,51,52,53,54,55,56,57,58,59,60,61,62,63,64,65]) [37,38,39,40,41,42,43,44,45,46,47,48,49,50,51,52,53,54,55,56,57,58,59,60,61,62,63,64,65] (blind_of fun _ _ _ h=>h.2) (by kernel_rfl) (by kernel_rfl) rfl (u_pickt (et (k40 d0)) ec) (q50 p3) ?_
          refine sf_pu (i:=38) (R':=[39,40,41,42,43,44,45,46,47,48,49,50,51,52,53,54,55,56,57,58,59,60,61,62,63,64,65]) [38,39,40,41,42,43,44,45,46,47,48,49,50,51,52,53,54,55,56,57,58,59,60,61,62,63,64,65] (blind_of fun _ _ _ h=>h.2) (by kernel_rfl) (by kernel_rfl) rfl (u_move (et (k50 d3))) (q50 p4) ?_
          refine sf_puN (i:=39) (R':=[40,41,42,43,44,45,46,47,48,49,50,51,52,53,54,55,56,57,58,59,60,61,62,63,64,65]) [39,41,42,43,49,50,51,52,53,54,55,56,57,58,59,60,61,62,63,64,65] (blind_of fun _ _ _ h=>h.2) (by kernel_rfl) (by kernel_rfl) rfl rfl (k50 d4) rfl (q50 p5) ?_
          refine sf_puN (i:=40) (R':=[41,42,43,44,45,46,47,48,49,50,51,52,53,54,55,56,57,58,59,60,61,62,63,64,65]) [40,41,42,43,49,50,51,52,53,54,55,56,57,58,59,60,61,62,63,64,65] (blind_of fun _ _ _ h=>h.2) (by kernel_rfl) (by kernel_rfl) rfl rfl (k50 d4) rfl (q50 p6) ?_
          refine sf_puN (i:=41) (R':=[42,43,44,45,46,47,48,49,50,51,52,53,54,55,56,57,58,59,60,61,62,63,64,65]) [41,42,43,49,50,51,52,53,54,55,56,57,58,59,60,61,62,63,64,65] (blind_of fun _ _ _ h=>h.2) (by kernel_rfl) (by kernel_rfl) rfl rfl (k50 d4) rfl (q50 p7) ?_
          refine sf_puN (i:=42) (R':=[43,44,45,46,47,48,49,50,51,52,53,54,55,56,57,58,59,60,61,62,63,64,65]) [42,43,49,50,51,52,53,54,55,56,57,58,59,60,61,62,63,64,65] (blind_of fun _ _ _ h=>h.2) (by kernel_rfl) (by kernel_rfl) rfl rfl (k50 d4) rfl (q50 p8) ?_
          refine sf_puN (i:=43) (R':=[44,45,46,47,48,49,50,51,52,53,54,55,56,57,58,59,60,61,62,63,64,65]) [43,49,50,51,52,53,54,55,56,57,58,59,60,61,62,63,64,65] (blind_of fun _ _ _ h=>h.2) (by kernel_rfl) (by kernel_rfl) rfl rfl (k50 d4) rfl (q50 p9) ?_
          refine sf_puN (i:=44) (R':=[45,46,47,48,49,50,51,52,53,54,55,56,57,58,59,60,61,62,63,64,65]) [44,46,47,48,49,50,51,52,53,54,55,56,57,58,59,60,61,62,63,64,65] (blind_of fun _ _ _ h=>h.2) (by kernel_rfl) (by kernel_rfl) rfl rfl (k50 d4) rfl (q60 p0) ?_
          refine sf_puN (i:=45) (R':=[46,47,48,49,50,51,52,53,54,55,56,57,58,59,60,61,62,63,64,65]) [45,46,47,48,49,50,51,52,53,54,55,56,57,58,59,60,61,62,63,64,65] (blind_of fun _ _ _ h=>h.2) (by kernel_rfl) (by kernel_rfl) rfl rfl (k50 d4) rfl (q60 p1) ?_
          refine sf_puN (i:=46) (R':=[47,48,49,50,51,52,53,54,55,56,57,58,59,60,61,62,63,64,65]) [46,47,48,49,50,51,52,53,54,55,56,57,58,59,60,61,62,63,64,65] (blind_of fun _ _ _ h=>h.2) (by kernel_rfl) (by kernel_rfl) rfl rfl (k50 d4) rfl (q60 p2) ?_
          refine sf_puN (i:=47) (R':=[48,49,50,51,52,53,54,55,56,57,58,59,60,61,62,63,64,65]) [47,48,49,50,51,52,53,54,55,56,57,58,59,60,61,62,63,64,65] (blind_of fun _ _ _ h=>h.2) (by kernel_rfl) (by kernel_rfl) rfl rfl (k50 d4) rfl (q60 p3) ?_
          refine sf_puN (i:=48) (R':=[49,50,51,52,53,54,55,56,57,58,59,60,61,62,63,64,65]) [48,49,50,51,52,53,54,55,56,57,58,59,60,61,62,63,64,65] (blind_of fun _ _ _ h=>h.2) (by kernel_rfl) (by kernel_rfl) rfl rfl (k50 d4) rfl (q60 p4) ?_
          refine sf_puN (i:=49) (R':=[50,51,52,53,54,55,56,57,58,59,60,61,62,63,64,65]) [49,50,51,52,53,54,55,56,57,58,59,60,61,62,63,64,65] (blind_of fun _ _ _ h=>h.2) (by kernel_rfl) (by kernel_rfl) rfl rfl (k50 d4) rfl (q60 p5) ?_
          refine sf_puN (i:=50) (R':=[51,52,53,54,55,56,57,58,59,60,61,62,63,64,65]) [50,51,52,53,54,55,56,57,58,59,60,61,62,63,64,65] (blind_of fun _ _ _ h=>h.2) (by kernel_rfl) (by kernel_rfl) rfl rfl (k50 d4) rfl (q60 p6) ?_
          refine sf_pu (i:=51) (R':=[52,53,54,55,56,57,58,59,60,61,62,63,64,65]) [51,52,53,54,55,56,57,58,59,60,61,62,63,64,65] (blind_of fun _ _ _ h=>h.2) (by kernel_rfl) (by kernel_rfl) rfl (u_pickt (et (k50 d4)) ec) (q60 p7) ?_
          refine sf_pu (i:=52) (R':=[53,54,55,56,57,58,59,60,61,62,63,64,65]) [52,53,54,55,56,57,58,59,60,61,62,63,64,65] (blind_of fun _ _ _ h=>h.2) (by kernel_rfl) (by kernel_rfl) rfl (u_move (et (k60 d7))) (q60 p8) ?_
          refine sf_puN (i:=53) (R':=[54,55,56,57,58,59,60,61,62,63,64,65]) [53,55,56,57,63,64,65] (blind_of fun _ _ _ h=>h.2) (by kernel_rfl) (by kernel_rfl) rfl rfl (k60 d8) rfl (q60 p9) ?_
          refine sf_puN (i:=54) [54,55,56,57,63,64,65] (blind_of fun _ _ _ h=>h.2) rfl rfl rfl rfl (k60 d8) rfl (q70 p0) ?_
          refine sf_puN (i:=55) [55,56,57,63,64,65] (blind_of fun _ _ _ h=>h.2) rfl rfl rfl rfl (k60 d8) rfl (q70 p1) ?_
          refine sf_puN (i:=56) [56,57,63,64,65] (blind_of fun _ _ _ h=>h.2) rfl rfl rfl rfl (k60 d8) rfl (q70 p2) ?_
          refine sf_puN (i:=57) [57,63,64,65] (blind_of fun _ _ _ h=>h.2) rfl rfl rfl rfl (k60 d8) rfl (q70 p3) ?_
          refine sf_puN (i:=58) [58,60,61,62,63,64,65] (blind_of fun _ _ _ h=>h.2) rfl rfl rfl rfl (k60 d8) rfl (q70 p4) ?_
          refine sf_puN (i:=59) [59,60,61,62,63,64,65] (blind_of fun _ _ _ h=>h.2) rfl rfl rfl rfl (k60 d8) rfl (q70 p5) ?_
          refine sf_puN (i:=60) [60,61,62,63,64,65] (blind_of fun _ _ _ h=>h.2) rfl rfl rfl rfl (k60 d8) rfl (q70 p6) ?_
          refine sf_puN (i:=61) [61,62,63,64,65] (blind_of fun _ _ _ h=>h.2) rfl rfl rfl rfl (k60 d8) rfl (q70 p7) ?_
          refine sf_puN (i:=62) [62,63,64,65] (blind_of fun _ _ _ h=>h.2) rfl rfl rfl rfl (k60 d8) rfl (q70 p8) ?_
          refine sf_puN (i:=63) [63,64,65] (blind_of fun _ _ _ h=>h.2) rfl rfl rfl rfl (k60 d8) rfl (q70 p9) ?_
          refine sf_puN (i:=64) [64,65] (blind_of fun _ _ _ h=>h.2) rfl rfl rfl rfl (k60 d8) rfl (q80 p0) ?_
          refine sf_pu (i:=65) [65] (blind_of fun _ _ _ h=>h.2) rfl rfl rfl (u_pickt (et (k60 d8)) ec) (q80 p1) ?_
          refine sf_nil ?_
          refine xl ?_
          exact ⟨_,_,rfl,(aK10 (aK6 (aO50 (aO10 (aO5 (aI aZ)))))),_,true,rfl,h,Le.r,hS⟩
        · replace h:=iF h418 h
          refine sf_puY (i:=12) (R':=[13,14,15,16,17,18,19,20,21,22,23,24,25,26,27,28,29,30,31,32,33,34,35,36,37,38,39,40,41,42,43,44,45,46,47,48,49,50,51,52,53,54,55,56,57,58,59,60,61,62,63,64,65]) [12,14,15,16,22,23,24,25,26,27,28,29,30,31,32,33,34,35,36,37,38,39,40,41,42,43,44,45,46,47,48,49,50,51,52,53,54,55,56,57,58,59,60,61,62,63,64,65] (blind_of fun _ _ _ h=>h.2) (by kernel_rfl) (by kernel_rfl) rfl rfl (k20 d7) (u_move (et d0)) (q20 p8) ?_
          refine sf_puY (i:=13) (R':=[14,15,16,17,18,19,20,21,22,23,24,25,26,27,28,29,30,31,32,33,34,35,36,37,38,39,40,41,42,43,44,45,46,47,48,49,50,51,52,53,54,55,56,57,58,59,60,61,62,63,64,65]) [13,14,15,16,22,23,24,25,26,27,28,29,30,31,32,33,34,35,36,37,38,39,40,41,42,43,44,45,46,47,48,49,50,51,52,53,54,55,56,57,58,59,60,61,62,63,64,65] (blind_of fun _ _ _ h=>h.2) (by kernel_rfl) (by kernel_rfl) rfl rfl (k20 d7) (u_move (et d5)) (q20 p9) ?_
          replace h:=bI h; obtain ⟨x419,g420,h⟩:=h
          obtain ⟨b421,o422,cs423,e424,f425,m426⟩:=SlR.elem (m3.up le381) g420
          obtain ⟨a427,c428,a430,c431,a433,c434,rfl,m429,m432,m435⟩:=TStat.o m426
          refine sf_puY (i:=14) (R':=[15,16,17,18,19,20,21,22,23,24,25,26,27,28,29,30,31,32,33,34,35,36,37,38,39,40,41,42,43,44,45,46,47,48,49,50,51,52,53,54,55,56,57,58,59,60,61,62,63,64,65]) [14,15,16,22,23,24,25,26,27,28,29,30,31,32,33,34,35,36,37,38,39,40,41,42,43,44,45,46,47,48,49,50,51,52,53,54,55,56,57,58,59,60,61,62,63,64,65] (blind_of fun _ _ _ h=>h.2) (by kernel_rfl) (by kernel_rfl) rfl rfl (k20 d7) (u_iax Tryd.underlying34 ti41 (et (k20 d8)) (et (k20 d9)) e424) (q30 p0) ?_
          refine sf_puY (i:=15) (R':=[16,17,18,19,20,21,22,23,24,25,26,27,28,29,30,31,32,33,34,35,36,37,38,39,40,41,42,43,44,45,46,47,48,49,50,51,52,53,54,55,56,57,58,59,60,61,62,63,64,65]) [15,16,22,23,24,25,26,27,28,29,30,31,32,33,34,35,36,37,38,39,40,41,42,43,44,45,46,47,48,49,50,51,52,53,54,55,56,57,58,59,60,61,62,63,64,65] (blind_of fun _ _ _ h=>h.2) (by kernel_rfl) (by kernel_rfl) rfl rfl (k20 d7) (u_fa fa41_1 (et (k30 d0)) rfl) (q30 p1) ?_
          refine sf_rdY (i:=16) (R':=[17,18,19,20,21,22,23,24,25,26,27,28,29,30,31,32,33,34,35,36,37,38,39,40,41,42,43,44,45,46,47,48,49,50,51,52,53,54,55,56,57,58,59,60,61,62,63,64,65]) [16,22,23,24,25,26,27,28,29,30,31,32,33,34,35,36,37,38,39,40,41,42,43,44,45,46,47,48,49,50,51,52,53,54,55,56,57,58,59,60,61,62,63,64,65] (blind_of fun _ _ _ h=>h.2) (by kernel_rfl) (by kernel_rfl) rfl rfl (k20 d7) (u_load ti9 (et (k30 d1)) ((f425 _ hS.a).one d1)) (q30 p2) ?_
          refine sf_puY (i:=17) (R':=[18,19,20,21,22,23,24,25,26,27,28,29,30,31,32,33,34,35,36,37,38,39,40,41,42,43,44,45,46,47,48,49,50,51,52,53,54,55,56,57,58,59,60,61,62,63,64,65]) [17,19,20,21,22,23,24,25,26,27,28,29,30,31,32,33,34,35,36,37,38,39,40,41,42,43,44,45,46,47,48,49,50,51,52,53,54,55,56,57,58,59,60,61,62,63,64,65] (blind_of fun _ _ _ h=>h.2) (by kernel_rfl) (by kernel_rfl) rfl rfl (k20 d7) (u_move (et d1)) (q30 p3) ?_
          refine sf_puY (i:=18) (R':=[19,20,21,22,23,24,25,26,27,28,29,30,31,32,33,34,35,36,37,38,39,40,41,42,43,44,45,46,47,48,49,50,51,52,53,54,55,56,57,58,59,60,61,62,63,64,65]) [18,19,20,21,22,23,24,25,26,27,28,29,30,31,32,33,34,35,36,37,38,39,40,41,42,43,44,45,46,47,48,49,50,51,52,53,54,55,56,57,58,59,60,61,62,63,64,65] (blind_of fun _ _ _ h=>h.2) (by kernel_rfl) (by kernel_rfl) rfl rfl (k20 d7) (u_move (et d5)) (q30 p4) ?_
          replace h:=bI h; obtain ⟨x436,g437,h⟩:=h
          obtain ⟨b438,o439,cs440,e441,f442,m443⟩:=SlR.elem (m6.up le381) g437
          obtain ⟨a444,c445,a447,c448,a450,c451,rfl,m446,m449,m452⟩:=TStat.o m443
          refine sf_puY (i:=19) (R':=[20,21,22,23,24,25,26,27,28,29,30,31,32,33,34,35,36,37,38,39,40,41,42,43,44,45,46,47,48,49,50,51,52,53,54,55,56,57,58,59,60,61,62,63,64,65]) [19,20,21,22,23,24,25,26,27,28,29,30,31,32,33,34,35,36,37,38,39,40,41,42,43,44,45,46,47,48,49,50,51,52,53,54,55,56,57,58,59,60,61,62,63,64,65] (blind_of fun _ _ _ h=>h.2) (by kernel_rfl) (by kernel_rfl) rfl rfl (k20 d7) (u_iax Tryd.underlying34 ti41 (et (k30 d3)) (et (k30 d4)) e441) (q30 p5) ?_
          refine sf_puY (i:=20) (R':=[21,22,23,24,25,26,27,28,29,30,31,32,33,34,35,36,37,38,39,40,41,42,43,44,45,46,47,48,49,50,51,52,53,54,55,56,57,58,59,60,61,62,63,64,65]) [20,21,22,23,24,25,26,27,28,29,30,31,32,33,34,35,36,37,38,39,40,41,42,43,44,45,46,47,48,49,50,51,52,53,54,55,56,57,58,59,60,61,62,63,64,65] (blind_of fun _ _ _ h=>h.2) (by kernel_rfl) (by kernel_rfl) rfl rfl (k20 d7) (u_fa fa41_1 (et (k30 d5)) rfl) (q30 p6) ?_
          refine sf_rdY (i:=21) (R':=[22,23,24,25,26,27,28,29,30,31,32,33,34,35,36,37,38,39,40,41,42,43,44,45,46,47,48,49,50,51,52,53,54,55,56,57,58,59,60,61,62,63,64,65]) [21,22,23,24,25,26,27,28,29,30,31,32,33,34,35,36,37,38,39,40,41,42,43,44,45,46,47,48,49,50,51,52,53,54,55,56,57,58,59,60,61,62,63,64,65] (blind_of fun _ _ _ h=>h.2) (by kernel_rfl) (by kernel_rfl) rfl rfl (k20 d7) (u_load ti9 (et (k30 d6)) ((f442 _ hS.a).one d1)) (q30 p7) ?_
          refine sf_puY (i:=22) (R':=[23,24,25,26,27,28,29,30,31,32,33,34,35,36,37,38,39,40,41,42,43,44,45,46,47,48,49,50,51,52,53,54,55,56,57,58,59,60,61,62,63,64,65]) [22,23,24,25,26,27,28,29,30,31,32,33,34,35,36,37,38,39,40,41,42,43,44,45,46,47,48,49,50,51,52,53,54,55,56,57,58,59,60,61,62,63,64,65] (blind_of fun _ _ _ h=>h.2) (by kernel_rfl) (by kernel_rfl) rfl rfl (k20 d7) (u_nes (et (k30 d2)) (et (k30 d7))) (q30 p8) ?_
          refine sf_pu (i:=23) (R':=[24,25,26,27,28,29,30,31,32,33,34,35,36,37,38,39,40,41,42,43,44,45,46,47,48,49,50,51,52,53,54,55,56,57,58,59,60,61,62,63,64,65]) [23,24,25,26,27,28,29,30,31,32,33,34,35,36,37,38,39,40,41,42,43,44,45,46,47,48,49,50,51,52,53,54,55,56,57,58,59,60,61,62,63,64,65] (blind_of fun _ _ _ h=>h.2) (by kernel_rfl) (by kernel_rfl) rfl (u_pickf (et (k20 d7)) (et (k30 d8))) (q30 p9) ?_
          refine sf_pu (i:=24) (R':=[25,26,27,28,29,30,31,32,33,34,35,36,37,38,39,40,41,42,43,44,45,46,47,48,49,50,51,52,53,54,55,56,57,58,59,60,61,62,63,64,65]) [24,25,26,27,28,29,30,31,32,33,34,35,36,37,38,39,40,41,42,43,44,45,46,47,48,49,50,51,52,53,54,55,56,57,58,59,60,61,62,63,64,65] (blind_of fun _ _ _ h=>h.2) (by kernel_rfl) (by kernel_rfl) rfl (u_move (et (k30 d9))) (q40 p0) ?_
          refine sfsd (k40 d0) (q40 p0) (q40 p0) (fun h453=>?_) (fun h453=>?_)
          · replace h:=iT h453 h
            refine sf_puN (i:=25) (R':=[26,27,28,29,30,31,32,33,34,35,36,37,38,39,40,41,42,43,44,45,46,47,48,49,50,51,52,53,54,55,56,57,58,59,60,61,62,63,64,65]) [25,27,28,29,35,36,37,38,39,40,41,42,43,44,45,46,47,48,49,50,51,52,53,54,55,56,57,58,59,60,61,62,63,64,65] (blind_of fun _ _ _ h=>h.2) (by kernel_rfl) (by kernel_rfl) rfl rfl (k40 d0) rfl (q40 p1) ?_
            refine sf_puN (i:=26) (R':=[27,28,29,30,31,32,33,34,35,36,37,38,39,40,41,42,43,44,45,46,47,48,49,50,51,52,53,54,55,56,57,58,59,60,61,62,63,64,65]) [26,27,28,29,35,36,37,38,39,40,41,42,43,44,45,46,47,48,49,50,51,52,53,54,55,56,57,58,59,60,61,62,63,64,65] (blind_of fun _ _ _ h=>h.2) (by kernel_rfl) (by kernel_rfl) rfl rfl (k40 d0) rfl (q40 p2) ?_
            refine sf_puN (i:=27) (R':=[28,29,30,31,32,33,34,35,36,37,38,39,40,41,42,43,44,45,46,47,48,49,50,51,52,53,54,55,56,57,58,59,60,61,62,63,64,65]) [27,28,29,35,36,37,38,39,40,41,42,43,44,45,46,47,48,49,50,51,52,53,54,55,56,57,58,59,60,61,62,63,64,65] (blind_of fun _ _ _ h=>h.2) (by kernel_rfl) (by kernel_rfl) rfl rfl (k40 d0) rfl (q40 p3) ?_
            refine sf_puN (i:=28) (R':=[29,30,31,32,33,34,35,36,37,38,39,40,41,42,43,44,45,46,47,48,49,50,51,52,53,54,55,56,57,58,59,60,61,62,63,64,65]) [28,29,35,36,37,38,39,40,41,42,43,44,45,46,47,48,49,50,51,52,53,54,55,56,57,58,59,60,61,62,63,64,65] (blind_of fun _ _ _ h=>h.2) (by kernel_rfl) (by kernel_rfl) rfl rfl (k40 d0) rfl (q40 p4) ?_
            refine sf_puN (i:=29) (R':=[30,31,32,33,34,35,36,37,38,39,40,41,42,43,44,45,46,47,48,49,50,51,52,53,54,55,56,57,58,59,60,61,62,63,64,65]) [29,35,36,37,38,39,40,41,42,43,44,45,46,47,48,49,50,51,52,53,54,55,56,57,58,59,60,61,62,63,64,65] (blind_of fun _ _ _ h=>h.2) (by kernel_rfl) (by kernel_rfl) rfl rfl (k40 d0) rfl (q40 p5) ?_
            refine sf_puN (i:=30) (R':=[31,32,33,34,35,36,37,38,39,40,41,42,43,44,45,46,47,48,49,50,51,52,53,54,55,56,57,58,59,60,61,62,63,64,65]) [30,32,33,34,35,36,37,38,39,40,41,42,43,44,45,46,47,48,49,50,51,52,53,54,55,56,57,58,59,60,61,62,63,64,65] (blind_of fun _ _ _ h=>h.2) (by kernel_rfl) (by kernel_rfl) rfl rfl (k40 d0) rfl (q40 p6) ?_
            refine sf_puN (i:=31) (R':=[32,33,34,35,36,37,38,39,40,41,42,43,44,45,46,47,48,49,50,51,52,53,54,55,56,57,58,59,60,61,62,63,64,65]) [31,32,33,34,35,36,37,38,39,40,41,42,43,44,45,46,47,48,49,50,51,52,53,54,55,56,57,58,59,60,61,62,63,64,65] (blind_of fun _ _ _ h=>h.2) (by kernel_rfl) (by kernel_rfl) rfl rfl (k40 d0) rfl (q40 p7) ?_
            refine sf_puN (i:=32) (R':=[33,34,35,36,37,38,39,40,41,42,43,44,45,46,47,48,49,50,51,52,53,54,55,56,57,58,59,60,61,62,63,64,65]) [32,33,34,35,36,37,38,39,40,41,42,43,44,45,46,47,48,49,50,51,52,53,54,55,56,57,58,59,60,61,62,63,64,65] (blind_of fun _ _ _ h=>h.2) (by kernel_rfl) (by kernel_rfl) rfl rfl (k40 d0) rfl (q40 p8) ?_
            refine sf_puN (i:=33) (R':=[34,35,36,37,38,39,40,41,42,43,44,45,46,47,48,49,50,51,52,53,54,55,56,57,58,59,60,61,62,63,64,65]) [33,34,35,36,37,38,39,40,41,42,43,44,45,46,47,48,49,50,51,52,53,54,55,56,57,58,59,60,61,62,63,64,65] (blind_of fun _ _ _ h=>h.2) (by kernel_rfl) (by kernel_rfl) rfl rfl (k40 d0) rfl (q40 p9) ?_
            refine sf_puN (i:=34) (R':=[35,36,37,38,39,40,41,42,43,44,45,46,47,48,49,50,51,52,53,54,55,56,57,58,59,60,61,62,63,64,65]) [34,35,36,37,38,39,40,41,42,43,44,45,46,47,48,49,50,51,52,53,54,55,56,57,58,59,60,61,62,63,64,65] (blind_of fun _ _ _ h=>h.2) (by kernel_rfl) (by kernel_rfl) rfl rfl (k40 d0) rfl (q50 p0) ?_
            refine sf_puN (i:=35) (R':=[36,37,38,39,40,41,42,43,44,45,46,47,48,49,50,51,52,53,54,55,56,57,58,59,60,61,62,63,64,65]) [35,36,37,38,39,40,41,42,43,44,45,46,47,48,49,50,51,52,53,54,55,56,57,58,59,60,61,62,63,64,65] (blind_of fun _ _ _ h=>h.2) (by kernel_rfl) (by kernel_rfl) rfl rfl (k40 d0) rfl (q50 p1) ?_
            refine sf_puN (i:=36) (R':=[37,38,39,40,41,42,43,44,45,46,47,48,49,50,51,52,53,54,55,56,57,58,59,60,61,62,63,64,65]) [36,37,38,39,40,41,42,43,44,45,46,47,48,49,50,51,52,53,54,55,56,57,58,59,60,61,62,63,64,65] (blind_of fun _ _ _ h=>h.2) (by kernel_rfl) (by kernel_rfl) rfl rfl (k40 d0) rfl (q50 p2) ?_
            refine sf_pu (i:=37) (R':=[38,39,40,41,42,43,44,45,46,47,48,49,50,51,52,53,54,55,56,57,58,59,60,61,62,63,64,65]) [37,38,39,40,41,42,43,44,45,46,47,48,49,50,51,52,53,54,55,56,57,58,59,60,61,62,63,64,65] (blind_of fun _ _ _ h=>h.2) (by kernel_rfl) (by kernel_rfl) rfl (u_pickt (et (k40 d0)) ec) (q50 p3) ?_
            refine sf_pu (i:=38) (R':=[39,40,41,42,43,44,45,46,47,48,49,50,51,52,53,54,55,56,57,58,59,60,61,62,63,64,65]) [38,39,40,41,42,43,44,45,46,47,48,49,50,51,52,53,54,55,56,57,58,59,60,61,62,63,64,65] (blind_of fun _ _ _ h=>h.2) (by kernel_rfl) (by kernel_rfl) rfl (u_move (et (k50 d3))) (q50 p4) ?_
            refine sf_puN (i:=39) (R':=[40,41,42,43,44,45,46,47,48,49,50,51,52,53,54,55,56,57,58,59,60,61,62,63,64,65]) [39,41,42,43,49,50,51,52,53,54,55,56,57,58,59,60,61,62,63,64,65] (blind_of fun _ _ _ h=>h.2) (by kernel_rfl) (by kernel_rfl) rfl rfl (k50 d4) rfl (q50 p5) ?_
            refine sf_puN (i:=40) (R':=[41,42,43,44,45,46,47,48,49,50,51,52,53,54,55,56,57,58,59,60,61,62,63,64,65]) [40,41,42,43,49,50,51,52,53,54,55,56,57,58,59,60,61,62,63,64,65] (blind_of fun _ _ _ h=>h.2) (by kernel_rfl) (by kernel_rfl) rfl rfl (k50 d4) rfl (q50 p6) ?_
            refine sf_puN (i:=41) (R':=[42,43,44,45,46,47,48,49,50,51,52,53,54,55,56,57,58,59,60,61,62,63,64,65]) [41,42,43,49,50,51,52,53,54,55,56,57,58,59,60,61,62,63,64,65] (blind_of fun _ _ _ h=>h.2) (by kernel_rfl) (by kernel_rfl) rfl rfl (k50 d4) rfl (q50 p7) ?_
            refine sf_puN (i:=42) (R':=[43,44,45,46,47,48,49,50,51,52,53,54,55,56,57,58,59,60,61,62,63,64,65]) [42,43,49,50,51,52,53,54,55,56,57,58,59,60,61,62,63,64,65] (blind_of fun _ _ _ h=>h.2) (by kernel_rfl) (by kernel_rfl) rfl rfl (k50 d4) rfl (q50 p8) ?_
            refine sf_puN (i:=43) (R':=[44,45,46,47,48,49,50,51,52,53,54,55,56,57,58,59,60,61,62,63,64,65]) [43,49,50,51,52,53,54,55,56,57,58,59,60,61,62,63,64,65] (blind_of fun _ _ _ h=>h.2) (by kernel_rfl) (by kernel_rfl) rfl rfl (k50 d4) rfl (q50 p9) ?_
            refine sf_puN (i:=44) (R':=[45,46,47,48,49,50,51,52,53,54,55,56,57,58,59,60,61,62,63,64,65]) [44,46,47,48,49,50,51,52,53,54,55,56,57,58,59,60,61,62,63,64,65] (blind_of fun _ _ _ h=>h.2) (by kernel_rfl) (by kernel_rfl) rfl rfl (k50 d4) rfl (q60 p0) ?_
            refine sf_puN (i:=45) (R':=[46,47,48,49,50,51,52,53,54,55,56,57,58,59,60,61,62,63,64,65]) [45,46,47,48,49,50,51,52,53,54,55,56,57,58,59,60,61,62,63,64,65] (blind_of fun _ _ _ h=>h.2) (by kernel_rfl) (by kernel_rfl) rfl rfl (k50 d4) rfl (q60 p1) ?_
            refine sf_puN (i:=46) (R':=[47,48,49,50,51,52,53,54,55,56,57,58,59,60,61,62,63,64,65]) [46,47,48,49,50,51,52,53,54,55,56,57,58,59,60,61,62,63,64,65] (blind_of fun _ _ _ h=>h.2) (by kernel_rfl) (by kernel_rfl) rfl rfl (k50 d4) rfl (q60 p2) ?_
            refine sf_puN (i:=47) (R':=[48,49,50,51,52,53,54,55,56,57,58,59,60,61,62,63,64,65]) [47,48,49,50,51,52,53,54,55,56,57,58,59,60,61,62,63,64,65] (blind_of fun _ _ _ h=>h.2) (by kernel_rfl) (by kernel_rfl) rfl rfl (k50 d4) rfl (q60 p3) ?_
            refine sf_puN (i:=48) (R':=[49,50,51,52,53,54,55,56,57,58,59,60,61,62,63,64,65]) [48,49,50,51,52,53,54,55,56,57,58,59,60,61,62,63,64,65] (blind_of fun _ _ _ h=>h.2) (by kernel_rfl) (by kernel_rfl) rfl rfl (k50 d4) rfl (q60 p4) ?_
            refine sf_puN (i:=49) (R':=[50,51,52,53,54,55,56,57,58,59,60,61,62,63,64,65]) [49,50,51,52,53,54,55,56,57,58,59,60,61,62,63,64,65] (blind_of fun _ _ _ h=>h.2) (by kernel_rfl) (by kernel_rfl) rfl rfl (k50 d4) rfl (q60 p5) ?_
            refine sf_puN (i:=50) (R':=[51,52,53,54,55,56,57,58,59,60,61,62,63,64,65]) [50,51,52,53,54,55,56,57,58,59,60,61,62,63,64,65] (blind_of fun _ _ _ h=>h.2) (by kernel_rfl) (by kernel_rfl) rfl rfl (k50 d4) rfl (q60 p6) ?_
            refine sf_pu (i:=51) (R':=[52,53,54,55,56,57,58,59,60,61,62,63,64,65]) [51,52,53,54,55,56,57,58,59,60,61,62,63,64,65] (blind_of fun _ _ _ h=>h.2) (by kernel_rfl) (by kernel_rfl) rfl (u_pickt (et (k50 d4)) ec) (q60 p7) ?_
            refine sf_pu (i:=52) (R':=[53,54,55,56,57,58,59,60,61,62,63,64,65]) [52,53,54,55,56,57,58,59,60,61,62,63,64,65] (blind_of fun _ _ _ h=>h.2) (by kernel_rfl) (by kernel_rfl) rfl (u_move (et (k60 d7))) (q60 p8) ?_
            refine sf_puN (i:=53) (R':=[54,55,56,57,58,59,60,61,62,63,64,65]) [53,55,56,57,63,64,65] (blind_of fun _ _ _ h=>h.2) (by kernel_rfl) (by kernel_rfl) rfl rfl (k60 d8) rfl (q60 p9) ?_
            refine sf_puN (i:=54) [54,55,56,57,63,64,65] (blind_of fun _ _ _ h=>h.2) rfl rfl rfl rfl (k60 d8) rfl (q70 p0) ?_
            refine sf_puN (i:=55) [55,56,57,63,64,65] (blind_of fun _ _ _ h=>h.2) rfl rfl rfl rfl (k60 d8) rfl (q70 p1) ?_
            refine sf_puN (i:=56) [56,57,63,64,65] (blind_of fun _ _ _ h=>h.2) rfl rfl rfl rfl (k60 d8) rfl (q70 p2) ?_
            refine sf_puN (i:=57) [57,63,64,65] (blind_of fun _ _ _ h=>h.2) rfl rfl rfl rfl (k60 d8) rfl (q70 p3) ?_
            refine sf_puN (i:=58) [58,60,61,62,63,64,65] (blind_of fun _ _ _ h=>h.2) rfl rfl rfl rfl (k60 d8) rfl (q70 p4) ?_
            refine sf_puN (i:=59) [59,60,61,62,63,64,65] (blind_of fun _ _ _ h=>h.2) rfl rfl rfl rfl (k60 d8) rfl (q70 p5) ?_
            refine sf_puN (i:=60) [60,61,62,63,64,65] (blind_of fun _ _ _ h=>h.2) rfl rfl rfl rfl (k60 d8) rfl (q70 p6) ?_
            refine sf_puN (i:=61) [61,62,63,64,65] (blind_of fun _ _ _ h=>h.2) rfl rfl rfl rfl (k60 d8) rfl (q70 p7) ?_
            refine sf_puN (i:=62) [62,63,64,65] (blind_of fun _ _ _ h=>h.2) rfl rfl rfl rfl (k60 d8) rfl (q70 p8) ?_
            refine sf_puN (i:=63) [63,64,65] (blind_of fun _ _ _ h=>h.2) rfl rfl rfl rfl (k60 d8) rfl (q70 p9) ?_
            refine sf_puN (i:=64) [64,65] (blind_of fun _ _ _ h=>h.2) rfl rfl rfl rfl (k60 d8) rfl (q80 p0) ?_
            refine sf_pu (i:=65) [65] (blind_of fun _ _ _ h=>h.2) rfl rfl rfl (u_pickt (et (k60 d8)) ec) (q80 p1) ?_
            refine sf_nil ?_
            refine xl ?_
            exact ⟨_,_,rfl,(aK10 (aK6 (aO50 (aO10 (aO5 (aI aZ)))))),_,true,rfl,h,Le.r,hS⟩
          · replace h:=iF h453 h
            refine sf_puY (i:=25) (R':=[26,27,28,29,30,31,32,33,34,35,36,37,38,39,40,41,42,43,44,45,46,47,48,49,50,51,52,53,54,55,56,57,58,59,60,61,62,63,64,65]) [25,27,28,29,35,36,37,38,39,40,41,42,43,44,45,46,47,48,49,50,51,52,53,54,55,56,57,58,59,60,61,62,63,64,65] (blind_of fun _ _ _ h=>h.2) (by kernel_rfl) (by kernel_rfl) rfl rfl (k40 d0) (u_move (et d0)) (q40 p1) ?_
            refine sf_puY (i:=26) (R':=[27,28,29,30,31,32,33,34,35,36,37,38,39,40,41,42,43,44,45,46,47,48,49,50,51,52,53,54,55,56,57,58,59,60,61,62,63,64,65]) [26,27,28,29,35,36,37,38,39,40,41,42,43,44,45,46,47,48,49,50,51,52,53,54,55,56,57,58,59,60,61,62,63,64,65] (blind_of fun _ _ _ h=>h.2) (by kernel_rfl) (by kernel_rfl) rfl rfl (k40 d0) (u_move (et d5)) (q40 p2) ?_
            replace h:=bI h; obtain ⟨x454,g455,h⟩:=h
            obtain ⟨b456,o457,cs458,e459,f460,m461⟩:=SlR.elem (m3.up le381) g455
            obtain ⟨a462,c463,a465,c466,a468,c469,rfl,m464,m467,m470⟩:=TStat.o m461
            refine sf_puY (i:=27) (R':=[28,29,30,31,32,33,34,35,36,37,38,39,40,41,42,43,44,45,46,47,48,49,50,51,52,53,54,55,56,57,58,59,60,61,62,63,64,65]) [27,28,29,35,36,37,38,39,40,41,42,43,44,45,46,47,48,49,50,51,52,53,54,55,56,57,58,59,60,61,62,63,64,65] (blind_of fun _ _ _ h=>h.2) (by kernel_rfl) (by kernel_rfl) rfl rfl (k40 d0) (u_iax Tryd.underlying34 ti41 (et (k40 d1)) (et (k40 d2)) e459) (q40 p3) ?_
            refine sf_puY (i:=28) (R':=[29,30,31,32,33,34,35,36,37,38,39,40,41,42,43,44,45,46,47,48,49,50,51,52,53,54,55,56,57,58,59,60,61,62,63,64,65]) [28,29,35,36,37,38,39,40,41,42,43,44,45,46,47,48,49,50,51,52,53,54,55,56,57,58,59,60,61,62,63,64,65] (blind_of fun _ _ _ h=>h.2) (by kernel_rfl) (by kernel_rfl) rfl rfl (k40 d0) (u_fa fa41_2 (et (k40 d3)) rfl) (q40 p4) ?_
            refine sf_rdY (i:=29) (R':=[30,31,32,33,34,35,36,37,38,39,40,41,42,43,44,45,46,47,48,49,50,51,52,53,54,55,56,57,58,59,60,61,62,63,64,65]) [29,35,36,37,38,39,40,41,42,43,44,45,46,47,48,49,50,51,52,53,54,55,56,57,58,59,60,61,62,63,64,65] (blind_of fun _ _ _ h=>h.2) (by kernel_rfl) (by kernel_rfl) rfl rfl (k40 d0) (u_loads ti39 (et (k40 d4)) ((f460 _ hS.a).sb 2 4) rfl) (q40 p5) ?_
            refine sf_puY (i:=30) (R':=[31,32,33,34,35,36,37,38,39,40,41,42,43,44,45,46,47,48,49,50,51,52,53,54,55,56,57,58,59,60,61,62,63,64,65]) [30,32,33,34,35,36,37,38,39,40,41,42,43,44,45,46,47,48,49,50,51,52,53,54,55,56,57,58,59,60,61,62,63,64,65] (blind_of fun _ _ _ h=>h.2) (by kernel_rfl) (by kernel_rfl) rfl rfl (k40 d0) (u_move (et d1)) (q40 p6) ?_
            refine sf_puY (i:=31) (R':=[32,33,34,35,36,37,38,39,40,41,42,43,44,45,46,47,48,49,50,51,52,53,54,55,56,57,58,59,60,61,62,63,64,65]) [31,32,33,34,35,36,37,38,39,40,41,42,43,44,45,46,47,48,49,50,51,52,53,54,55,56,57,58,59,60,61,62,63,64,65] (blind_of fun _ _ _ h=>h.2) (by kernel_rfl) (by kernel_rfl) rfl rfl (k40 d0) (u_move (et d5)) (q40 p7) ?_
            replace h:=bI h; obtain ⟨x471,g472,h⟩:=h
            obtain ⟨b473,o474,cs475,e476,f477,m478⟩:=SlR.elem (m6.up le381) g472
            obtain ⟨a479,c480,a482,c483,a485,c486,rfl,m481,m484,m487⟩:=TStat.o m478
            refine sf_puY (i:=32) (R':=[33,34,35,36,37,38,39,40,41,42,43,44,45,46,47,48,49,50,51,52,53,54,55,56,57,58,59,60,61,62,63,64,65]) [32,33,34,35,36,37,38,39,40,41,42,43,44,45,46,47,48,49,50,51,52,53,54,55,56,57,58,59,60,61,62,63,64,65] (blind_of fun _ _ _ h=>h.2) (by kernel_rfl) (by kernel_rfl) rfl rfl (k40 d0) (u_iax Tryd.underlying34 ti41 (et (k40 d6)) (et (k40 d7)) e476) (q40 p8) ?_
            refine sf_puY (i:=33) (R':=[34,35,36,37,38,39,40,41,42,43,44,45,46,47,48,49,50,51,52,53,54,55,56,57,58,59,60,61,62,63,64,65]) [33,34,35,36,37,38,39,40,41,42,43,44,45,46,47,48,49,50,51,52,53,54,55,56,57,58,59,60,61,62,63,64,65] (blind_of fun _ _ _ h=>h.2) (by kernel_rfl) (by kernel_rfl) rfl rfl (k40 d0) (u_fa fa41_2 (et (k40 d8)) rfl) (q40 p9) ?_
            refine sf_rdY (i:=34) (R':=[35,36,37,38,39,40,41,42,43,44,45,46,47,48,49,50,51,52,53,54,55,56,57,58,59,60,61,62,63,64,65]) [34,35,36,37,38,39,40,41,42,43,44,45,46,47,48,49,50,51,52,53,54,55,56,57,58,59,60,61,62,63,64,65] (blind_of fun _ _ _ h=>h.2) (by kernel_rfl) (by kernel_rfl) rfl rfl (k40 d0) (u_loads ti39 (et (k40 d9)) ((f477 _ hS.a).sb 2 4) rfl) (q50 p0) ?_
            replace h:=bI h; obtain ⟨r488,g489,h⟩:=h
            refine sf1 rfl rfl rfl rfl (wanted_t rfl rfl (k40 d0)) (s_callv isfn29 ef (e1 (et (k40 d5)) (e1 (et (k50 d0)) e0)) ((SmE_sound fu).sm_expr (hg.t le381) m464 m481 g489 hS) ?_)
            rintro _ w3 ⟨μ2,rfl,le490,hS⟩
            refine pu (dt (q50 p1)) ?_
            refine ⟨Mons.z,?_⟩
            refine sf_puY (i:=36) (R':=[37,38,39,40,41,42,43,44,45,46,47,48,49,50,51,52,53,54,55,56,57,58,59,60,61,62,63,64,65]) [36,37,38,39,40,41,42,43,44,45,46,47,48,49,50,51,52,53,54,55,56,57,58,59,60,61,62,63,64,65] (blind_of fun _ _ _ h=>h.2) (by kernel_rfl) (by kernel_rfl) rfl rfl (k40 d0) (u_not (et (k50 d1))) (q50 p2) ?_
            refine sf_pu (i:=37) (R':=[38,39,40,41,42,43,44,45,46,47,48,49,50,51,52,53,54,55,56,57,58,59,60,61,62,63,64,65]) [37,38,39,40,41,42,43,44,45,46,47,48,49,50,51,52,53,54,55,56,57,58,59,60,61,62,63,64,65] (blind_of fun _ _ _ h=>h.2) (by kernel_rfl) (by kernel_rfl) rfl (u_pickf (et (k40 d0)) (et (k50 d2))) (q50 p3) ?_
            refine sf_pu (i:=38) (R':=[39,40,41,42,43,44,45,46,47,48,49,50,51,52,53,54,55,56,57,58,59,60,61,62,63,64,65]) [38,39,40,41,42,43,44,45,46,47,48,49,50,51,52,53,54,55,56,57,58,59,60,61,62,63,64,65] (blind_of fun _ _ _ h=>h.2) (by kernel_rfl) (by kernel_rfl) rfl (u_move (et (k50 d3))) (q50 p4) ?_
            refine sfsnb (k50 d4) (q50 p4) (q50 p4) (fun h491=>?_) (fun h491=>?_)
            · replace h:=iF h491 h
              refine sf_puN (i:=39) (R':=[40,41,42,43,44,45,46,47,48,49,50,51,52,53,54,55,56,57,58,59,60,61,62,63,64,65]) [39,41,42,43,49,50,51,52,53,54,55,56,57,58,59,60,61,62,63,64,65] (blind_of fun _ _ _ h=>h.2) (by kernel_rfl) (by kernel_rfl) rfl rfl (k50 d4) rfl (q50 p5) ?_
              refine sf_puN (i:=40) (R':=[41,42,43,44,45,46,47,48,49,50,51,52,53,54,55,56,57,58,59,60,61,62,63,64,65]) [40,41,42,43,49,50,51,52,53,54,55,56,57,58,59,60,61,62,63,64,65] (blind_of fun _ _ _ h=>h.2) (by kernel_rfl) (by kernel_rfl) rfl rfl (k50 d4) rfl (q50 p6) ?_
              refine sf_puN (i:=41) (R':=[42,43,44,45,46,47,48,49,50,51,52,53,54,55,56,57,58,59,60,61,62,63,64,65]) [41,42,43,49,50,51,52,53,54,55,56,57,58,59,60,61,62,63,64,65] (blind_of fun _ _ _ h=>h.2) (by kernel_rfl) (by kernel_rfl) rfl rfl (k50 d4) rfl (q50 p7) ?_
              refine sf_puN (i:=42) (R':=[43,44,45,46,47,48,49,50,51,52,53,54,55,56,57,58,59,60,61,62,63,64,65]) [42,43,49,50,51,52,53,54,55,56,57,58,59,60,61,62,63,64,65] (blind_of fun _ _ _ h=>h.2) (by kernel_rfl) (by kernel_rfl) rfl rfl (k50 d4) rfl (q50 p8) ?_
              refine sf_puN (i:=43) (R':=[44,45,46,47,48,49,50,51,52,53,54,55,56,57,58,59,60,61,62,63,64,65]) [43,49,50,51,52,53,54,55,56,57,58,59,60,61,62,63,64,65] (blind_of fun _ _ _ h=>h.2) (by kernel_rfl) (by kernel_rfl) rfl rfl (k50 d4) rfl (q50 p9) ?_
              refine sf_puN (i:=44) (R':=[45,46,47,48,49,50,51,52,53,54,55,56,57,58,59,60,61,62,63,64,65]) [44,46,47,48,49,50,51,52,53,54,55,56,57,58,59,60,61,62,63,64,65] (blind_of fun _ _ _ h=>h.2) (by kernel_rfl) (by kernel_rfl) rfl rfl (k50 d4) rfl (q60 p0) ?_
              refine sf_puN (i:=45) (R':=[46,47,48,49,50,51,52,53,54,55,56,57,58,59,60,61,62,63,64,65]) [45,46,47,48,49,50,51,52,53,54,55,56,57,58,59,60,61,62,63,64,65] (blind_of fun _ _ _ h=>h.2) (by kernel_rfl) (by kernel_rfl) rfl rfl (k50 d4) rfl (q60 p1) ?_
              refine sf_puN (i:=46) (R':=[47,48,49,50,51,52,53,54,55,56,57,58,59,60,61,62,63,64,65]) [46,47,48,49,50,51,52,53,54,55,56,57,58,59,60,61,62,63,64,65] (blind_of fun _ _ _ h=>h.2) (by kernel_rfl) (by kernel_rfl) rfl rfl (k50 d4) rfl (q60 p2) ?_
              refine sf_puN (i:=47) (R':=[48,49,50,51,52,53,54,55,56,57,58,59,60,61,62,63,64,65]) [47,48,49,50,51,52,53,54,55,56,57,58,59,60,61,62,63,64,65] (blind_of fun _ _ _ h=>h.2) (by kernel_rfl) (by kernel_rfl) rfl rfl (k50 d4) rfl (q60 p3) ?_
              refine sf_puN (i:=48) (R':=[49,50,51,52,53,54,55,56,57,58,59,60,61,62,63,64,65]) [48,49,50,51,52,53,54,55,56,57,58,59,60,61,62,63,64,65] (blind_of fun _ _ _ h=>h.2) (by kernel_rfl) (by kernel_rfl) rfl rfl (k50 d4) rfl (q60 p4) ?_
              refine sf_puN (i:=49) (R':=[50,51,52,53,54,55,56,57,58,59,60,61,62,63,64,65]) [49,50,51,52,53,54,55,56,57,58,59,60,61,62,63,64,65] (blind_of fun _ _ _ h=>h.2) (by kernel_rfl) (by kernel_rfl) rfl rfl (k50 d4) rfl (q60 p5) ?_
              refine sf_puN (i:=50) (R':=[51,52,53,54,55,56,57,58,59,60,61,62,63,64,65]) [50,51,52,53,54,55,56,57,58,59,60,61,62,63,64,65] (blind_of fun _ _ _ h=>h.2) (by kernel_rfl) (by kernel_rfl) rfl rfl (k50 d4) rfl (q60 p6) ?_
              refine sf_pu (i:=51) (R':=[52,53,54,55,56,57,58,59,60,61,62,63,64,65]) [51,52,53,54,55,56,57,58,59,60,61,62,63,64,65] (blind_of fun _ _ _ h=>h.2) (by kernel_rfl) (by kernel_rfl) rfl (u_pickt (et (k50 d4)) ec) (q60 p7) ?_
              refine sf_pu (i:=52) (R':=[53,54,55,56,57,58,59,60,61,62,63,64,65]) [52,53,54,55,56,57,58,59,60,61,62,63,64,65] (blind_of fun _ _ _ h=>h.2) (by kernel_rfl) (by kernel_rfl) rfl (u_move (et (k60 d7))) (q60 p8) ?_
              refine sf_puN (i:=53) (R':=[54,55,56,57,58,59,60,61,62,63,64,65]) [53,55,56,57,63,64,65] (blind_of fun _ _ _ h=>h.2) (by kernel_rfl) (by kernel_rfl) rfl rfl (k60 d8) rfl (q60 p9) ?_
              refine sf_puN (i:=54) [54,55,56,57,63,64,65] (blind_of fun _ _ _ h=>h.2) rfl rfl rfl rfl (k60 d8) rfl (q70 p0) ?_
              refine sf_puN (i:=55) [55,56,57,63,64,65] (blind_of fun _ _ _ h=>h.2) rfl rfl rfl rfl (k60 d8) rfl (q70 p1) ?_
              refine sf_puN (i:=56) [56,57,63,64,65] (blind_of fun _ _ _ h=>h.2) rfl rfl rfl rfl (k60 d8) rfl (q70 p2) ?_
              refine sf_puN (i:=57) [57,63,64,65] (blind_of fun _ _ _ h=>h.2) rfl rfl rfl rfl (k60 d8) rfl (q70 p3) ?_
              refine sf_puN (i:=58) [58,60,61,62,63,64,65] (blind_of fun _ _ _ h=>h.2) rfl rfl rfl rfl (k60 d8) rfl (q70 p4) ?_
              refine sf_puN (i:=59) [59,60,61,62,63,64,65] (blind_of fun _ _ _ h=>h.2) rfl rfl rfl rfl (k60 d8) rfl (q70 p5) ?_
              refine sf_puN (i:=60) [60,61,62,63,64,65] (blind_of fun _ _ _ h=>h.2) rfl rfl rfl rfl (k60 d8) rfl (q70 p6) ?_
              refine sf_puN (i:=61) [61,62,63,64,65] (blind_of fun _ _ _ h=>h.2) rfl rfl rfl rfl (k60 d8) rfl (q70 p7) ?_
              refine sf_puN (i:=62) [62,63,64,65] (blind_of fun _ _ _ h=>h.2) rfl rfl rfl rfl (k60 d8) rfl (q70 p8) ?_
              refine sf_puN (i:=63) [63,64,65] (blind_of fun _ _ _ h=>h.2) rfl rfl rfl rfl (k60 d8) rfl (q70 p9) ?_
              refine sf_puN (i:=64) [64,65] (blind_of fun _ _ _ h=>h.2) rfl rfl rfl rfl (k60 d8) rfl (q80 p0) ?_
              refine sf_pu (i:=65) [65] (blind_of fun _ _ _ h=>h.2) rfl rfl rfl (u_pickt (et (k60 d8)) ec) (q80 p1) ?_
              refine sf_nil ?_
              refine xl ?_
              exact ⟨_,_,rfl,(aK10 (aK6 (aO50 (aO10 (aO5 (aI aZ)))))),_,true,rfl,h,le490,hS⟩
            · replace h:=iT h491 h
              refine sf_puY (i:=39) (R':=[40,41,42,43,44,45,46,47,48,49,50,51,52,53,54,55,56,57,58,59,60,61,62,63,64,65]) [39,41,42,43,49,50,51,52,53,54,55,56,57,58,59,60,61,62,63,64,65] (blind_of fun _ _ _ h=>h.2) (by kernel_rfl) (by kernel_rfl) rfl rfl (k50 d4) (u_move (et d0)) (q50 p5) ?_
              refine sf_puY (i:=40) (R':=[41,42,43,44,45,46,47,48,49,50,51,52,53,54,55,56,57,58,59,60,61,62,63,64,65]) [40,41,42,43,49,50,51,52,53,54,55,56,57,58,59,60,61,62,63,64,65] (blind_of fun _ _ _ h=>h.2) (by kernel_rfl) (by kernel_rfl) rfl rfl (k50 d4) (u_move (et d5)) (q50 p6) ?_
              replace h:=bI h; obtain ⟨x492,g493,h⟩:=h
              obtain ⟨b494,o495,cs496,e497,f498,m499⟩:=SlR.elem (m3.up (le381.t le490)) g493
              obtain ⟨a500,c501,a503,c504,a506,c507,rfl,m502,m505,m508⟩:=TStat.o m499
              refine sf_puY (i:=41) (R':=[42,43,44,45,46,47,48,49,50,51,52,53,54,55,56,57,58,59,60,61,62,63,64,65]) [41,42,43,49,50,51,52,53,54,55,56,57,58,59,60,61,62,63,64,65] (blind_of fun _ _ _ h=>h.2) (by kernel_rfl) (by kernel_rfl) rfl rfl (k50 d4) (u_iax Tryd.underlying34 ti41 (et (k50 d5)) (et (k50 d6)) e497) (q50 p7) ?_
              refine sf_puY (i:=42) (R':=[43,44,45,46,47,48,49,50,51,52,53,54,55,56,57,58,59,60,61,62,63,64,65]) [42,43,49,50,51,52,53,54,55,56,57,58,59,60,61,62,63,64,65] (blind_of fun _ _ _ h=>h.2) (by kernel_rfl) (by kernel_rfl) rfl rfl (k50 d4) (u_fa fa41_3 (et (k50 d7)) rfl) (q50 p8) ?_
              refine sf_rdY (i:=43) (R':=[44,45,46,47,48,49,50,51,52,53,54,55,56,57,58,59,60,61,62,63,64,65]) [43,49,50,51,52,53,54,55,56,57,58,59,60,61,62,63,64,65] (blind_of fun _ _ _ h=>h.2) (by kernel_rfl) (by kernel_rfl) rfl rfl (k50 d4) (u_load ti34 (et (k50 d8)) ((f498 _ hS.a).one d6)) (q50 p9) ?_
              refine sf_puY (i:=44) (R':=[45,46,47,48,49,50,51,52,53,54,55,56,57,58,59,60,61,62,63,64,65]) [44,46,47,48,49,50,51,52,53,54,55,56,57,58,59,60,61,62,63,64,65] (blind_of fun _ _ _ h=>h.2) (by kernel_rfl) (by kernel_rfl) rfl rfl (k50 d4) (u_move (et d1)) (q60 p0) ?_
              refine sf_puY (i:=45) (R':=[46,47,48,49,50,51,52,53,54,55,56,57,58,59,60,61,62,63,64,65]) [45,46,47,48,49,50,51,52,53,54,55,56,57,58,59,60,61,62,63,64,65] (blind_of fun _ _ _ h=>h.2) (by kernel_rfl) (by kernel_rfl) rfl rfl (k50 d4) (u_move (et d5)) (q60 p1) ?_
              replace h:=bI h; obtain ⟨x509,g510,h⟩:=h
              obtain ⟨b511,o512,cs513,e514,f515,m516⟩:=SlR.elem (m6.up (le381.t le490)) g510
              obtain ⟨a517,c518,a520,c521,a523,c524,rfl,m519,m522,m525⟩:=TStat.o m516
              refine sf_puY (i:=46) (R':=[47,48,49,50,51,52,53,54,55,56,57,58,59,60,61,62,63,64,65]) [46,47,48,49,50,51,52,53,54,55,56,57,58,59,60,61,62,63,64,65] (blind_of fun _ _ _ h=>h.2) (by kernel_rfl) (by kernel_rfl) rfl rfl (k50 d4) (u_iax Tryd.underlying34 ti41 (et (k60 d0)) (et (k60 d1)) e514) (q60 p2) ?_
              refine sf_puY (i:=47) (R':=[48,49,50,51,52,53,54,55,56,57,58,59,60,61,62,63,64,65]) [47,48,49,50,51,52,53,54,55,56,57,58,59,60,61,62,63,64,65] (blind_of fun _ _ _ h=>h.2) (by kernel_rfl) (by kernel_rfl) rfl rfl (k50 d4) (u_fa fa41_3 (et (k60 d2)) rfl) (q60 p3) ?_
              refine sf_rdY (i:=48) (R':=[49,50,51,52,53,54,55,56,57,58,59,60,61,62,63,64,65]) [48,49,50,51,52,53,54,55,56,57,58,59,60,61,62,63,64,65] (blind_of fun _ _ _ h=>h.2) (by kernel_rfl) (by kernel_rfl) rfl rfl (k50 d4) (u_load ti34 (et (k60 d3)) ((f515 _ hS.a).one d6)) (q60 p4) ?_
              replace h:=bI h; obtain ⟨r526,g527,h⟩:=h
              refine sf1 rfl rfl rfl rfl (wanted_t rfl rfl (k50 d4)) (s_callv isfn13 ef (e1 (et (k50 d9)) (e1 (et (k60 d4)) e0)) (IH.sm_stats (hg.t (le381.t le490)) m505 m522 g527 hS) ?_)
              rintro _ w4 ⟨μ3,rfl,le528,hS⟩
              refine pu (dt (q60 p5)) ?_
              refine ⟨Mons.z,?_⟩
              refine sf_puY (i:=50) (R':=[51,52,53,54,55,56,57,58,59,60,61,62,63,64,65]) [50,51,52,53,54,55,56,57,58,59,60,61,62,63,64,65] (blind_of fun _ _ _ h=>h.2) (by kernel_rfl) (by kernel_rfl) rfl rfl (k50 d4) (u_not (et (k60 d5))) (q60 p6) ?_
              refine sf_pu (i:=51) (R':=[52,53,54,55,56,57,58,59,60,61,62,63,64,65]) [51,52,53,54,55,56,57,58,59,60,61,62,63,64,65] (blind_of fun _ _ _ h=>h.2) (by kernel_rfl) (by kernel_rfl) rfl (u_pickf (et (k50 d4)) (et (k60 d6))) (q60 p7) ?_
              refine sf_pu (i:=52) (R':=[53,54,55,56,57,58,59,60,61,62,63,64,65]) [52,53,54,55,56,57,58,59,60,61,62,63,64,65] (blind_of fun _ _ _ h=>h.2) (by kernel_rfl) (by kernel_rfl) rfl (u_move (et (k60 d7))) (q60 p8) ?_
              refine sfsnb (k60 d8) (q60 p8) (q60 p8) (fun h529=>?_) (fun h529=>?_)
              · replace h:=iF h529 h
                refine sf_puN (i:=53) (R':=[54,55,56,57,58,59,60,61,62,63,64,65]) [53,55,56,57,63,64,65] (blind_of fun _ _ _ h=>h.2) (by kernel_rfl) (by kernel_rfl) rfl rfl (k60 d8) rfl (q60 p9) ?_
                refine sf_puN (i:=54) [54,55,56,57,63,64,65] (blind_of fun _ _ _ h=>h.2) rfl rfl rfl rfl (k60 d8) rfl (q70 p0) ?_
                refine sf_puN (i:=55) [55,56,57,63,64,65] (blind_of fun _ _ _ h=>h.2) rfl rfl rfl rfl (k60 d8) rfl (q70 p1) ?_
                refine sf_puN (i:=56) [56,57,63,64,65] (blind_of fun _ _ _ h=>h.2) rfl rfl rfl rfl (k60 d8) rfl (q70 p2) ?_
                refine sf_puN (i:=57) [57,63,64,65] (blind_of fun _ _ _ h=>h.2) rfl rfl rfl rfl (k60 d8) rfl (q70 p3) ?_
                refine sf_puN (i:=58) [58,60,61,62,63,64,65] (blind_of fun _ _ _ h=>h.2) rfl rfl rfl rfl (k60 d8) rfl (q70 p4) ?_
                refine sf_puN (i:=59) [59,60,61,62,63,64,65] (blind_of fun _ _ _ h=>h.2) rfl rfl rfl rfl (k60 d8) rfl (q70 p5) ?_
                refine sf_puN (i:=60) [60,61,62,63,64,65] (blind_of fun _ _ _ h=>h.2) rfl rfl rfl rfl (k60 d8) rfl (q70 p6) ?_
                refine sf_puN (i:=61) [61,62,63,64,65] (blind_of fun _ _ _ h=>h.2) rfl rfl rfl rfl (k60 d8) rfl (q70 p7) ?_
                refine sf_puN (i:=62) [62,63,64,65] (blind_of fun _ _ _ h=>h.2) rfl rfl rfl rfl (k60 d8) rfl (q70 p8) ?_
                refine sf_puN (i:=63) [63,64,65] (blind_of fun _ _ _ h=>h.2) rfl rfl rfl rfl (k60 d8) rfl (q70 p9) ?_
                refine sf_puN (i:=64) [64,65] (blind_of fun _ _ _ h=>h.2) rfl rfl rfl rfl (k60 d8) rfl (q80 p0) ?_
                refine sf_pu (i:=65) [65] (blind_of fun _ _ _ h=>h.2) rfl rfl rfl (u_pickt (et (k60 d8)) ec) (q80 p1) ?_
                refine sf_nil ?_
                refine xl ?_
                exact ⟨_,_,rfl,(aK10 (aK6 (aO50 (aO10 (aO5 (aI aZ)))))),_,true,rfl,h,(le490.t le528),hS⟩
              · replace h:=iT h529 h
                refine sf_puY (i:=53) (R':=[54,55,56,57,58,59,60,61,62,63,64,65]) [53,55,56,57,63,64,65] (blind_of fun _ _ _ h=>h.2) (by kernel_rfl) (by kernel_rfl) rfl rfl (k60 d8) (u_move (et d0)) (q60 p9) ?_
                refine sf_puY (i:=54) [54,55,56,57,63,64,65] (blind_of fun _ _ _ h=>h.2) rfl rfl rfl rfl (k60 d8) (u_move (et d5)) (q70 p0) ?_
                replace h:=bI h; obtain ⟨x530,g531,h⟩:=h
                obtain ⟨b532,o533,cs534,e535,f536,m537⟩:=SlR.elem (m3.up (le381.t (le490.t le528))) g531
                obtain ⟨a538,c539,a541,c542,a544,c545,rfl,m540,m543,m546⟩:=TStat.o m537
                refine sf_puY (i:=55) [55,56,57,63,64,65] (blind_of fun _ _ _ h=>h.2) rfl rfl rfl rfl (k60 d8) (u_iax Tryd.underlying34 ti41 (et (k60 d9)) (et (k70 d0)) e535) (q70 p1) ?_
                refine sf_puY (i:=56) [56,57,63,64,65] (blind_of fun _ _ _ h=>h.2) rfl rfl rfl rfl (k60 d8) (u_fa fa41_4 (et (k70 d1)) rfl) (q70 p2) ?_
                refine sf_rdY (i:=57) [57,63,64,65] (blind_of fun _ _ _ h=>h.2) rfl rfl rfl rfl (k60 d8) (u_load ti34 (et (k70 d2)) ((f536 _ hS.a).one d7)) (q70 p3) ?_
                refine sf_puY (i:=58) [58,60,61,62,63,64,65] (blind_of fun _ _ _ h=>h.2) rfl rfl rfl rfl (k60 d8) (u_move (et d1)) (q70 p4) ?_
                refine sf_puY (i:=59) [59,60,61,62,63,64,65] (blind_of fun _ _ _ h=>h.2) rfl rfl rfl rfl (k60 d8) (u_move (et d5)) (q70 p5) ?_
                replace h:=bI h; obtain ⟨x547,g548,h⟩:=h
                obtain ⟨b549,o550,cs551,e552,f553,m554⟩:=SlR.elem (m6.up (le381.t (le490.t le528))) g548
                obtain ⟨a555,c556,a558,c559,a561,c562,rfl,m557,m560,m563⟩:=TStat.o m554
                refine sf_puY (i:=60) [60,61,62,63,64,65] (blind_of fun _ _ _ h=>h.2) rfl rfl rfl rfl (k60 d8) (u_iax Tryd.underlying34 ti41 (et (k70 d4)) (et (k70 d5)) e552) (q70 p6) ?_
                refine sf_puY (i:=61) [61,62,63,64,65] (blind_of fun _ _ _ h=>h.2) rfl rfl rfl rfl (k60 d8) (u_fa fa41_4 (et (k70 d6)) rfl) (q70 p7) ?_
                refine sf_rdY (i:=62) [62,63,64,65] (blind_of fun _ _ _ h=>h.2) rfl rfl rfl rfl (k60 d8) (u_load ti34 (et (k70 d7)) ((f553 _ hS.a).one d7)) (q70 p8) ?_
                replace h:=bI h; obtain ⟨r564,g565,h⟩:=h
                refine sf1 rfl rfl rfl rfl (wanted_t rfl rfl (k60 d8)) (s_callv isfn13 ef (e1 (et (k70 d3)) (e1 (et (k70 d8)) e0)) (IH.sm_stats (hg.t (le381.t (le490.t le528))) m546 m563 g565 hS) ?_)
                rintro _ w5 ⟨μ4,rfl,le566,hS⟩
                refine pu (dt (q70 p9)) ?_
                refine ⟨Mons.z,?_⟩
                refine sf_puY (i:=64) [64,65] (blind_of fun _ _ _ h=>h.2) rfl rfl rfl rfl (k60 d8) (u_not (et (k70 d9))) (q80 p0) ?_
                refine sf_pu (i:=65) [65] (blind_of fun _ _ _ h=>h.2) rfl rfl rfl (u_pickf (et (k60 d8)) (et (k80 d0))) (q80 p1) ?_
                refine sf_nil ?_
                refine xl ?_
                exact ⟨_,_,rfl,(aK10 (aK6 (aO50 (aO10 (aO5 (aI aZ)))))),_,(!r564),rfl,h,(le490.t (le528.t le566)),hS⟩
      · rintro _ t w6 ⟨μ5,b383,rfl,h,le567,hS⟩
        unfold sm_stats_j1 at h
        refine nrm (mK10 (mK6 (mO50 (mO10 (mO5 (mi mz)))))) ?_
        refine xn ?_
        refine cifb (et (k80 d1)) (fun h568=>?_) (fun h568=>?_)
        · replace h:=iT h568 h
          refine cseq ?_
          refine creg ?_
          refine wl (s_assign ec (dt p4) ?_)
          refine wnil ?_
          refine xn ?_
          refine cret ?_
          refine (fun h=>br (xr (xr (br (xr h))))) ?_
          obtain rfl:=oI h
          refine ret1 rfl d4 ?_
          exact ⟨_,rfl,(le381.t le567),hS⟩
        · replace h:=iF h568 h
          refine cskip ?_
          refine (fun h=>bn (xn h)) ?_
          refine creg ?_
          replace h:=bI h; obtain ⟨i569,g570,h⟩:=h
          refine wl (s_addc (et (k10 d3)) ec g570 (dt (q80 p2)) ?_)
          refine wl (s_move (et (k80 d2)) (dt (q10 p3)) ?_)
          refine wnil ?_
          refine xl ?_
          exact ⟨n_1,_,_,rfl,(aK4 (aO2 (aK7 (aI (aO50 (aO10 (aO9 aZ))))))),⟨_,i569,rfl,h,(le381.t le567),hS⟩,Nat.lt_succ_self _⟩
    · replace h:=iF h382 h
      refine cexit ?_
      refine (fun h=>xe (xe (bh h))) ?_
      refine xn ?_
      refine cseq ?_
      refine creg ?_
      refine wl (s_assign ec (dt p4) ?_)
      refine wnil ?_
      refine xn ?_
      refine cret ?_
      obtain rfl:=oI h
      refine ret1 rfl d4 ?_
      exact ⟨_,rfl,le381,hS⟩
theorem SmS_sound:∀ n,SmSSound (SmS_run n)
  | 0=>⟨(by intros; rename_i h _; cases h)⟩
  | n+1=>⟨sm_stats_w (SmS_sound n)⟩
theorem sm_same_w {fu:Nat} {μ0:M} {w0 w:World} {rsF:List Res} (hg:Le Gm μ0) {p_1:List TDef} {a1:Option Addr} {c2:Nat} {p_2:List TDef} {a4:Option Addr} {c5:Nat} {r:Bool} (m3:Sl μ0 a1 c2 p_1) (m6:Sl μ0 a4 c5 p_2) (h:sm_same fu p_1 p_2=some r) (hS:Sq μ0 w0 w (rsF)):CallsV Tryd.prog 6 [.slice a1 p_1.length c2,.slice a4 p_2.length c5] w (fun v w'=>∃ (μ':M) ,v=.bool r∧Le μ0 μ'∧Sq μ' w0 w' (rsF)):=by
  unfold sm_same at h
  refine enter Tryd.func6 rfl (frm:=[_,_,_,_,_,_,_,_,_,_,_,_,_,_,_,_,_,_,_,_,_,_,_,_,_,_,_,_,_,_,_,_,_,_,_,_,_,_,_,_,_,_,_,_,_,_,_,_,_,_,_,_,_,_,_,_,_,_,_,_,_,_,_,_,_,_,_,_,_,_,_,_,_,_,_,_,_,_,_,_,_,_,_,_,_,_,_,_,_,_,_,_,_,_,_,_]) rfl ?_
  refine cseq ?_
  refine creg ?_
  refine wl (s_assign ec (dt p4) ?_)
  refine wnil ?_
  refine xn ?_
  refine cseq ?_
  refine cseq ?_
  refine creg ?_
  refine wl (s_move (et d0) (dt p9) ?_)
  refine wl (s_lensl Tryd.underlying23 (et d9) (dt (q10 p0)) ?_)
  refine wl (s_move (et d1) (dt (q10 p1)) ?_)
  refine wl (s_lensl Tryd.underlying23 (et (k10 d1)) (dt (q10 p2)) ?_)
  refine wl (s_nei (et (k10 d0)) (et (k10 d2)) (dt (q10 p3)) ?_)
  refine wnil ?_
  refine xn ?_
  refine cifd (et (k10 d3)) (fun h7=>?_) (fun h7=>?_)
  · replace h:=iT h7 h
    refine cseq ?_
    refine creg ?_
    refine wl (s_assign ec (dt p4) ?_)
    refine wnil ?_
    refine xn ?_
    refine cret ?_
    refine xr ?_
    obtain rfl:=oI h
    refine ret1 rfl d4 ?_
    exact ⟨_,rfl,Le.r,hS⟩
  · replace h:=iF h7 h
    refine cskip ?_
    refine xn ?_
    refine cseq ?_
    refine cseq ?_
    refine creg ?_
    refine wl (s_move (et d0) (dt (q10 p4)) ?_)
    refine wl (s_lensl Tryd.underlying23 (et (k10 d4)) (dt (q10 p5)) ?_)
    refine wl (s_move ec (dt (q10 p6)) ?_)
    refine wnil ?_
    refine xn ?_
    refine cblock ?_
    refine cloopE (rg 4 5++rg 17 79) (by decide +kernel) (fun n m w=>∃ (μx:M) (i107:Int),m=(yK4 (yO5 4 (yK7 (.i (.int .i64 i107)::(yO50 17 (yO20 67 (yO9 87 [])))))))∧sm_same_l1 fu p_1 p_2 n i107=some r∧Le μ0 μx∧Sq μx w0 w (rsF)) (by rintro _ _ _ ⟨_,_,rfl,_⟩; rfl) _ _ (aK4 (aO5 (aK7 (aI (aO50 (aO20 (aO9 aZ))))))) ⟨_,0,rfl,h,Le.r,hS⟩ ?_
    rintro n_1 _ t w1 ⟨μ1,i107,rfl,h,le207,hS⟩
    cases n_1 with
    | zero=>cases h
    | succ n_1 =>
    unfold sm_same_l1 at h
    refine cnrm (mK4 (mO5 (mK7 (mi (mO50 (mO20 (mO9 mz))))))) ?_
    refine cseq ?_
    refine creg ?_
    refine wl (s_lss (et (k10 d6)) (et (k10 d5)) (dt (q10 p7)) ?_)
    refine wnil ?_
    refine xn ?_
    refine cseq ?_
    refine cifd (et (k10 d7)) (fun h208=>?_) (fun h208=>?_)
    · replace h:=iT h208 h
      refine cskip ?_
      refine xn ?_
      refine cseq ?_
      refine cblock ?_
      refine cseq ?_
      refine creg ?_
      refine wl (s_move (et (k10 d6)) (dt (q10 p8)) ?_)
      refine wl (s_assign (et (k10 d8)) (dt p5) ?_)
      refine wnil ?_
      refine xn ?_
      refine cseq ?_
      refine ccutE (rg 19 8) (by decide) (fun m w=>∃ (μx:M) (b209:Nat) (i210:Int) (s211:List UInt8) (i212:Int) (s213:List UInt8) (i214:Int) (s215:List UInt8) (i216:Int) (l219:List TParam) (a217:Option Addr) (c218:Nat) (l223:List TStat) (a221:Option Addr) (c222:Nat) (b225:Nat) (i226:Int) (s227:List UInt8) (i228:Int) (s229:List UInt8) (i230:Int) (s231:List UInt8) (i232:Int) (l235:List TParam) (a233:Option Addr) (c234:Nat) (l239:List TStat) (a237:Option Addr) (c238:Nat),m=(yK6 (.i (.pointer (some ⟨b209,0,none⟩))::(.i (.pointer (some ⟨b225,0,none⟩))::(yK10 (yK1 (yO8 19 []))))))∧sm_same_j1 fu i107 (sm_same_l1 fu p_1 p_2 n_1) i210 s211 i212 s213 i214 s215 i216 l219 l223 i226 s227 i228 s229 i230 s231 i232 l235 l239=some r∧Le μ1 μx∧Sq μx w0 w (.blk b209 36 [.int .i64 i210,S s211,.int .i64 i212,S s213,.int .i64 i214,S s215,.int .i64 i216,.slice a217 l219.length c218,.slice a221 l223.length c222]::.blk b225 36 [.int .i64 i226,S s227,.int .i64 i228,S s229,.int .i64 i230,S s231,.int .i64 i232,.slice a233 l235.length c234,.slice a237 l239.length c238]::rsF)∧Sl μx a217 c218 l219∧Sl μx a221 c222 l223∧Sl μx a233 c234 l235∧Sl μx a237 c238 l239) (by rintro _ _ ⟨_,_,_,_,_,_,_,_,_,_,_,_,_,_,_,_,_,_,_,_,_,_,_,_,_,_,_,_,_,rfl,_⟩; rfl) ?_ ?_
      · refine cdraw (by kernel_rfl) rfl fun w2 hh_ ho_ ht_ hu_=>?_
        replace hS:=hS.drew hh_ ho_ ht_ hu_
        refine sf_start ?_
        refine sf_pu (i:=0) [0,2,3,10,11] (blind_of fun _ _ _ h=>h.2) rfl rfl rfl (u_move (et d0)) (q10 p9) ?_
        refine sf_pu (i:=1) [1,2,3,10,11] (blind_of fun _ _ _ h=>h.2) rfl rfl rfl (u_move (et d5)) (q20 p0) ?_
        replace h:=bI h; obtain ⟨x241,g242,h⟩:=h
        obtain ⟨b243,o244,cs245,e246,f247,m248⟩:=SlR.elem (m3.up le207) g242
        obtain ⟨a249,c250,a252,c253,rfl,m251,m254⟩:=m248
        refine sf_pu (i:=2) [2,3,10,11] (blind_of fun _ _ _ h=>h.2) rfl rfl rfl (u_iax Tryd.underlying23 ti36 (et (k10 d9)) (et (k20 d0)) e246) (q20 p1) ?_
        refine sf_rd (i:=3) [3,10,11] (blind_of fun _ _ _ h=>h.2) rfl rfl rfl (u_loads ti36 (et (k20 d1)) (f247 _ hS.a) rfl) (q20 p2) ?_
        refine sf_pu (i:=4) [4,6,7,11] (blind_of fun _ _ _ h=>h.2) rfl rfl rfl (u_move (et d1)) (q20 p3) ?_
        refine sf_pu (i:=5) [5,6,7,11] (blind_of fun _ _ _ h=>h.2) rfl rfl rfl (u_move (et d5)) (q20 p4) ?_
        replace h:=bI h; obtain ⟨x255,g256,h⟩:=h
        obtain ⟨b257,o258,cs259,e260,f261,m262⟩:=SlR.elem (m6.up le207) g256
        obtain ⟨a263,c264,a266,c267,rfl,m265,m268⟩:=m262
        refine sf_pu (i:=6) [6,7,11] (blind_of fun _ _ _ h=>h.2) rfl rfl rfl (u_iax Tryd.underlying23 ti36 (et (k20 d3)) (et (k20 d4)) e260) (q20 p5) ?_
        refine sf_rd (i:=7) [7,11] (blind_of fun _ _ _ h=>h.2) rfl rfl rfl (u_loads ti36 (et (k20 d5)) (f261 _ hS.a) rfl) (q20 p6) ?_
        refine sf2 (i:=8) (j:=9) rfl rfl rfl rfl rfl rfl rfl (wn0 rfl) (wn0 rfl) ?_ ?_
        · refine id (s_alloc ti36 hS ?_); clear hS; intro b269 w3 hb270 hS; refine pu (dt p6) ?_
          refine ⟨(Mons.s (u_loads ti36 (et (k20 d5)) (f261 _ hS.a) rfl) (Mons.s (u_loads ti36 (et (k20 d1)) (f247 _ hS.a) rfl) Mons.z)),?_⟩
          refine sf1 rfl rfl rfl rfl (wn0 rfl) (s_alloc ti36 hS ?_); clear hS; intro b271 w4 hb272 hS; refine pu (dt p7) ?_
          refine ⟨(Mons.s (u_loads ti36 (et (k20 d5)) (f261 _ hS.a) rfl) (Mons.s (u_loads ti36 (et (k20 d1)) (f247 _ hS.a) rfl) Mons.z)),?_⟩
          refine sf1 rfl rfl rfl rfl (wn0 rfl) (s_storeA ti36 (et d6) (et (k20 d2)) rfl rfl hS d1 rfl p1 dn ?_)
          clear hS; intro w5 hS
          refine ⟨(Mons.s (u_loads ti36 (et (k20 d5)) (f261 _ hS.a) rfl) Mons.z),?_⟩
          refine sf1 rfl rfl rfl rfl (wn0 rfl) (s_storeA ti36 (et d7) (et (k20 d6)) rfl rfl hS d0 rfl p0 dn ?_)
          clear hS; intro w6 hS
          refine ⟨Mons.z,?_⟩
          refine sf_nil ?_
          refine xl ?_
          replace hS:=hS.bg (Bg.s Bg.z)
          exact ⟨_,_,rfl,(aK6 (aI (aI (aK10 (aK1 (aO8 aZ)))))),_,b269,x241.Kind,x241.Name,x241.Typ.Kind,x241.Typ.Gen,x241.Takes.Kind,x241.Takes.Gen,x241.Cap,x241.Params,a249,c250,x241.Body,a252,c253,b271,x255.Kind,x255.Name,x255.Typ.Kind,x255.Typ.Gen,x255.Takes.Kind,x255.Takes.Gen,x255.Cap,x255.Params,a263,c264,x255.Body,a266,c267,rfl,h,Le.r,hS,m251,m254,m265,m268⟩
        · refine id (s_alloc ti36 hS ?_); clear hS; intro b273 w7 hb274 hS; refine pu (dt p7) ?_
          refine ⟨(Mons.s (u_loads ti36 (et (k20 d5)) (f261 _ hS.a) rfl) (Mons.s (u_loads ti36 (et (k20 d1)) (f247 _ hS.a) rfl) Mons.z)),?_⟩
          refine sf1 rfl rfl rfl rfl (wn0 rfl) (s_alloc ti36 hS ?_); clear hS; intro b275 w8 hb276 hS; refine pu (dt p6) ?_
          refine ⟨(Mons.s (u_loads ti36 (et (k20 d5)) (f261 _ hS.a) rfl) (Mons.s (u_loads ti36 (et (k20 d1)) (f247 _ hS.a) rfl) Mons.z)),?_⟩
          refine sf1 rfl rfl rfl rfl (wn0 rfl) (s_storeA ti36 (et d6) (et (k20 d2)) rfl rfl hS d0 rfl p0 dn ?_)
          clear hS; intro w9 hS
          refine ⟨(Mons.s (u_loads ti36 (et (k20 d5)) (f261 _ hS.a) rfl) Mons.z),?_⟩
          refine sf1 rfl rfl rfl rfl (wn0 rfl) (s_storeA ti36 (et d7) (et (k20 d6)) rfl rfl hS d1 rfl p1 dn ?_)
          clear hS; intro w10 hS
          refine ⟨Mons.z,?_⟩
          refine sf_nil ?_
          refine xl ?_
          exact ⟨_,_,rfl,(aK6 (aI (aI (aK10 (aK1 (aO8 aZ)))))),_,b275,x241.Kind,x241.Name,x241.Typ.Kind,x241.Typ.Gen,x241.Takes.Kind,x241.Takes.Gen,x241.Cap,x241.Params,a249,c250,x241.Body,a252,c253,b273,x255.Kind,x255.Name,x255.Typ.Kind,x255.Typ.Gen,x255.Takes.Kind,x255.Takes.Gen,x255.Cap,x255.Params,a263,c264,x255.Body,a266,c267,rfl,h,Le.r,hS,m251,m254,m265,m268⟩
      · rintro _ t w11 ⟨μ2,b209,i210,s211,i212,s213,i214,s215,i216,l219,a217,c218,l223,a221,c222,b225,i226,s227,i228,s229,i230,s231,i232,l235,a233,c234,l239,a237,c238,rfl,h,le277,hS,m278,m279,m280,m281⟩
        unfold sm_same_j1 at h
        refine nrm (mK6 (mi (mi (mK10 (mK1 (mO8 mz)))))) ?_
        refine xn ?_
        refine cseq ?_
        refine cseq ?_
        refine ccutE (rg 27 49) (by decide +kernel) (fun m w=>∃ (μx:M) (b282:Bool),m=(yK20 (yK7 (yO20 27 (yO20 47 (yO9 67 (.i (.bool b282)::[]))))))∧sm_same_j2 i107 l219 l235 (sm_same_l1 fu p_1 p_2 n_1) b282=some r∧Le μ2 μx∧Sq μx w0 w (.blk b209 36 [.int .i64 i210,S s211,.int .i64 i212,S s213,.int .i64 i214,S s215,.int .i64 i216,.slice a217 l219.length c218,.slice a221 l223.length c222]::.blk b225 36 [.int .i64 i226,S s227,.int .i64 i228,S s229,.int .i64 i230,S s231,.int .i64 i232,.slice a233 l235.length c234,.slice a237 l239.length c238]::rsF)) (by rintro _ _ ⟨_,_,rfl,_⟩; rfl) ?_ ?_
        · refine creg ?_
          refine wl (s_fa fa36_0 (et d6) rfl (dt (q20 p7)) ?_)
          refine wl (s_load ti3 (et (k20 d7)) ((hS.blk d0).cell d0) (dt (q20 p8)) ?_)
          refine wl (s_fa fa36_0 (et d7) rfl (dt (q20 p9)) ?_)
          refine wl (s_load ti3 (et (k20 d9)) ((hS.blk d1).cell d0) (dt (q30 p0)) ?_)
          refine wl (s_nei (et (k20 d8)) (et (k30 d0)) (dt (q30 p1)) ?_)
          refine wl (s_move (et (k30 d1)) (dt (q30 p2)) ?_)
          refine wspd (k30 d2) (q30 p2) (q30 p2) (fun h283=>?_) (fun h283=>?_)
          · replace h:=iT h283 h
            refine wn rfl (k30 d2) rfl (dt (q30 p3)) ?_
            refine wn rfl (k30 d2) rfl (dt (q30 p4)) ?_
            refine wn rfl (k30 d2) rfl (dt (q30 p5)) ?_
            refine wn rfl (k30 d2) rfl (dt (q30 p6)) ?_
            refine wn rfl (k30 d2) rfl (dt (q30 p7)) ?_
            refine wl (s_pickt (et (k30 d2)) ec (dt (q30 p8)) ?_)
            refine wl (s_move (et (k30 d8)) (dt (q30 p9)) ?_)
            refine wn rfl (k30 d9) rfl (dt (q40 p0)) ?_
            refine wn rfl (k30 d9) rfl (dt (q40 p1)) ?_
            refine wn rfl (k30 d9) rfl (dt (q40 p2)) ?_
            refine wn rfl (k30 d9) rfl (dt (q40 p3)) ?_
            refine wn rfl (k30 d9) rfl (dt (q40 p4)) ?_
            refine wl (s_pickt (et (k30 d9)) ec (dt (q40 p5)) ?_)
            refine wl (s_move (et (k40 d5)) (dt (q40 p6)) ?_)
            refine wn rfl (k40 d6) rfl (dt (q40 p7)) ?_
            refine wn rfl (k40 d6) rfl (dt (q40 p8)) ?_
            refine wn rfl (k40 d6) rfl (dt (q40 p9)) ?_
            refine wn rfl (k40 d6) rfl (dt (q50 p0)) ?_
            refine wn rfl (k40 d6) rfl (dt (q50 p1)) ?_
            refine wl (s_pickt (et (k40 d6)) ec (dt (q50 p2)) ?_)
            refine wl (s_move (et (k50 d2)) (dt (q50 p3)) ?_)
            refine wn rfl (k50 d3) rfl (dt (q50 p4)) ?_
            refine wn rfl (k50 d3) rfl (dt (q50 p5)) ?_
            refine wn rfl (k50 d3) rfl (dt (q50 p6)) ?_
            refine wn rfl (k50 d3) rfl (dt (q50 p7)) ?_
            refine wn rfl (k50 d3) rfl (dt (q50 p8)) ?_
            refine wl (s_pickt (et (k50 d3)) ec (dt (q50 p9)) ?_)
            refine wl (s_move (et (k50 d9)) (dt (q60 p0)) ?_)
            refine wn rfl (k60 d0) rfl (dt (q60 p1)) ?_
            refine wn rfl (k60 d0) rfl (dt (q60 p2)) ?_
            refine wn rfl (k60 d0) rfl (dt (q60 p3)) ?_
            refine wn rfl (k60 d0) rfl (dt (q60 p4)) ?_
            refine wn rfl (k60 d0) rfl (dt (q60 p5)) ?_
            refine wn rfl (k60 d0) rfl (dt (q60 p6)) ?_
            refine wn rfl (k60 d0) rfl (dt (q60 p7)) ?_
            refine wl (s_pickt (et (k60 d0)) ec (dt (q60 p8)) ?_)
            refine wl (s_move (et (k60 d8)) (dt (q60 p9)) ?_)
            refine wn rfl (k60 d9) rfl (dt (q70 p0)) ?_
            refine wn rfl (k60 d9) rfl (dt (q70 p1)) ?_
            refine wn rfl (k60 d9) rfl (dt (q70 p2)) ?_
            refine wn rfl (k60 d9) rfl (dt (q70 p3)) ?_
            refine wn rfl (k60 d9) rfl (dt (q70 p4)) ?_
            refine wn rfl (k60 d9) rfl (dt (q70 p5)) ?_
            refine wl (s_pickt (et (k60 d9)) ec (dt (q70 p6)) ?_)
            refine wnil ?_
            refine xl ?_
            exact ⟨_,_,rfl,(aK20 (aK7 (aO20 (aO20 (aO9 (aI aZ)))))),_,true,rfl,h,Le.r,hS⟩
          · replace h:=iF h283 h
            refine wy rfl (k30 d2) (s_fa fa36_1 (et d6) rfl (dt (q30 p3)) ?_)
            refine wy rfl (k30 d2) (s_load ti9 (et (k30 d3)) ((hS.blk d0).cell d1) (dt (q30 p4)) ?_)
            refine wy rfl (k30 d2) (s_fa fa36_1 (et d7) rfl (dt (q30 p5)) ?_)
            refine wy rfl (k30 d2) (s_load ti9 (et (k30 d5)) ((hS.blk d1).cell d1) (dt (q30 p6)) ?_)
            refine wy rfl (k30 d2) (s_nes (et (k30 d4)) (et (k30 d6)) (dt (q30 p7)) ?_)
            refine wl (s_pickf (et (k30 d2)) (et (k30 d7)) (dt (q30 p8)) ?_)
            refine wl (s_move (et (k30 d8)) (dt (q30 p9)) ?_)
            refine wspd (k30 d9) (q30 p9) (q30 p9) (fun h284=>?_) (fun h284=>?_)
            · replace h:=iT h284 h
              refine wn rfl (k30 d9) rfl (dt (q40 p0)) ?_
              refine wn rfl (k30 d9) rfl (dt (q40 p1)) ?_
              refine wn rfl (k30 d9) rfl (dt (q40 p2)) ?_
              refine wn rfl (k30 d9) rfl (dt (q40 p3)) ?_
              refine wn rfl (k30 d9) rfl (dt (q40 p4)) ?_
              refine wl (s_pickt (et (k30 d9)) ec (dt (q40 p5)) ?_)
              refine wl (s_move (et (k40 d5)) (dt (q40 p6)) ?_)
              refine wn rfl (k40 d6) rfl (dt (q40 p7)) ?_
              refine wn rfl (k40 d6) rfl (dt (q40 p8)) ?_
              refine wn rfl (k40 d6) rfl (dt (q40 p9)) ?_
              refine wn rfl (k40 d6) rfl (dt (q50 p0)) ?_
              refine wn rfl (k40 d6) rfl (dt (q50 p1)) ?_
              refine wl (s_pickt (et (k40 d6)) ec (dt (q50 p2)) ?_)
              refine wl (s_move (et (k50 d2)) (dt (q50 p3)) ?_)
              refine wn rfl (k50 d3) rfl (dt (q50 p4)) ?_
              refine wn rfl (k50 d3) rfl (dt (q50 p5)) ?_
              refine wn rfl (k50 d3) rfl (dt (q50 p6)) ?_
              refine wn rfl (k50 d3) rfl (dt (q50 p7)) ?_
              refine wn rfl (k50 d3) rfl (dt (q50 p8)) ?_
              refine wl (s_pickt (et (k50 d3)) ec (dt (q50 p9)) ?_)
              refine wl (s_move (et (k50 d9)) (dt (q60 p0)) ?_)
              refine wn rfl (k60 d0) rfl (dt (q60 p1)) ?_
              refine wn rfl (k60 d0) rfl (dt (q60 p2)) ?_
              refine wn rfl (k60 d0) rfl (dt (q60 p3)) ?_
              refine wn rfl (k60 d0) rfl (dt (q60 p4)) ?_
              refine wn rfl (k60 d0) rfl (dt (q60 p5)) ?_
              refine wn rfl (k60 d0) rfl (dt (q60 p6)) ?_
              refine wn rfl (k60 d0) rfl (dt (q60 p7)) ?_
              refine wl (s_pickt (et (k60 d0)) ec (dt (q60 p8)) ?_)
              refine wl (s_move (et (k60 d8)) (dt (q60 p9)) ?_)
              refine wn rfl (k60 d9) rfl (dt (q70 p0)) ?_
              refine wn rfl (k60 d9) rfl (dt (q70 p1)) ?_
              refine wn rfl (k60 d9) rfl (dt (q70 p2)) ?_
              refine wn rfl (k60 d9) rfl (dt (q70 p3)) ?_
              refine wn rfl (k60 d9) rfl (dt (q70 p4)) ?_
              refine wn rfl (k60 d9) rfl (dt (q70 p5)) ?_
              refine wl (s_pickt (et (k60 d9)) ec (dt (q70 p6)) ?_)
              refine wnil ?_
              refine xl ?_
              exact ⟨_,_,rfl,(aK20 (aK7 (aO20 (aO20 (aO9 (aI aZ)))))),_,true,rfl,h,Le.r,hS⟩
            · replace h:=iF h284 h
              refine wy rfl (k30 d9) (s_fa fa36_2 (et d6) rfl (dt (q40 p0)) ?_)
              refine wy rfl (k30 d9) (s_loads ti32 (et (k40 d0)) ((hS.blk d0).cellsAt (Sb.s d2 (Sb.s d3 Sb.z))) rfl (dt (q40 p1)) ?_)
              refine wy rfl (k30 d9) (s_fa fa36_2 (et d7) rfl (dt (q40 p2)) ?_)
              refine wy rfl (k30 d9) (s_loads ti32 (et (k40 d2)) ((hS.blk d1).cellsAt (Sb.s d2 (Sb.s d3 Sb.z))) rfl (dt (q40 p3)) ?_)
              refine wy rfl (k30 d9) (s_nea (ES.mk Tryd.underlying32 eh32 eg32) (et (k40 d1)) (et (k40 d3)) (EqFs.o rfl rfl rfl ti3 d0 d0 (eq_int Tryd.underlying3) (EqFs.o rfl rfl rfl ti9 d1 d1 (eq_str Tryd.underlying9) EqFs.z)) rfl (dt (q40 p4)) ?_)
              refine wl (s_pickf (et (k30 d9)) (et (k40 d4)) (dt (q40 p5)) ?_)
              refine wl (s_move (et (k40 d5)) (dt (q40 p6)) ?_)
              refine wspnb (k40 d6) (q40 p6) (q40 p6) (fun h285=>?_) (fun h285=>?_)
              · replace h:=iF h285 h
                refine wn rfl (k40 d6) rfl (dt (q40 p7)) ?_
                refine wn rfl (k40 d6) rfl (dt (q40 p8)) ?_
                refine wn rfl (k40 d6) rfl (dt (q40 p9)) ?_
                refine wn rfl (k40 d6) rfl (dt (q50 p0)) ?_
                refine wn rfl (k40 d6) rfl (dt (q50 p1)) ?_
                refine wl (s_pickt (et (k40 d6)) ec (dt (q50 p2)) ?_)
                refine wl (s_move (et (k50 d2)) (dt (q50 p3)) ?_)
                refine wn rfl (k50 d3) rfl (dt (q50 p4)) ?_
                refine wn rfl (k50 d3) rfl (dt (q50 p5)) ?_
                refine wn rfl (k50 d3) rfl (dt (q50 p6)) ?_
                refine wn rfl (k50 d3) rfl (dt (q50 p7)) ?_
                refine wn rfl (k50 d3) rfl (dt (q50 p8)) ?_
                refine wl (s_pickt (et (k50 d3)) ec (dt (q50 p9)) ?_)
                refine wl (s_move (et (k50 d9)) (dt (q60 p0)) ?_)
                refine wn rfl (k60 d0) rfl (dt (q60 p1)) ?_
                refine wn rfl (k60 d0) rfl (dt (q60 p2)) ?_
                refine wn rfl (k60 d0) rfl (dt (q60 p3)) ?_
                refine wn rfl (k60 d0) rfl (dt (q60 p4)) ?_
                refine wn rfl (k60 d0) rfl (dt (q60 p5)) ?_
                refine wn rfl (k60 d0) rfl (dt (q60 p6)) ?_
                refine wn rfl (k60 d0) rfl (dt (q60 p7)) ?_
                refine wl (s_pickt (et (k60 d0)) ec (dt (q60 p8)) ?_)
                refine wl (s_move (et (k60 d8)) (dt (q60 p9)) ?_)
                refine wn rfl (k60 d9) rfl (dt (q70 p0)) ?_
                refine wn rfl (k60 d9) rfl (dt (q70 p1)) ?_
                refine wn rfl (k60 d9) rfl (dt (q70 p2)) ?_
                refine wn rfl (k60 d9) rfl (dt (q70 p3)) ?_
                refine wn rfl (k60 d9) rfl (dt (q70 p4)) ?_
                refine wn rfl (k60 d9) rfl (dt (q70 p5)) ?_
                refine wl (s_pickt (et (k60 d9)) ec (dt (q70 p6)) ?_)
                refine wnil ?_
                refine xl ?_
                exact ⟨_,_,rfl,(aK20 (aK7 (aO20 (aO20 (aO9 (aI aZ)))))),_,true,rfl,h,Le.r,hS⟩
              · replace h:=iT h285 h
                refine wy rfl (k40 d6) (s_fa fa36_3 (et d6) rfl (dt (q40 p7)) ?_)
                refine wy rfl (k40 d6) (s_loads ti32 (et (k40 d7)) ((hS.blk d0).cellsAt (Sb.s d4 (Sb.s d5 Sb.z))) rfl (dt (q40 p8)) ?_)
                refine wy rfl (k40 d6) (s_fa fa36_3 (et d7) rfl (dt (q40 p9)) ?_)
                refine wy rfl (k40 d6) (s_loads ti32 (et (k40 d9)) ((hS.blk d1).cellsAt (Sb.s d4 (Sb.s d5 Sb.z))) rfl (dt (q50 p0)) ?_)
                refine wy rfl (k40 d6) (s_nea (ES.mk Tryd.underlying32 eh32 eg32) (et (k40 d8)) (et (k50 d0)) (EqFs.o rfl rfl rfl ti3 d0 d0 (eq_int Tryd.underlying3) (EqFs.o rfl rfl rfl ti9 d1 d1 (eq_str Tryd.underlying9) EqFs.z)) rfl (dt (q50 p1)) ?_)
                refine wl (s_pickf (et (k40 d6)) (et (k50 d1)) (dt (q50 p2)) ?_)
                refine wl (s_move (et (k50 d2)) (dt (q50 p3)) ?_)
                refine wspnb (k50 d3) (q50 p3) (q50 p3) (fun h286=>?_) (fun h286=>?_)
                · replace h:=iF h286 h
                  refine wn rfl (k50 d3) rfl (dt (q50 p4)) ?_
                  refine wn rfl (k50 d3) rfl (dt (q50 p5)) ?_
                  refine wn rfl (k50 d3) rfl (dt (q50 p6)) ?_
                  refine wn rfl (k50 d3) rfl (dt (q50 p7)) ?_
                  refine wn rfl (k50 d3) rfl (dt (q50 p8)) ?_
                  refine wl (s_pickt (et (k50 d3)) ec (dt (q50 p9)) ?_)
                  refine wl (s_move (et (k50 d9)) (dt (q60 p0)) ?_)
                  refine wn rfl (k60 d0) rfl (dt (q60 p1)) ?_
                  refine wn rfl (k60 d0) rfl (dt (q60 p2)) ?_
                  refine wn rfl (k60 d0) rfl (dt (q60 p3)) ?_
                  refine wn rfl (k60 d0) rfl (dt (q60 p4)) ?_
                  refine wn rfl (k60 d0) rfl (dt (q60 p5)) ?_
                  refine wn rfl (k60 d0) rfl (dt (q60 p6)) ?_
                  refine wn rfl (k60 d0) rfl (dt (q60 p7)) ?_
                  refine wl (s_pickt (et (k60 d0)) ec (dt (q60 p8)) ?_)
                  refine wl (s_move (et (k60 d8)) (dt (q60 p9)) ?_)
                  refine wn rfl (k60 d9) rfl (dt (q70 p0)) ?_
                  refine wn rfl (k60 d9) rfl (dt (q70 p1)) ?_
                  refine wn rfl (k60 d9) rfl (dt (q70 p2)) ?_
                  refine wn rfl (k60 d9) rfl (dt (q70 p3)) ?_
                  refine wn rfl (k60 d9) rfl (dt (q70 p4)) ?_
                  refine wn rfl (k60 d9) rfl (dt (q70 p5)) ?_
                  refine wl (s_pickt (et (k60 d9)) ec (dt (q70 p6)) ?_)
                  refine wnil ?_
                  refine xl ?_
                  exact ⟨_,_,rfl,(aK20 (aK7 (aO20 (aO20 (aO9 (aI aZ)))))),_,true,rfl,h,Le.r,hS⟩
                · replace h:=iT h286 h
                  refine wy rfl (k50 d3) (s_fa fa36_4 (et d6) rfl (dt (q50 p4)) ?_)
                  refine wy rfl (k50 d3) (s_load ti3 (et (k50 d4)) ((hS.blk d0).cell d6) (dt (q50 p5)) ?_)
                  refine wy rfl (k50 d3) (s_fa fa36_4 (et d7) rfl (dt (q50 p6)) ?_)
                  refine wy rfl (k50 d3) (s_load ti3 (et (k50 d6)) ((hS.blk d1).cell d6) (dt (q50 p7)) ?_)
                  refine wy rfl (k50 d3) (s_nei (et (k50 d5)) (et (k50 d7)) (dt (q50 p8)) ?_)
                  refine wl (s_pickf (et (k50 d3)) (et (k50 d8)) (dt (q50 p9)) ?_)
                  refine wl (s_move (et (k50 d9)) (dt (q60 p0)) ?_)
                  refine wspd (k60 d0) (q60 p0) (q60 p0) (fun h287=>?_) (fun h287=>?_)
                  · replace h:=iT h287 h
                    refine wn rfl (k60 d0) rfl (dt (q60 p1)) ?_
                    refine wn rfl (k60 d0) rfl (dt (q60 p2)) ?_
                    refine wn rfl (k60 d0) rfl (dt (q60 p3)) ?_
                    refine wn rfl (k60 d0) rfl (dt (q60 p4)) ?_
                    refine wn rfl (k60 d0) rfl (dt (q60 p5)) ?_
                    refine wn rfl (k60 d0) rfl (dt (q60 p6)) ?_
                    refine wn rfl (k60 d0) rfl (dt (q60 p7)) ?_
                    refine wl (s_pickt (et (k60 d0)) ec (dt (q60 p8)) ?_)
                    refine wl (s_move (et (k60 d8)) (dt (q60 p9)) ?_)
                    refine wn rfl (k60 d9) rfl (dt (q70 p0)) ?_
                    refine wn rfl (k60 d9) rfl (dt (q70 p1)) ?_
                    refine wn rfl (k60 d9) rfl (dt (q70 p2)) ?_
                    refine wn rfl (k60 d9) rfl (dt (q70 p3)) ?_
                    refine wn rfl (k60 d9) rfl (dt (q70 p4)) ?_
                    refine wn rfl (k60 d9) rfl (dt (q70 p5)) ?_
                    refine wl (s_pickt (et (k60 d9)) ec (dt (q70 p6)) ?_)
                    refine wnil ?_
                    refine xl ?_
                    exact ⟨_,_,rfl,(aK20 (aK7 (aO20 (aO20 (aO9 (aI aZ)))))),_,true,rfl,h,Le.r,hS⟩
                  · replace h:=iF h287 h
                    refine wy rfl (k60 d0) (s_fa fa36_5 (et d6) rfl (dt (q60 p1)) ?_)
                    refine wy rfl (k60 d0) (s_load ti33 (et (k60 d1)) ((hS.blk d0).cell d7) (dt (q60 p2)) ?_)
                    refine wy rfl (k60 d0) (s_lensl Tryd.underlying33 (et (k60 d2)) (dt (q60 p3)) ?_)
                    refine wy rfl (k60 d0) (s_fa fa36_5 (et d7) rfl (dt (q60 p4)) ?_)
                    refine wy rfl (k60 d0) (s_load ti33 (et (k60 d4)) ((hS.blk d1).cell d7) (dt (q60 p5)) ?_)
                    refine wy rfl (k60 d0) (s_lensl Tryd.underlying33 (et (k60 d5)) (dt (q60 p6)) ?_)
                    refine wy rfl (k60 d0) (s_nei (et (k60 d3)) (et (k60 d6)) (dt (q60 p7)) ?_)
                    refine wl (s_pickf (et (k60 d0)) (et (k60 d7)) (dt (q60 p8)) ?_)
                    refine wl (s_move (et (k60 d8)) (dt (q60 p9)) ?_)
                    refine wspd (k60 d9) (q60 p9) (q60 p9) (fun h288=>?_) (fun h288=>?_)
                    · replace h:=iT h288 h
                      refine wn rfl (k60 d9) rfl (dt (q70 p0)) ?_
                      refine wn rfl (k60 d9) rfl (dt (q70 p1)) ?_
                      refine wn rfl (k60 d9) rfl (dt (q70 p2)) ?_
                      refine wn rfl (k60 d9) rfl (dt (q70 p3)) ?_
                      refine wn rfl (k60 d9) rfl (dt (q70 p4)) ?_
                      refine wn rfl (k60 d9) rfl (dt (q70 p5)) ?_
                      refine wl (s_pickt (et (k60 d9)) ec (dt (q70 p6)) ?_)
                      refine wnil ?_
                      refine xl ?_
                      exact ⟨_,_,rfl,(aK20 (aK7 (aO20 (aO20 (aO9 (aI aZ)))))),_,true,rfl,h,Le.r,hS⟩
                    · replace h:=iF h288 h
                      refine wy rfl (k60 d9) (s_fa fa36_6 (et d6) rfl (dt (q70 p0)) ?_)
                      refine wy rfl (k60 d9) (s_load ti34 (et (k70 d0)) ((hS.blk d0).cell d8) (dt (q70 p1)) ?_)
                      refine wy rfl (k60 d9) (s_fa fa36_6 (et d7) rfl (dt (q70 p2)) ?_)
                      refine wy rfl (k60 d9) (s_load ti34 (et (k70 d2)) ((hS.blk d1).cell d8) (dt (q70 p3)) ?_)
                      replace h:=bI h; obtain ⟨r289,g290,h⟩:=h
                      refine wy rfl (k60 d9) (s_callv isfn13 ef (e1 (et (k70 d1)) (e1 (et (k70 d3)) e0)) ((SmS_sound fu).sm_stats (hg.t (le207.t le277)) m279 m281 g290 hS) ?_)
                      rintro _ w12 ⟨μ3,rfl,le291,hS⟩
                      refine pu (dt (q70 p4)) ?_
                      refine wy rfl (k60 d9) (s_not (et (k70 d4)) (dt (q70 p5)) ?_)
                      refine wl (s_pickf (et (k60 d9)) (et (k70 d5)) (dt (q70 p6)) ?_)
                      refine wnil ?_
                      refine xl ?_
                      exact ⟨_,_,rfl,(aK20 (aK7 (aO20 (aO20 (aO9 (aI aZ)))))),_,(!r289),rfl,h,le291,hS⟩
        · rintro _ t w13 ⟨μ4,b282,rfl,h,le292,hS⟩
          unfold sm_same_j2 at h
          refine nrm (mK20 (mK7 (mO20 (mO20 (mO9 (mi mz)))))) ?_
          refine xn ?_
          refine cifb (et (k70 d6)) (fun h293=>?_) (fun h293=>?_)
          · replace h:=iT h293 h
            refine cseq ?_
            refine creg ?_
            refine wl (s_assign ec (dt p4) ?_)
            refine wnil ?_
            refine xn ?_
            refine cret ?_
            refine (fun h=>xr (br (xr (xr (br (xr h)))))) ?_
            obtain rfl:=oI h
            refine ret1 rfl d4 ?_
            replace hS:=hS.drop Rm.z
            replace hS:=hS.drop Rm.z
            exact ⟨_,rfl,(le207.t (le277.t le292)),hS⟩
          · replace h:=iF h293 h
            refine cskip ?_
            refine xn ?_
            refine cseq ?_
            refine creg ?_
            refine wl (s_fa fa36_5 (et d6) rfl (dt (q70 p7)) ?_)
            refine wl (s_load ti33 (et (k70 d7)) ((hS.blk d0).cell d7) (dt (q70 p8)) ?_)
            refine wl (s_lensl Tryd.underlying33 (et (k70 d8)) (dt (q70 p9)) ?_)
            refine wl (s_move ec (dt (q80 p0)) ?_)
            refine wnil ?_
            refine xn ?_
            refine cblock ?_
            refine cloopE ([4]++[8]++rg 81 14) (by decide) (fun n m w=>∃ (μx:M) (i312:Int),m=(yK4 (yO1 4 (yK3 (yO1 8 (yK50 (yK20 (yK1 (.i (.int .i64 i312)::(yO10 81 (yO4 91 []))))))))))∧sm_same_l2 i107 l219 l235 (sm_same_l1 fu p_1 p_2 n_1) n i312=some r∧Le μ4 μx∧Sq μx w0 w (.blk b209 36 [.int .i64 i210,S s211,.int .i64 i212,S s213,.int .i64 i214,S s215,.int .i64 i216,.slice a217 l219.length c218,.slice a221 l223.length c222]::.blk b225 36 [.int .i64 i226,S s227,.int .i64 i228,S s229,.int .i64 i230,S s231,.int .i64 i232,.slice a233 l235.length c234,.slice a237 l239.length c238]::rsF)) (by rintro _ _ _ ⟨_,_,rfl,_⟩; rfl) _ _ (aK4 (aO1 (aK3 (aO1 (aK50 (aK20 (aK1 (aI (aO10 (aO4 aZ)))))))))) ⟨_,0,rfl,h,Le.r,hS⟩ ?_
            rintro n_2 _ t w14 ⟨μ5,i312,rfl,h,le331,hS⟩
            cases n_2 with
            | zero=>cases h
            | succ n_2 =>
            unfold sm_same_l2 at h
            refine cnrm (mK4 (mO1 (mK3 (mO1 (mK50 (mK20 (mK1 (mi (mO10 (mO4 mz)))))))))) ?_
            refine cseq ?_
            refine creg ?_
            refine wl (s_lss (et (k80 d0)) (et (k70 d9)) (dt (q80 p1)) ?_)
            refine wnil ?_
            refine xn ?_
            refine cseq ?_
            refine cifd (et (k80 d1)) (fun h332=>?_) (fun h332=>?_)
            · replace h:=iT h332 h
              refine cskip ?_
              refine xn ?_
              refine cseq ?_
              refine cblock ?_
              refine cseq ?_
              refine creg ?_
              refine wl (s_move (et (k80 d0)) (dt (q80 p2)) ?_)
              refine wl (s_assign (et (k80 d2)) (dt p8) ?_)
              refine wnil ?_
              refine xn ?_
              refine cseq ?_
              refine cdraw (by kernel_rfl) rfl fun w15 hh_ ho_ ht_ hu_=>?_
              replace hS:=hS.drew hh_ ho_ ht_ hu_
              refine sf_start ?_
              refine sf_pu (i:=0) [0,1,3,4,10] (blind_of fun _ _ _ h=>h.2) rfl rfl rfl (u_fa fa36_5 (et d6) rfl) (q80 p3) ?_
              refine sf_rd (i:=1) [1,3,4,10] (blind_of fun _ _ _ h=>h.2) rfl rfl rfl (u_load ti33 (et (k80 d3)) ((hS.blk d0).cell d7)) (q80 p4) ?_
              refine sf_pu (i:=2) [2,3,4,10] (blind_of fun _ _ _ h=>h.2) rfl rfl rfl (u_move (et d8)) (q80 p5) ?_
              replace h:=bI h; obtain ⟨x333,g334,h⟩:=h
              obtain ⟨b335,o336,cs337,e338,f339,m340⟩:=SlR.elem (m278.up (le292.t le331)) g334
              obtain rfl:=m340
              refine sf_pu (i:=3) [3,4,10] (blind_of fun _ _ _ h=>h.2) rfl rfl rfl (u_iax Tryd.underlying33 ti56 (et (k80 d4)) (et (k80 d5)) e338) (q80 p6) ?_
              refine sf_rd (i:=4) [4,10] (blind_of fun _ _ _ h=>h.2) rfl rfl rfl (u_loads ti56 (et (k80 d6)) (f339 _ hS.a) rfl) (q80 p7) ?_
              refine sf_pu (i:=5) [5,6,8,9,10] (blind_of fun _ _ _ h=>h.2) rfl rfl rfl (u_fa fa36_5 (et d7) rfl) (q80 p8) ?_
              refine sf_rd (i:=6) [6,8,9,10] (blind_of fun _ _ _ h=>h.2) rfl rfl rfl (u_load ti33 (et (k80 d8)) ((hS.blk d1).cell d7)) (q80 p9) ?_
              refine sf_pu (i:=7) [7,8,9,10] (blind_of fun _ _ _ h=>h.2) rfl rfl rfl (u_move (et d8)) (q90 p0) ?_
              replace h:=bI h; obtain ⟨x341,g342,h⟩:=h
              obtain ⟨b343,o344,cs345,e346,f347,m348⟩:=SlR.elem (m280.up (le292.t le331)) g342
              obtain rfl:=m348
              refine sf_pu (i:=8) [8,9,10] (blind_of fun _ _ _ h=>h.2) rfl rfl rfl (u_iax Tryd.underlying33 ti56 (et (k80 d9)) (et (k90 d0)) e346) (q90 p1) ?_
              refine sf_rd (i:=9) [9,10] (blind_of fun _ _ _ h=>h.2) rfl rfl rfl (u_loads ti56 (et (k90 d1)) (f347 _ hS.a) rfl) (q90 p2) ?_
              refine sf_pu (i:=10) [10] (blind_of fun _ _ _ h=>h.2) rfl rfl rfl (u_nea (ES.mk Tryd.underlying56 eh56 eg56) (et (k80 d7)) (et (k90 d2)) (EqFs.o rfl rfl rfl ti9 d0 d0 ((eq_str Tryd.underlying9)).up (EqFs.n rfl rfl rfl ti32 (Sb.s d1 (Sb.s d2 Sb.z)) (Sb.s d1 (Sb.s d2 Sb.z)) rfl rfl (eq_agg (ES.mk Tryd.underlying32 eh32 eg32) (EqFs.o rfl rfl rfl ti3 d0 d0 (eq_int Tryd.underlying3) (EqFs.o rfl rfl rfl ti9 d1 d1 (eq_str Tryd.underlying9) EqFs.z))) EqFs.z)) rfl) (q90 p3) ?_
              refine sf_nil ?_
              refine xn ?_
              refine cifnb (et (k90 d3)) (fun h349=>?_) (fun h349=>?_)
              · replace h:=iF h349 h
                refine cseq ?_
                refine creg ?_
                refine wl (s_assign ec (dt p4) ?_)
                refine wnil ?_
                refine xn ?_
                refine cret ?_
                refine (fun h=>br (xr (xr (br (br (xr (xr (br (xr h))))))))) ?_
                obtain rfl:=oI h
                refine ret1 rfl d4 ?_
                replace hS:=hS.drop Rm.z
                replace hS:=hS.drop Rm.z
                exact ⟨_,rfl,(le207.t (le277.t (le292.t le331))),hS⟩
              · replace h:=iT h349 h
                refine cskip ?_
                refine (fun h=>bn (xn h)) ?_
                refine creg ?_
                replace h:=bI h; obtain ⟨i350,g351,h⟩:=h
                refine wl (s_addc (et (k80 d0)) ec g351 (dt (q90 p4)) ?_)
                refine wl (s_move (et (k90 d4)) (dt (q80 p0)) ?_)
                refine wnil ?_
                refine xl ?_
                exact ⟨n_2,_,_,rfl,(aK4 (aO1 (aK3 (aO1 (aK50 (aK20 (aK1 (aI (aO10 (aO4 aZ)))))))))),⟨_,i350,rfl,h,le331,hS⟩,Nat.lt_succ_self _⟩
            · replace h:=iF h332 h
              refine cexit ?_
              refine (fun h=>xe (xe (bh h))) ?_
              refine (fun h=>bn (xn h)) ?_
              refine creg ?_
              replace h:=bI h; obtain ⟨i352,g353,h⟩:=h
              refine wl (s_addc (et (k10 d6)) ec g353 (dt (q90 p5)) ?_)
              refine wl (s_move (et (k90 d5)) (dt (q10 p6)) ?_)
              refine wnil ?_
              refine xl ?_
              replace hS:=hS.drop Rm.z
              replace hS:=hS.drop Rm.z
              exact ⟨n_1,_,_,rfl,(aK4 (aO5 (aK7 (aI (aO50 (aO20 (aO9 aZ))))))),⟨_,i352,rfl,h,(le207.t (le277.t (le292.t le331))),hS⟩,Nat.lt_succ_self _⟩
    · replace h:=iF h208 h
      refine cexit ?_
      refine (fun h=>xe (xe (bh h))) ?_
      refine xn ?_
      refine cseq ?_
      refine creg ?_
      refine wl (s_assign ec (dt p4) ?_)
      refine wnil ?_
      refine xn ?_
      refine cret ?_
      obtain rfl:=oI h
      refine ret1 rfl d4 ?_
      exact ⟨_,rfl,le207,hS⟩
theorem l2_alive_w {fu:Nat} {μ0:M} {w0 w:World} {rsF:List Res} (hg:Le Gm μ0)  {r:Bool}  (h:l2_alive fu =some r) (hS:Sq μ0 w0 w (rsF)):CallsV Tryd.prog 4 [] w (fun v w'=>∃ (μ':M) ,v=.bool r∧Le μ0 μ'∧Sq μ' w0 w' (rsF)):=by
  unfold l2_alive at h
  refine enter Tryd.func4 rfl (frm:=[_,_,_,_,_,_,_,_,_,_,_,_,_,_,_,_,_,_,_,_,_,_,_,_,_,_,_,_,_,_,_,_,_,_,_,_,_,_,_,_,_]) rfl ?_
  refine cseq ?_
  refine creg ?_
  refine wl (s_assign ec (dt p0) ?_)
  refine wnil ?_
  refine xn ?_
  refine cseq ?_
  refine creg ?_
  replace h:=bI h; obtain ⟨r1,g2,h⟩:=h
  refine wl (s_callv isfn5 ef (e1 ec e0) (syn_read_w hg g2 hS) ?_)
  rintro _ w1 ⟨μ1,a4,c5,rfl,le3,hS,m6⟩
  refine pu (dt p4) ?_
  refine wl (s_move (et d4) (dt p3) ?_)
  refine wl (s_extr (et d3) d0 (dt p5) ?_)
  refine wl (s_extr (et d3) d1 (dt p6) ?_)
  refine wl (s_alloc ti26 hS ?_); clear hS; intro b7 w2 hb8 hS; refine pu (dt p2) ?_
  refine wl (s_assign (et d5) (dt p1) ?_)
  refine wl (s_storeA ti26 (et d2) (et d6) rfl rfl hS d0 rfl p0 dn ?_)
  clear hS; intro w3 hS
  refine wnil ?_
  refine xn ?_
  refine cseq ?_
  refine creg ?_
  refine wl (s_fa fa26_0 (et d2) rfl (dt p7) ?_)
  refine wl (s_load ti24 (et d7) ((hS.blk d0).cell d0) (dt p8) ?_)
  refine wl (s_eqi (et d8) ec (dt p9) ?_)
  refine wl (s_move (et d9) (dt (q10 p0)) ?_)
  refine wspd (k10 d0) (q10 p0) (q10 p0) (fun h9=>?_) (fun h9=>?_)
  · replace h:=iT h9 h
    refine wy rfl (k10 d0) (s_move (et d1) (dt (q10 p1)) ?_)
    refine wy rfl (k10 d0) (s_lensl Tryd.underlying23 (et (k10 d1)) (dt (q10 p2)) ?_)
    refine wy rfl (k10 d0) (s_eqi (et (k10 d2)) ec (dt (q10 p3)) ?_)
    refine wl (s_pickt (et (k10 d0)) (et (k10 d3)) (dt (q10 p4)) ?_)
    refine wl (s_move (et (k10 d4)) (dt (q10 p5)) ?_)
    refine wspd (k10 d5) (q10 p5) (q10 p5) (fun h10=>?_) (fun h10=>?_)
    · replace h:=iT h10 h
      refine wy rfl (k10 d5) (s_move (et d1) (dt (q10 p6)) ?_)
      replace h:=bI h; obtain ⟨x11,g12,h⟩:=h
      obtain ⟨b13,o14,cs15,e16,f17,m18⟩:=SlR.elem m6 g12
      obtain ⟨a19,c20,a22,c23,rfl,m21,m24⟩:=m18
      refine wy rfl (k10 d5) (s_iax Tryd.underlying23 ti36 (et (k10 d6)) ec e16 (dt (q10 p7)) ?_)
      refine wy rfl (k10 d5) (s_fa fa36_4 (et (k10 d7)) rfl (dt (q10 p8)) ?_)
      refine wy rfl (k10 d5) (s_load ti3 (et (k10 d8)) ((f17 _ hS.a).one d6) (dt (q10 p9)) ?_)
      refine wy rfl (k10 d5) (s_eqi (et (k10 d9)) ec (dt (q20 p0)) ?_)
      refine wl (s_pickt (et (k10 d5)) (et (k20 d0)) (dt (q20 p1)) ?_)
      refine wl (s_move (et (k20 d1)) (dt (q20 p2)) ?_)
      refine wspd (k20 d2) (q20 p2) (q20 p2) (fun h25=>?_) (fun h25=>?_)
      · replace h:=iT h25 h
        refine wy rfl (k20 d2) (s_move (et d1) (dt (q20 p3)) ?_)
        replace h:=bI h; obtain ⟨x26,g27,h⟩:=h
        obtain ⟨b28,o29,cs30,e31,f32,m33⟩:=SlR.elem m6 g27
        obtain ⟨a34,c35,a37,c38,rfl,m36,m39⟩:=m33
        refine wy rfl (k20 d2) (s_iax Tryd.underlying23 ti36 (et (k20 d3)) ec e31 (dt (q20 p4)) ?_)
        refine wy rfl (k20 d2) (s_fa fa36_6 (et (k20 d4)) rfl (dt (q20 p5)) ?_)
        refine wy rfl (k20 d2) (s_load ti34 (et (k20 d5)) ((f32 _ hS.a).one d8) (dt (q20 p6)) ?_)
        refine wy rfl (k20 d2) (s_lensl Tryd.underlying34 (et (k20 d6)) (dt (q20 p7)) ?_)
        refine wy rfl (k20 d2) (s_eqi (et (k20 d7)) ec (dt (q20 p8)) ?_)
        refine wl (s_pickt (et (k20 d2)) (et (k20 d8)) (dt (q20 p9)) ?_)
        refine wl (s_move (et (k20 d9)) (dt (q30 p0)) ?_)
        refine wspd (k30 d0) (q30 p0) (q30 p0) (fun h40=>?_) (fun h40=>?_)
        · replace h:=iT h40 h
          refine wy rfl (k30 d0) (s_move (et d1) (dt (q30 p1)) ?_)
          replace h:=bI h; obtain ⟨x41,g42,h⟩:=h
          obtain ⟨b43,o44,cs45,e46,f47,m48⟩:=SlR.elem m6 g42
          obtain ⟨a49,c50,a52,c53,rfl,m51,m54⟩:=m48
          refine wy rfl (k30 d0) (s_iax Tryd.underlying23 ti36 (et (k30 d1)) ec e46 (dt (q30 p2)) ?_)
          refine wy rfl (k30 d0) (s_fa fa36_6 (et (k30 d2)) rfl (dt (q30 p3)) ?_)
          refine wy rfl (k30 d0) (s_load ti34 (et (k30 d3)) ((f47 _ hS.a).one d8) (dt (q30 p4)) ?_)
          replace h:=bI h; obtain ⟨x55,g56,h⟩:=h
          obtain ⟨b57,o58,cs59,e60,f61,m62⟩:=SlR.elem m54 g56
          obtain ⟨a63,c64,a66,c67,a69,c70,rfl,m65,m68,m71⟩:=TStat.o m62
          refine wy rfl (k30 d0) (s_iax Tryd.underlying34 ti41 (et (k30 d4)) ec e60 (dt (q30 p5)) ?_)
          refine wy rfl (k30 d0) (s_fa fa41_2 (et (k30 d5)) rfl (dt (q30 p6)) ?_)
          refine wy rfl (k30 d0) (s_fa fa39_0 (et (k30 d6)) rfl (dt (q30 p7)) ?_)
          refine wy rfl (k30 d0) (s_load ti3 (et (k30 d7)) ((f61 _ hS.a).one d2) (dt (q30 p8)) ?_)
          refine wy rfl (k30 d0) (s_eqi (et (k30 d8)) ec (dt (q30 p9)) ?_)
          refine wl (s_pickt (et (k30 d0)) (et (k30 d9)) (dt (q40 p0)) ?_)
          refine wl (s_assign (et (k40 d0)) (dt p0) ?_)
          refine wnil ?_
          refine xn ?_
          refine cret ?_
          obtain rfl:=oI h
          refine ret1 rfl d0 ?_
          replace hS:=hS.drop Rm.z
          exact ⟨_,rfl,le3,hS⟩
        · replace h:=iF h40 h
          refine wn rfl (k30 d0) rfl (dt (q30 p1)) ?_
          refine wn rfl (k30 d0) rfl (dt (q30 p2)) ?_
          refine wn rfl (k30 d0) rfl (dt (q30 p3)) ?_
          refine wn rfl (k30 d0) rfl (dt (q30 p4)) ?_
          refine wn rfl (k30 d0) rfl (dt (q30 p5)) ?_
          refine wn rfl (k30 d0) rfl (dt (q30 p6)) ?_
          refine wn rfl (k30 d0) rfl (dt (q30 p7)) ?_
          refine wn rfl (k30 d0) rfl (dt (q30 p8)) ?_
          refine wn rfl (k30 d0) rfl (dt (q30 p9)) ?_
          refine wl (s_pickf (et (k30 d0)) ec (dt (q40 p0)) ?_)
          refine wl (s_assign (et (k40 d0)) (dt p0) ?_)
          refine wnil ?_
          refine xn ?_
          refine cret ?_
          obtain rfl:=oI h
          refine ret1 rfl d0 ?_
          replace hS:=hS.drop Rm.z
          exact ⟨_,rfl,le3,hS⟩
      · replace h:=iF h25 h
        refine wn rfl (k20 d2) rfl (dt (q20 p3)) ?_
        refine wn rfl (k20 d2) rfl (dt (q20 p4)) ?_
        refine wn rfl (k20 d2) rfl (dt (q20 p5)) ?_
        refine wn rfl (k20 d2) rfl (dt (q20 p6)) ?_
        refine wn rfl (k20 d2) rfl (dt (q20 p7)) ?_
        refine wn rfl (k20 d2) rfl (dt (q20 p8)) ?_
        refine wl (s_pickf (et (k20 d2)) ec (dt (q20 p9)) ?_)
        refine wl (s_move (et (k20 d9)) (dt (q30 p0)) ?_)
        refine wn rfl (k30 d0) rfl (dt (q30 p1)) ?_
        refine wn rfl (k30 d0) rfl (dt (q30 p2)) ?_
        refine wn rfl (k30 d0) rfl (dt (q30 p3)) ?_
        refine wn rfl (k30 d0) rfl (dt (q30 p4)) ?_
        refine wn rfl (k30 d0) rfl (dt (q30 p5)) ?_
        refine wn rfl (k30 d0) rfl (dt (q30 p6)) ?_
        refine wn rfl (k30 d0) rfl (dt (q30 p7)) ?_
        refine wn rfl (k30 d0) rfl (dt (q30 p8)) ?_
        refine wn rfl (k30 d0) rfl (dt (q30 p9)) ?_
        refine wl (s_pickf (et (k30 d0)) ec (dt (q40 p0)) ?_)
        refine wl (s_assign (et (k40 d0)) (dt p0) ?_)
        refine wnil ?_
        refine xn ?_
        refine cret ?_
        obtain rfl:=oI h
        refine ret1 rfl d0 ?_
        replace hS:=hS.drop Rm.z
        exact ⟨_,rfl,le3,hS⟩
    · replace h:=iF h10 h
      refine wn rfl (k10 d5) rfl (dt (q10 p6)) ?_
      refine wn rfl (k10 d5) rfl (dt (q10 p7)) ?_
      refine wn rfl (k10 d5) rfl (dt (q10 p8)) ?_
      refine wn rfl (k10 d5) rfl (dt (q10 p9)) ?_
      refine wn rfl (k10 d5) rfl (dt (q20 p0)) ?_
      refine wl (s_pickf (et (k10 d5)) ec (dt (q20 p1)) ?_)
      refine wl (s_move (et (k20 d1)) (dt (q20 p2)) ?_)
      refine wn rfl (k20 d2) rfl (dt (q20 p3)) ?_
      refine wn rfl (k20 d2) rfl (dt (q20 p4)) ?_
      refine wn rfl (k20 d2) rfl (dt (q20 p5)) ?_
      refine wn rfl (k20 d2) rfl (dt (q20 p6)) ?_
      refine wn rfl (k20 d2) rfl (dt (q20 p7)) ?_
      refine wn rfl (k20 d2) rfl (dt (q20 p8)) ?_
      refine wl (s_pickf (et (k20 d2)) ec (dt (q20 p9)) ?_)
      refine wl (s_move (et (k20 d9)) (dt (q30 p0)) ?_)
      refine wn rfl (k30 d0) rfl (dt (q30 p1)) ?_
      refine wn rfl (k30 d0) rfl (dt (q30 p2)) ?_
      refine wn rfl (k30 d0) rfl (dt (q30 p3)) ?_
      refine wn rfl (k30 d0) rfl (dt (q30 p4)) ?_
      refine wn rfl (k30 d0) rfl (dt (q30 p5)) ?_
      refine wn rfl (k30 d0) rfl (dt (q30 p6)) ?_
      refine wn rfl (k30 d0) rfl (dt (q30 p7)) ?_
      refine wn rfl (k30 d0) rfl (dt (q30 p8)) ?_
      refine wn rfl (k30 d0) rfl (dt (q30 p9)) ?_
      refine wl (s_pickf (et (k30 d0)) ec (dt (q40 p0)) ?_)
      refine wl (s_assign (et (k40 d0)) (dt p0) ?_)
      refine wnil ?_
      refine xn ?_
      refine cret ?_
      obtain rfl:=oI h
      refine ret1 rfl d0 ?_
      replace hS:=hS.drop Rm.z
      exact ⟨_,rfl,le3,hS⟩
  · replace h:=iF h9 h
    refine wn rfl (k10 d0) rfl (dt (q10 p1)) ?_
    refine wn rfl (k10 d0) rfl (dt (q10 p2)) ?_
    refine wn rfl (k10 d0) rfl (dt (q10 p3)) ?_
    refine wl (s_pickf (et (k10 d0)) ec (dt (q10 p4)) ?_)
    refine wl (s_move (et (k10 d4)) (dt (q10 p5)) ?_)
    refine wn rfl (k10 d5) rfl (dt (q10 p6)) ?_
    refine wn rfl (k10 d5) rfl (dt (q10 p7)) ?_
    refine wn rfl (k10 d5) rfl (dt (q10 p8)) ?_
    refine wn rfl (k10 d5) rfl (dt (q10 p9)) ?_
    refine wn rfl (k10 d5) rfl (dt (q20 p0)) ?_
    refine wl (s_pickf (et (k10 d5)) ec (dt (q20 p1)) ?_)
    refine wl (s_move (et (k20 d1)) (dt (q20 p2)) ?_)
    refine wn rfl (k20 d2) rfl (dt (q20 p3)) ?_
    refine wn rfl (k20 d2) rfl (dt (q20 p4)) ?_
    refine wn rfl (k20 d2) rfl (dt (q20 p5)) ?_
    refine wn rfl (k20 d2) rfl (dt (q20 p6)) ?_
    refine wn rfl (k20 d2) rfl (dt (q20 p7)) ?_
    refine wn rfl (k20 d2) rfl (dt (q20 p8)) ?_
    refine wl (s_pickf (et (k20 d2)) ec (dt (q20 p9)) ?_)
    refine wl (s_move (et (k20 d9)) (dt (q30 p0)) ?_)
    refine wn rfl (k30 d0) rfl (dt (q30 p1)) ?_
    refine wn rfl (k30 d0) rfl (dt (q30 p2)) ?_
    refine wn rfl (k30 d0) rfl (dt (q30 p3)) ?_
    refine wn rfl (k30 d0) rfl (dt (q30 p4)) ?_
    refine wn rfl (k30 d0) rfl (dt (q30 p5)) ?_
    refine wn rfl (k30 d0) rfl (dt (q30 p6)) ?_
    refine wn rfl (k30 d0) rfl (dt (q30 p7)) ?_
    refine wn rfl (k30 d0) rfl (dt (q30 p8)) ?_
    refine wn rfl (k30 d0) rfl (dt (q30 p9)) ?_
    refine wl (s_pickf (et (k30 d0)) ec (dt (q40 p0)) ?_)
    refine wl (s_assign (et (k40 d0)) (dt p0) ?_)
    refine wnil ?_
    refine xn ?_
    refine cret ?_
    obtain rfl:=oI h
    refine ret1 rfl d0 ?_
    replace hS:=hS.drop Rm.z
    exact ⟨_,rfl,le3,hS⟩
end Go.Proofs.YtbdiobhgejmgoaaDoor
set_option maxRecDepth 100000
set_option maxHeartbeats 20000000
namespace Go.Proofs.YtbdiobhgejmgoaaDoor
open Go.Wk Go.Xt Go.Y
theorem law_synj_w {fu:Nat} {μ0:M} {w0 w:World} {rsF:List Res} (hg:Le Gm μ0) {p_1:List UInt8} {p_2:List UInt8} {r:Bool}  (h:law_synj fu p_1 p_2=some r) (hS:Sq μ0 w0 w (rsF)):CallsV Tryd.prog 3 [S p_1,S p_2] w (fun v w'=>∃ (μ':M) ,v=.bool r∧Le μ0 μ'∧Sq μ' w0 w' (rsF)):=by
  unfold law_synj at h
  refine enter Tryd.func3 rfl (frm:=[_,_,_,_,_,_,_,_,_,_,_,_,_,_,_,_,_,_,_,_,_,_,_,_,_,_,_,_,_,_,_,_,_,_,_,_,_,_,_,_,_,_,_,_,_,_,_,_,_,_,_,_,_,_,_,_,_]) rfl ?_
  refine cseq ?_
  refine creg ?_
  refine wl (s_assign ec (dt p4) ?_)
  refine wnil ?_
  refine xn ?_
  refine cseq ?_
  refine cseq ?_
  refine creg ?_
  replace h:=bI h; obtain ⟨r1,g2,h⟩:=h
  refine wl (s_callv isfn4 ef e0 (l2_alive_w hg g2 hS) ?_)
  rintro _ w1 ⟨μ1,rfl,le3,hS⟩
  refine pu (dt (q10 p1)) ?_
  refine wl (s_not (et (k10 d1)) (dt (q10 p2)) ?_)
  refine wnil ?_
  refine xn ?_
  refine cifnb (et (k10 d2)) (fun h4=>?_) (fun h4=>?_)
  · replace h:=iF h4 h
    refine cseq ?_
    refine creg ?_
    refine wl (s_assign ec (dt p4) ?_)
    refine wnil ?_
    refine xn ?_
    refine cret ?_
    refine xr ?_
    obtain rfl:=oI h
    refine ret1 rfl d4 ?_
    exact ⟨_,rfl,le3,hS⟩
  · replace h:=iT h4 h
    refine cskip ?_
    refine xn ?_
    refine cseq ?_
    refine creg ?_
    refine wl (s_move (et d0) (dt (q10 p4)) ?_)
    replace h:=bI h; obtain ⟨r5,g6,h⟩:=h
    refine wl (s_callv isfn5 ef (e1 (et (k10 d4)) e0) (syn_read_w (hg.t le3) g6 hS) ?_)
    rintro _ w2 ⟨μ2,a8,c9,rfl,le7,hS,m10⟩
    refine pu (dt (q10 p5)) ?_
    refine wl (s_move (et (k10 d5)) (dt (q10 p3)) ?_)
    refine wl (s_extr (et (k10 d3)) d0 (dt (q10 p6)) ?_)
    refine wl (s_extr (et (k10 d3)) d1 (dt (q10 p7)) ?_)
    refine wl (s_alloc ti26 hS ?_); clear hS; intro b11 w3 hb12 hS; refine pu (dt p6) ?_
    refine wl (s_assign (et (k10 d6)) (dt p5) ?_)
    refine wl (s_storeA ti26 (et d6) (et (k10 d7)) rfl rfl hS d0 rfl p0 dn ?_)
    clear hS; intro w4 hS
    refine wnil ?_
    refine xn ?_
    refine cseq ?_
    refine creg ?_
    refine wl (s_move (et d1) (dt (q10 p9)) ?_)
    replace h:=bI h; obtain ⟨r13,g14,h⟩:=h
    refine wl (s_callv isfn5 ef (e1 (et (k10 d9)) e0) (syn_read_w (hg.t (le3.t le7)) g14 hS) ?_)
    rintro _ w5 ⟨μ3,a16,c17,rfl,le15,hS,m18⟩
    refine pu (dt (q20 p0)) ?_
    refine wl (s_move (et (k20 d0)) (dt (q10 p8)) ?_)
    refine wl (s_extr (et (k10 d8)) d0 (dt (q20 p1)) ?_)
    refine wl (s_extr (et (k10 d8)) d1 (dt (q20 p2)) ?_)
    refine wl (s_alloc ti26 hS ?_); clear hS; intro b19 w6 hb20 hS; refine pu (dt p8) ?_
    refine wl (s_assign (et (k20 d1)) (dt p7) ?_)
    refine wl (s_storeA ti26 (et d8) (et (k20 d2)) rfl rfl hS d0 rfl p0 dn ?_)
    clear hS; intro w7 hS
    refine wnil ?_
    refine xn ?_
    refine cseq ?_
    refine cseq ?_
    refine ccutE (rg 23 7) (by decide) (fun m w=>∃ (μx:M) (b21:Bool),m=(yK20 (yK3 (yO7 23 (.i (.bool b21)::[]))))∧law_synj_j1 fu p_1 p_2 r5 r13 b21=some r∧Le μ3 μx∧Sq μx w0 w (rsF)) (by rintro _ _ ⟨_,_,rfl,_⟩; rfl) ?_ ?_
    · refine creg ?_
      refine wl (s_fa fa26_0 (et d6) rfl (dt (q20 p3)) ?_)
      refine wl (s_load ti24 (et (k20 d3)) ((hS.blk d1).cell d0) (dt (q20 p4)) ?_)
      refine wl (s_nei (et (k20 d4)) ec (dt (q20 p5)) ?_)
      refine wl (s_move (et (k20 d5)) (dt (q20 p6)) ?_)
      refine wspd (k20 d6) (q20 p6) (q20 p6) (fun h22=>?_) (fun h22=>?_)
      · replace h:=iT h22 h
        refine wn rfl (k20 d6) rfl (dt (q20 p7)) ?_
        refine wn rfl (k20 d6) rfl (dt (q20 p8)) ?_
        refine wn rfl (k20 d6) rfl (dt (q20 p9)) ?_
        refine wl (s_pickt (et (k20 d6)) ec (dt (q30 p0)) ?_)
        refine wnil ?_
        refine xl ?_
        replace hS:=hS.drop Rm.z
        replace hS:=hS.drop Rm.z
        exact ⟨_,_,rfl,(aK20 (aK3 (aO7 (aI aZ)))),_,true,rfl,h,Le.r,hS⟩
      · replace h:=iF h22 h
        refine wy rfl (k20 d6) (s_fa fa26_0 (et d8) rfl (dt (q20 p7)) ?_)
        refine wy rfl (k20 d6) (s_load ti24 (et (k20 d7)) ((hS.blk d0).cell d0) (dt (q20 p8)) ?_)
        refine wy rfl (k20 d6) (s_nei (et (k20 d8)) ec (dt (q20 p9)) ?_)
        refine wl (s_pickf (et (k20 d6)) (et (k20 d9)) (dt (q30 p0)) ?_)
        refine wnil ?_
        refine xl ?_
        replace hS:=hS.drop Rm.z
        replace hS:=hS.drop Rm.z
        exact ⟨_,_,rfl,(aK20 (aK3 (aO7 (aI aZ)))),_,(decide (r13.2.Err≠0)),rfl,h,Le.r,hS⟩
    · rintro _ t w8 ⟨μ4,b21,rfl,h,le23,hS⟩
      unfold law_synj_j1 at h
      refine nrm (mK20 (mK3 (mO7 (mi mz)))) ?_
      refine xn ?_
      refine cifb (et (k30 d0)) (fun h24=>?_) (fun h24=>?_)
      · replace h:=iT h24 h
        refine cseq ?_
        refine creg ?_
        refine wl (s_assign ec (dt p4) ?_)
        refine wnil ?_
        refine xn ?_
        refine cret ?_
        refine xr ?_
        obtain rfl:=oI h
        refine ret1 rfl d4 ?_
        exact ⟨_,rfl,(le3.t (le7.t (le15.t le23))),hS⟩
      · replace h:=iF h24 h
        refine cskip ?_
        refine xn ?_
        refine cseq ?_
        refine creg ?_
        refine wl (s_move (et d0) (dt (q30 p2)) ?_)
        replace h:=bI h; obtain ⟨s25,g26,h⟩:=h
        refine wl (s_catc (et (k30 d2)) ec g26 (dt (q30 p3)) ?_)
        refine wl (s_move (et d1) (dt (q30 p4)) ?_)
        replace h:=bI h; obtain ⟨s27,g28,h⟩:=h
        refine wl (s_catc (et (k30 d3)) (et (k30 d4)) g28 (dt (q30 p5)) ?_)
        replace h:=bI h; obtain ⟨r29,g30,h⟩:=h
        refine wl (s_callv isfn5 ef (e1 (et (k30 d5)) e0) (syn_read_w (hg.t (le3.t (le7.t (le15.t le23)))) g30 hS) ?_)
        rintro _ w9 ⟨μ5,a32,c33,rfl,le31,hS,m34⟩
        refine pu (dt (q30 p6)) ?_
        refine wl (s_move (et (k30 d6)) (dt (q30 p1)) ?_)
        refine wl (s_extr (et (k30 d1)) d0 (dt (q30 p7)) ?_)
        refine wl (s_extr (et (k30 d1)) d1 (dt (q30 p8)) ?_)
        refine wl (s_alloc ti26 hS ?_); clear hS; intro b35 w10 hb36 hS; refine pu (dt (q10 p0)) ?_
        refine wl (s_assign (et (k30 d7)) (dt p9) ?_)
        refine wl (s_storeA ti26 (et (k10 d0)) (et (k30 d8)) rfl rfl hS d0 rfl p0 dn ?_)
        clear hS; intro w11 hS
        refine wnil ?_
        refine xn ?_
        refine cseq ?_
        refine cseq ?_
        refine creg ?_
        refine wl (s_fa fa26_0 (et (k10 d0)) rfl (dt (q30 p9)) ?_)
        refine wl (s_load ti24 (et (k30 d9)) ((hS.blk d0).cell d0) (dt (q40 p0)) ?_)
        refine wl (s_nei (et (k40 d0)) ec (dt (q40 p1)) ?_)
        refine wnil ?_
        refine xn ?_
        refine cifd (et (k40 d1)) (fun h37=>?_) (fun h37=>?_)
        · replace h:=iT h37 h
          refine cseq ?_
          refine creg ?_
          refine wl (s_fa fa26_0 (et (k10 d0)) rfl (dt (q40 p2)) ?_)
          refine wl (s_load ti24 (et (k40 d2)) ((hS.blk d0).cell d0) (dt (q40 p3)) ?_)
          refine wl (s_eqi (et (k40 d3)) ec (dt (q40 p4)) ?_)
          refine wl (s_move (et (k40 d4)) (dt (q40 p5)) ?_)
          refine wspd (k40 d5) (q40 p5) (q40 p5) (fun h38=>?_) (fun h38=>?_)
          · replace h:=iT h38 h
            refine wn rfl (k40 d5) rfl (dt (q40 p6)) ?_
            refine wn rfl (k40 d5) rfl (dt (q40 p7)) ?_
            refine wn rfl (k40 d5) rfl (dt (q40 p8)) ?_
            refine wl (s_pickt (et (k40 d5)) ec (dt (q40 p9)) ?_)
            refine wl (s_assign (et (k40 d9)) (dt p4) ?_)
            refine wnil ?_
            refine xn ?_
            refine cret ?_
            refine xr ?_
            obtain rfl:=oI h
            refine ret1 rfl d4 ?_
            replace hS:=hS.drop Rm.z
            exact ⟨_,rfl,(le3.t (le7.t (le15.t (le23.t le31)))),hS⟩
          · replace h:=iF h38 h
            refine wy rfl (k40 d5) (s_fa fa26_0 (et (k10 d0)) rfl (dt (q40 p6)) ?_)
            refine wy rfl (k40 d5) (s_load ti24 (et (k40 d6)) ((hS.blk d0).cell d0) (dt (q40 p7)) ?_)
            refine wy rfl (k40 d5) (s_eqi (et (k40 d7)) ec (dt (q40 p8)) ?_)
            refine wl (s_pickf (et (k40 d5)) (et (k40 d8)) (dt (q40 p9)) ?_)
            refine wl (s_assign (et (k40 d9)) (dt p4) ?_)
            refine wnil ?_
            refine xn ?_
            refine cret ?_
            refine xr ?_
            obtain rfl:=oI h
            refine ret1 rfl d4 ?_
            replace hS:=hS.drop Rm.z
            exact ⟨_,rfl,(le3.t (le7.t (le15.t (le23.t le31)))),hS⟩
        · replace h:=iF h37 h
          refine cskip ?_
          refine xn ?_
          refine cseq ?_
          refine creg ?_
          refine wl (s_move (et d9) (dt (q50 p0)) ?_)
          refine wl (s_bsl0 Tryd.underlying23 ti36 hS ?_); clear hS; intro b39 w12 hb40 hS; refine pu (dt (q50 p1)) ?_
          refine wl (s_move (et d5) (dt (q50 p2)) ?_)
          replace hS:=hS.blkRow (n:=0) (sz:=Mo.sz TDef) d0 rfl (by decide) p0
          have m41:Rw μ5 [] ([]:List TDef):=Rw.nil
          replace h:=bI h; obtain ⟨l44,g45,h⟩:=h
          obtain ⟨cs46,m47,m48⟩:=Sl.cells (m10.up (le15.t (le23.t le31)))
          have m43:=Rw.app m41 m47 g45
          refine wl (s_appS Tryd.underlying23 ti36 rfl (et (k50 d1)) (et (k50 d2)) hS d0 (fun e=>(m48 e)) m47 g45 (by decide) ?_); clear hS; intro v42 w13 rs_ hp_ hS; cases (show _=rs_ from hp_)
          replace hS:=Sep.reput hS p0; refine pu (dt (q50 p3)) ?_
          refine wl (s_move (et d7) (dt (q50 p4)) ?_)
          replace h:=bI h; obtain ⟨l51,g52,h⟩:=h
          obtain ⟨cs53,m54,m55⟩:=Sl.cells (m18.up (le23.t le31))
          have m50:=Rw.app m43 m54 g52
          refine wl (s_appS Tryd.underlying23 ti36 rfl (et (k50 d3)) (et (k50 d4)) hS d0 (fun e=>(m55 e)) m54 g52 (by decide) ?_); clear hS; intro v49 w14 rs_ hp_ hS; cases (show _=rs_ from hp_)
          replace hS:=Sep.reput hS p0; refine pu (dt (q50 p5)) ?_
          obtain ⟨μ6,a56,c57,e60,le59,m58,hq_⟩:=Sep.frzRow hS m50 rfl; clear hS
          subst e60; have hS:=hq_; clear hq_
          replace h:=bI h; obtain ⟨r61,g62,h⟩:=h
          refine wl (s_callv isfn6 ef (e1 (et (k50 d0)) (e1 (et (k50 d5)) e0)) (sm_same_w (hg.t (le3.t (le7.t (le15.t (le23.t (le31.t le59)))))) (m34.up le59) m58 g62 hS) ?_)
          rintro _ w15 ⟨μ7,rfl,le63,hS⟩
          refine pu (dt (q50 p6)) ?_
          refine wl (s_assign (et (k50 d6)) (dt p4) ?_)
          refine wnil ?_
          refine xn ?_
          refine cret ?_
          obtain rfl:=oI h
          refine ret1 rfl d4 ?_
          replace hS:=hS.drop Rm.z
          exact ⟨_,rfl,(le3.t (le7.t (le15.t (le23.t (le31.t (le59.t le63)))))),hS⟩
end Go.Proofs.YtbdiobhgejmgoaaDoor
