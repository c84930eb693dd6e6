/- Contracts of names, and of the document's answer. -/
import Derived.Test.YtjbmnfilgedebaaDoorCLexC
import Derived.Test.YtjbmnfilgedebaaDoorCLx4
set_option linter.unusedVariables false
set_option linter.unusedSimpArgs false
namespace Go.Proofs.YtjbmnfilgedebaaDoor
open Go.Wk Go.Lx
theorem Contains_c (h sub : List UInt8) (hs : h.length < 4294967281) (w0 : World) (hm : ∃ m, w0.cell? ⟨2, 0, none⟩ = some (.int .i64 m)) :
    CallsV Tryd.prog 21 [S h, S sub] w0 fun v w => v = .bool (Lib.contains h sub) ∧ w = w0 :=
  let ⟨m, hm⟩ := hm
  ⟨(Tryd.strings_Contains ⟨⟨h⟩⟩ ⟨⟨sub⟩⟩ m w0 hs hm).mono fun e w he => by
    obtain ⟨rfl, rfl⟩ := he
    exact ⟨rfl, rfl⟩⟩

theorem Class_c (c : UInt8) : CallsP Tryd.prog 19 [.int .u8 c.toNat] (.int .i64 (classB c)) := by
  intro w
  refine enter Tryd.func19 rfl (frm := [_, _, _, _, _, _, _, _, _, _, _, _, _, _, _, _, _, _, _, _, _, _, _, _, _, _, _, _, _, _, _, _, _]) rfl ?_
  refine cseq ?_
  refine creg ?_
  refine wl (s_assign ec (dt p2) ?_)
  refine wnil ?_
  refine xn ?_
  refine cseq ?_
  refine cblock ?_
  refine cseq ?_
  refine cseq ?_
  refine creg ?_
  refine wl (s_move (et d0) (dt p4) ?_)
  refine wl (s_geq (et d4) ec (dt p5) ?_)
  refine wl (s_move (et d5) (dt p6) ?_)
  refine wspd d6 p6 p6 (fun g1_2 => ?_) (fun g1_2 => ?_)
  · refine wy rfl d6 (s_move (et d0) (dt p7) ?_)
    refine wy rfl d6 (s_leq (et d7) ec (dt p8) ?_)
    refine wl (s_pickt (et d6) (et d8) (dt p9) ?_)
    refine wl (s_assign (et d9) (dt p3) ?_)
    refine wnil ?_
    refine xn ?_
    refine cifd (et d3) (fun h0 => ?_) (fun h0 => ?_)
    · refine cskip ?_
      refine xn ?_
      refine cifdt (et d3) h0 ?_
      refine cseq ?_
      refine creg ?_
      refine wl (s_assign ec (dt p2) ?_)
      refine wnil ?_
      refine xn ?_
      refine cret ?_
      refine (fun h => br (xr h)) ?_
      refine ret1 rfl d2 ?_
      refine ⟨?_, rfl⟩; congr 1; unfold classB letterB digitB blankB; simp only [Bool.or_eq_true, Bool.and_eq_true, decide_eq_true_eq, beq_iff_eq]; repeat' (split)
      all_goals first | rfl | omega
    · refine creg ?_
      refine wl (s_move (et d0) (dt (ps p0)) ?_)
      refine wl (s_eqi (et (ds d0)) ec (dt (ps p1)) ?_)
      refine wl (s_assign (et (ds d1)) (dt p3) ?_)
      refine wnil ?_
      refine xn ?_
      refine cifd (et d3) (fun h1 => ?_) (fun h1 => ?_)
      · refine cseq ?_
        refine creg ?_
        refine wl (s_assign ec (dt p2) ?_)
        refine wnil ?_
        refine xn ?_
        refine cret ?_
        refine (fun h => br (xr h)) ?_
        refine ret1 rfl d2 ?_
        refine ⟨?_, rfl⟩; congr 1; unfold classB letterB digitB blankB; simp only [Bool.or_eq_true, Bool.and_eq_true, decide_eq_true_eq, beq_iff_eq]; repeat' (split)
        all_goals first | rfl | omega
      · refine cseq ?_
        refine creg ?_
        refine wl (s_move (et d0) (dt (ps p3)) ?_)
        refine wl (s_geq (et (ds d3)) ec (dt (ps p4)) ?_)
        refine wl (s_move (et (ds d4)) (dt (ps p5)) ?_)
        refine wspd (ds d5) (ps p5) (ps p5) (fun g4_2 => ?_) (fun g4_2 => ?_)
        · refine wy rfl (ds d5) (s_move (et d0) (dt (ps p6)) ?_)
          refine wy rfl (ds d5) (s_leq (et (ds d6)) ec (dt (ps p7)) ?_)
          refine wl (s_pickt (et (ds d5)) (et (ds d7)) (dt (ps p8)) ?_)
          refine wl (s_assign (et (ds d8)) (dt (ps p2)) ?_)
          refine wnil ?_
          refine xn ?_
          refine cifd (et (ds d2)) (fun h2 => ?_) (fun h2 => ?_)
          · refine cseq ?_
            refine creg ?_
            refine wl (s_assign ec (dt p2) ?_)
            refine wnil ?_
            refine xn ?_
            refine cret ?_
            refine (fun h => br (xr h)) ?_
            refine ret1 rfl d2 ?_
            refine ⟨?_, rfl⟩; congr 1; unfold classB letterB digitB blankB; simp only [Bool.or_eq_true, Bool.and_eq_true, decide_eq_true_eq, beq_iff_eq]; repeat' (split)
            all_goals first | rfl | omega
          · refine cseq ?_
            refine creg ?_
            refine wl (s_move (et d0) (dt (ps (ps p0))) ?_)
            refine wl (s_eqi (et (ds (ds d0))) ec (dt (ps (ps p1))) ?_)
            refine wl (s_move (et (ds (ds d1))) (dt (ps (ps p2))) ?_)
            refine wspd (ds (ds d2)) (ps (ps p2)) (ps (ps p2)) (fun g6_2 => ?_) (fun g6_2 => ?_)
            · refine wn rfl (ds (ds d2)) rfl (dt (ps (ps p3))) ?_
              refine wn rfl (ds (ds d2)) rfl (dt (ps (ps p4))) ?_
              refine wl (s_pickt (et (ds (ds d2))) ec (dt (ps (ps p5))) ?_)
              refine wl (s_move (et (ds (ds d5))) (dt (ps (ps p6))) ?_)
              refine wn rfl (ds (ds d6)) rfl (dt (ps (ps p7))) ?_
              refine wn rfl (ds (ds d6)) rfl (dt (ps (ps p8))) ?_
              refine wl (s_pickt (et (ds (ds d6))) ec (dt (ps (ps p9))) ?_)
              refine wl (s_assign (et (ds (ds d9))) (dt (ps p9)) ?_)
              refine wnil ?_
              refine xn ?_
              refine cift (et (ds d9)) ?_
              refine cseq ?_
              refine creg ?_
              refine wl (s_assign ec (dt p2) ?_)
              refine wnil ?_
              refine xn ?_
              refine cret ?_
              refine (fun h => br (xr h)) ?_
              refine ret1 rfl d2 ?_
              refine ⟨?_, rfl⟩; congr 1; unfold classB letterB digitB blankB; simp only [Bool.or_eq_true, Bool.and_eq_true, decide_eq_true_eq, beq_iff_eq]; repeat' (split)
              all_goals first | rfl | omega
            · refine wy rfl (ds (ds d2)) (s_move (et d0) (dt (ps (ps p3))) ?_)
              refine wy rfl (ds (ds d2)) (s_eqi (et (ds (ds d3))) ec (dt (ps (ps p4))) ?_)
              refine wl (s_pickf (et (ds (ds d2))) (et (ds (ds d4))) (dt (ps (ps p5))) ?_)
              refine wl (s_move (et (ds (ds d5))) (dt (ps (ps p6))) ?_)
              refine wspd (ds (ds d6)) (ps (ps p6)) (ps (ps p6)) (fun g6_6 => ?_) (fun g6_6 => ?_)
              · refine wn rfl (ds (ds d6)) rfl (dt (ps (ps p7))) ?_
                refine wn rfl (ds (ds d6)) rfl (dt (ps (ps p8))) ?_
                refine wl (s_pickt (et (ds (ds d6))) ec (dt (ps (ps p9))) ?_)
                refine wl (s_assign (et (ds (ds d9))) (dt (ps p9)) ?_)
                refine wnil ?_
                refine xn ?_
                refine cift (et (ds d9)) ?_
                refine cseq ?_
                refine creg ?_
                refine wl (s_assign ec (dt p2) ?_)
                refine wnil ?_
                refine xn ?_
                refine cret ?_
                refine (fun h => br (xr h)) ?_
                refine ret1 rfl d2 ?_
                refine ⟨?_, rfl⟩; congr 1; unfold classB letterB digitB blankB; simp only [Bool.or_eq_true, Bool.and_eq_true, decide_eq_true_eq, beq_iff_eq]; repeat' (split)
                all_goals first | rfl | omega
              · refine wy rfl (ds (ds d6)) (s_move (et d0) (dt (ps (ps p7))) ?_)
                refine wy rfl (ds (ds d6)) (s_eqi (et (ds (ds d7))) ec (dt (ps (ps p8))) ?_)
                refine wl (s_pickf (et (ds (ds d6))) (et (ds (ds d8))) (dt (ps (ps p9))) ?_)
                refine wl (s_assign (et (ds (ds d9))) (dt (ps p9)) ?_)
                refine wnil ?_
                refine xn ?_
                refine cifd (et (ds d9)) (fun h3 => ?_) (fun h3 => ?_)
                · refine cseq ?_
                  refine creg ?_
                  refine wl (s_assign ec (dt p2) ?_)
                  refine wnil ?_
                  refine xn ?_
                  refine cret ?_
                  refine (fun h => br (xr h)) ?_
                  refine ret1 rfl d2 ?_
                  refine ⟨?_, rfl⟩; congr 1; unfold classB letterB digitB blankB; simp only [Bool.or_eq_true, Bool.and_eq_true, decide_eq_true_eq, beq_iff_eq]; repeat' (split)
                  all_goals first | rfl | omega
                · refine cseq ?_
                  refine creg ?_
                  refine wl (s_move (et d0) (dt (ps (ps (ps p1)))) ?_)
                  refine wl (s_eqi (et (ds (ds (ds d1)))) ec (dt (ps (ps (ps p2)))) ?_)
                  refine wl (s_assign (et (ds (ds (ds d2)))) (dt (ps (ps (ps p0)))) ?_)
                  refine wnil ?_
                  refine xn ?_
                  refine cifd (et (ds (ds (ds d0)))) (fun h4 => ?_) (fun h4 => ?_)
                  · refine cseq ?_
                    refine creg ?_
                    refine wl (s_assign ec (dt p2) ?_)
                    refine wnil ?_
                    refine xn ?_
                    refine cret ?_
                    refine (fun h => br (xr h)) ?_
                    refine ret1 rfl d2 ?_
                    refine ⟨?_, rfl⟩; congr 1; unfold classB letterB digitB blankB; simp only [Bool.or_eq_true, Bool.and_eq_true, decide_eq_true_eq, beq_iff_eq]; repeat' (split)
                    all_goals first | rfl | omega
                  · refine cskip ?_
                    refine (fun h => bn (xn h)) ?_
                    refine cseq ?_
                    refine creg ?_
                    refine wl (s_assign ec (dt p2) ?_)
                    refine wnil ?_
                    refine xn ?_
                    refine cret ?_
                    refine ret1 rfl d2 ?_
                    refine ⟨?_, rfl⟩; congr 1; unfold classB letterB digitB blankB; simp only [Bool.or_eq_true, Bool.and_eq_true, decide_eq_true_eq, beq_iff_eq]; repeat' (split)
                    all_goals first | rfl | omega
        · refine wn rfl (ds d5) rfl (dt (ps p6)) ?_
          refine wn rfl (ds d5) rfl (dt (ps p7)) ?_
          refine wl (s_pickf (et (ds d5)) ec (dt (ps p8)) ?_)
          refine wl (s_assign (et (ds d8)) (dt (ps p2)) ?_)
          refine wnil ?_
          refine xn ?_
          refine ciff (et (ds d2)) ?_
          refine cseq ?_
          refine creg ?_
          refine wl (s_move (et d0) (dt (ps (ps p0))) ?_)
          refine wl (s_eqi (et (ds (ds d0))) ec (dt (ps (ps p1))) ?_)
          refine wl (s_move (et (ds (ds d1))) (dt (ps (ps p2))) ?_)
          refine wspd (ds (ds d2)) (ps (ps p2)) (ps (ps p2)) (fun g6_2 => ?_) (fun g6_2 => ?_)
          · refine wn rfl (ds (ds d2)) rfl (dt (ps (ps p3))) ?_
            refine wn rfl (ds (ds d2)) rfl (dt (ps (ps p4))) ?_
            refine wl (s_pickt (et (ds (ds d2))) ec (dt (ps (ps p5))) ?_)
            refine wl (s_move (et (ds (ds d5))) (dt (ps (ps p6))) ?_)
            refine wn rfl (ds (ds d6)) rfl (dt (ps (ps p7))) ?_
            refine wn rfl (ds (ds d6)) rfl (dt (ps (ps p8))) ?_
            refine wl (s_pickt (et (ds (ds d6))) ec (dt (ps (ps p9))) ?_)
            refine wl (s_assign (et (ds (ds d9))) (dt (ps p9)) ?_)
            refine wnil ?_
            refine xn ?_
            refine cift (et (ds d9)) ?_
            refine cseq ?_
            refine creg ?_
            refine wl (s_assign ec (dt p2) ?_)
            refine wnil ?_
            refine xn ?_
            refine cret ?_
            refine (fun h => br (xr h)) ?_
            refine ret1 rfl d2 ?_
            refine ⟨?_, rfl⟩; congr 1; unfold classB letterB digitB blankB; simp only [Bool.or_eq_true, Bool.and_eq_true, decide_eq_true_eq, beq_iff_eq]; repeat' (split)
            all_goals first | rfl | omega
          · refine wy rfl (ds (ds d2)) (s_move (et d0) (dt (ps (ps p3))) ?_)
            refine wy rfl (ds (ds d2)) (s_eqi (et (ds (ds d3))) ec (dt (ps (ps p4))) ?_)
            refine wl (s_pickf (et (ds (ds d2))) (et (ds (ds d4))) (dt (ps (ps p5))) ?_)
            refine wl (s_move (et (ds (ds d5))) (dt (ps (ps p6))) ?_)
            refine wspd (ds (ds d6)) (ps (ps p6)) (ps (ps p6)) (fun g6_6 => ?_) (fun g6_6 => ?_)
            · refine wn rfl (ds (ds d6)) rfl (dt (ps (ps p7))) ?_
              refine wn rfl (ds (ds d6)) rfl (dt (ps (ps p8))) ?_
              refine wl (s_pickt (et (ds (ds d6))) ec (dt (ps (ps p9))) ?_)
              refine wl (s_assign (et (ds (ds d9))) (dt (ps p9)) ?_)
              refine wnil ?_
              refine xn ?_
              refine cift (et (ds d9)) ?_
              refine cseq ?_
              refine creg ?_
              refine wl (s_assign ec (dt p2) ?_)
              refine wnil ?_
              refine xn ?_
              refine cret ?_
              refine (fun h => br (xr h)) ?_
              refine ret1 rfl d2 ?_
              refine ⟨?_, rfl⟩; congr 1; unfold classB letterB digitB blankB; simp only [Bool.or_eq_true, Bool.and_eq_true, decide_eq_true_eq, beq_iff_eq]; repeat' (split)
              all_goals first | rfl | omega
            · refine wy rfl (ds (ds d6)) (s_move (et d0) (dt (ps (ps p7))) ?_)
              refine wy rfl (ds (ds d6)) (s_eqi (et (ds (ds d7))) ec (dt (ps (ps p8))) ?_)
              refine wl (s_pickf (et (ds (ds d6))) (et (ds (ds d8))) (dt (ps (ps p9))) ?_)
              refine wl (s_assign (et (ds (ds d9))) (dt (ps p9)) ?_)
              refine wnil ?_
              refine xn ?_
              refine cifd (et (ds d9)) (fun h3 => ?_) (fun h3 => ?_)
              · refine cseq ?_
                refine creg ?_
                refine wl (s_assign ec (dt p2) ?_)
                refine wnil ?_
                refine xn ?_
                refine cret ?_
                refine (fun h => br (xr h)) ?_
                refine ret1 rfl d2 ?_
                refine ⟨?_, rfl⟩; congr 1; unfold classB letterB digitB blankB; simp only [Bool.or_eq_true, Bool.and_eq_true, decide_eq_true_eq, beq_iff_eq]; repeat' (split)
                all_goals first | rfl | omega
              · refine cseq ?_
                refine creg ?_
                refine wl (s_move (et d0) (dt (ps (ps (ps p1)))) ?_)
                refine wl (s_eqi (et (ds (ds (ds d1)))) ec (dt (ps (ps (ps p2)))) ?_)
                refine wl (s_assign (et (ds (ds (ds d2)))) (dt (ps (ps (ps p0)))) ?_)
                refine wnil ?_
                refine xn ?_
                refine cifd (et (ds (ds (ds d0)))) (fun h4 => ?_) (fun h4 => ?_)
                · refine cseq ?_
                  refine creg ?_
                  refine wl (s_assign ec (dt p2) ?_)
                  refine wnil ?_
                  refine xn ?_
                  refine cret ?_
                  refine (fun h => br (xr h)) ?_
                  refine ret1 rfl d2 ?_
                  refine ⟨?_, rfl⟩; congr 1; unfold classB letterB digitB blankB; simp only [Bool.or_eq_true, Bool.and_eq_true, decide_eq_true_eq, beq_iff_eq]; repeat' (split)
                  all_goals first | rfl | omega
                · refine cskip ?_
                  refine (fun h => bn (xn h)) ?_
                  refine cseq ?_
                  refine creg ?_
                  refine wl (s_assign ec (dt p2) ?_)
                  refine wnil ?_
                  refine xn ?_
                  refine cret ?_
                  refine ret1 rfl d2 ?_
                  refine ⟨?_, rfl⟩; congr 1; unfold classB letterB digitB blankB; simp only [Bool.or_eq_true, Bool.and_eq_true, decide_eq_true_eq, beq_iff_eq]; repeat' (split)
                  all_goals first | rfl | omega
  · refine wn rfl d6 rfl (dt p7) ?_
    refine wn rfl d6 rfl (dt p8) ?_
    refine wl (s_pickf (et d6) ec (dt p9) ?_)
    refine wl (s_assign (et d9) (dt p3) ?_)
    refine wnil ?_
    refine xn ?_
    refine ciff (et d3) ?_
    refine creg ?_
    refine wl (s_move (et d0) (dt (ps p0)) ?_)
    refine wl (s_eqi (et (ds d0)) ec (dt (ps p1)) ?_)
    refine wl (s_assign (et (ds d1)) (dt p3) ?_)
    refine wnil ?_
    refine xn ?_
    refine cifd (et d3) (fun h1 => ?_) (fun h1 => ?_)
    · refine cseq ?_
      refine creg ?_
      refine wl (s_assign ec (dt p2) ?_)
      refine wnil ?_
      refine xn ?_
      refine cret ?_
      refine (fun h => br (xr h)) ?_
      refine ret1 rfl d2 ?_
      refine ⟨?_, rfl⟩; congr 1; unfold classB letterB digitB blankB; simp only [Bool.or_eq_true, Bool.and_eq_true, decide_eq_true_eq, beq_iff_eq]; repeat' (split)
      all_goals first | rfl | omega
    · refine cseq ?_
      refine creg ?_
      refine wl (s_move (et d0) (dt (ps p3)) ?_)
      refine wl (s_geq (et (ds d3)) ec (dt (ps p4)) ?_)
      refine wl (s_move (et (ds d4)) (dt (ps p5)) ?_)
      refine wspd (ds d5) (ps p5) (ps p5) (fun g4_2 => ?_) (fun g4_2 => ?_)
      · refine wy rfl (ds d5) (s_move (et d0) (dt (ps p6)) ?_)
        refine wy rfl (ds d5) (s_leq (et (ds d6)) ec (dt (ps p7)) ?_)
        refine wl (s_pickt (et (ds d5)) (et (ds d7)) (dt (ps p8)) ?_)
        refine wl (s_assign (et (ds d8)) (dt (ps p2)) ?_)
        refine wnil ?_
        refine xn ?_
        refine cifd (et (ds d2)) (fun h2 => ?_) (fun h2 => ?_)
        · refine cseq ?_
          refine creg ?_
          refine wl (s_assign ec (dt p2) ?_)
          refine wnil ?_
          refine xn ?_
          refine cret ?_
          refine (fun h => br (xr h)) ?_
          refine ret1 rfl d2 ?_
          refine ⟨?_, rfl⟩; congr 1; unfold classB letterB digitB blankB; simp only [Bool.or_eq_true, Bool.and_eq_true, decide_eq_true_eq, beq_iff_eq]; repeat' (split)
          all_goals first | rfl | omega
        · refine cseq ?_
          refine creg ?_
          refine wl (s_move (et d0) (dt (ps (ps p0))) ?_)
          refine wl (s_eqi (et (ds (ds d0))) ec (dt (ps (ps p1))) ?_)
          refine wl (s_move (et (ds (ds d1))) (dt (ps (ps p2))) ?_)
          refine wspd (ds (ds d2)) (ps (ps p2)) (ps (ps p2)) (fun g6_2 => ?_) (fun g6_2 => ?_)
          · refine wn rfl (ds (ds d2)) rfl (dt (ps (ps p3))) ?_
            refine wn rfl (ds (ds d2)) rfl (dt (ps (ps p4))) ?_
            refine wl (s_pickt (et (ds (ds d2))) ec (dt (ps (ps p5))) ?_)
            refine wl (s_move (et (ds (ds d5))) (dt (ps (ps p6))) ?_)
            refine wn rfl (ds (ds d6)) rfl (dt (ps (ps p7))) ?_
            refine wn rfl (ds (ds d6)) rfl (dt (ps (ps p8))) ?_
            refine wl (s_pickt (et (ds (ds d6))) ec (dt (ps (ps p9))) ?_)
            refine wl (s_assign (et (ds (ds d9))) (dt (ps p9)) ?_)
            refine wnil ?_
            refine xn ?_
            refine cift (et (ds d9)) ?_
            refine cseq ?_
            refine creg ?_
            refine wl (s_assign ec (dt p2) ?_)
            refine wnil ?_
            refine xn ?_
            refine cret ?_
            refine (fun h => br (xr h)) ?_
            refine ret1 rfl d2 ?_
            refine ⟨?_, rfl⟩; congr 1; unfold classB letterB digitB blankB; simp only [Bool.or_eq_true, Bool.and_eq_true, decide_eq_true_eq, beq_iff_eq]; repeat' (split)
            all_goals first | rfl | omega
          · refine wy rfl (ds (ds d2)) (s_move (et d0) (dt (ps (ps p3))) ?_)
            refine wy rfl (ds (ds d2)) (s_eqi (et (ds (ds d3))) ec (dt (ps (ps p4))) ?_)
            refine wl (s_pickf (et (ds (ds d2))) (et (ds (ds d4))) (dt (ps (ps p5))) ?_)
            refine wl (s_move (et (ds (ds d5))) (dt (ps (ps p6))) ?_)
            refine wspd (ds (ds d6)) (ps (ps p6)) (ps (ps p6)) (fun g6_6 => ?_) (fun g6_6 => ?_)
            · refine wn rfl (ds (ds d6)) rfl (dt (ps (ps p7))) ?_
              refine wn rfl (ds (ds d6)) rfl (dt (ps (ps p8))) ?_
              refine wl (s_pickt (et (ds (ds d6))) ec (dt (ps (ps p9))) ?_)
              refine wl (s_assign (et (ds (ds d9))) (dt (ps p9)) ?_)
              refine wnil ?_
              refine xn ?_
              refine cift (et (ds d9)) ?_
              refine cseq ?_
              refine creg ?_
              refine wl (s_assign ec (dt p2) ?_)
              refine wnil ?_
              refine xn ?_
              refine cret ?_
              refine (fun h => br (xr h)) ?_
              refine ret1 rfl d2 ?_
              refine ⟨?_, rfl⟩; congr 1; unfold classB letterB digitB blankB; simp only [Bool.or_eq_true, Bool.and_eq_true, decide_eq_true_eq, beq_iff_eq]; repeat' (split)
              all_goals first | rfl | omega
            · refine wy rfl (ds (ds d6)) (s_move (et d0) (dt (ps (ps p7))) ?_)
              refine wy rfl (ds (ds d6)) (s_eqi (et (ds (ds d7))) ec (dt (ps (ps p8))) ?_)
              refine wl (s_pickf (et (ds (ds d6))) (et (ds (ds d8))) (dt (ps (ps p9))) ?_)
              refine wl (s_assign (et (ds (ds d9))) (dt (ps p9)) ?_)
              refine wnil ?_
              refine xn ?_
              refine cifd (et (ds d9)) (fun h3 => ?_) (fun h3 => ?_)
              · refine cseq ?_
                refine creg ?_
                refine wl (s_assign ec (dt p2) ?_)
                refine wnil ?_
                refine xn ?_
                refine cret ?_
                refine (fun h => br (xr h)) ?_
                refine ret1 rfl d2 ?_
                refine ⟨?_, rfl⟩; congr 1; unfold classB letterB digitB blankB; simp only [Bool.or_eq_true, Bool.and_eq_true, decide_eq_true_eq, beq_iff_eq]; repeat' (split)
                all_goals first | rfl | omega
              · refine cseq ?_
                refine creg ?_
                refine wl (s_move (et d0) (dt (ps (ps (ps p1)))) ?_)
                refine wl (s_eqi (et (ds (ds (ds d1)))) ec (dt (ps (ps (ps p2)))) ?_)
                refine wl (s_assign (et (ds (ds (ds d2)))) (dt (ps (ps (ps p0)))) ?_)
                refine wnil ?_
                refine xn ?_
                refine cifd (et (ds (ds (ds d0)))) (fun h4 => ?_) (fun h4 => ?_)
                · refine cseq ?_
                  refine creg ?_
                  refine wl (s_assign ec (dt p2) ?_)
                  refine wnil ?_
                  refine xn ?_
                  refine cret ?_
                  refine (fun h => br (xr h)) ?_
                  refine ret1 rfl d2 ?_
                  refine ⟨?_, rfl⟩; congr 1; unfold classB letterB digitB blankB; simp only [Bool.or_eq_true, Bool.and_eq_true, decide_eq_true_eq, beq_iff_eq]; repeat' (split)
                  all_goals first | rfl | omega
                · refine cskip ?_
                  refine (fun h => bn (xn h)) ?_
                  refine cseq ?_
                  refine creg ?_
                  refine wl (s_assign ec (dt p2) ?_)
                  refine wnil ?_
                  refine xn ?_
                  refine cret ?_
                  refine ret1 rfl d2 ?_
                  refine ⟨?_, rfl⟩; congr 1; unfold classB letterB digitB blankB; simp only [Bool.or_eq_true, Bool.and_eq_true, decide_eq_true_eq, beq_iff_eq]; repeat' (split)
                  all_goals first | rfl | omega
      · refine wn rfl (ds d5) rfl (dt (ps p6)) ?_
        refine wn rfl (ds d5) rfl (dt (ps p7)) ?_
        refine wl (s_pickf (et (ds d5)) ec (dt (ps p8)) ?_)
        refine wl (s_assign (et (ds d8)) (dt (ps p2)) ?_)
        refine wnil ?_
        refine xn ?_
        refine ciff (et (ds d2)) ?_
        refine cseq ?_
        refine creg ?_
        refine wl (s_move (et d0) (dt (ps (ps p0))) ?_)
        refine wl (s_eqi (et (ds (ds d0))) ec (dt (ps (ps p1))) ?_)
        refine wl (s_move (et (ds (ds d1))) (dt (ps (ps p2))) ?_)
        refine wspd (ds (ds d2)) (ps (ps p2)) (ps (ps p2)) (fun g6_2 => ?_) (fun g6_2 => ?_)
        · refine wn rfl (ds (ds d2)) rfl (dt (ps (ps p3))) ?_
          refine wn rfl (ds (ds d2)) rfl (dt (ps (ps p4))) ?_
          refine wl (s_pickt (et (ds (ds d2))) ec (dt (ps (ps p5))) ?_)
          refine wl (s_move (et (ds (ds d5))) (dt (ps (ps p6))) ?_)
          refine wn rfl (ds (ds d6)) rfl (dt (ps (ps p7))) ?_
          refine wn rfl (ds (ds d6)) rfl (dt (ps (ps p8))) ?_
          refine wl (s_pickt (et (ds (ds d6))) ec (dt (ps (ps p9))) ?_)
          refine wl (s_assign (et (ds (ds d9))) (dt (ps p9)) ?_)
          refine wnil ?_
          refine xn ?_
          refine cift (et (ds d9)) ?_
          refine cseq ?_
          refine creg ?_
          refine wl (s_assign ec (dt p2) ?_)
          refine wnil ?_
          refine xn ?_
          refine cret ?_
          refine (fun h => br (xr h)) ?_
          refine ret1 rfl d2 ?_
          refine ⟨?_, rfl⟩; congr 1; unfold classB letterB digitB blankB; simp only [Bool.or_eq_true, Bool.and_eq_true, decide_eq_true_eq, beq_iff_eq]; repeat' (split)
          all_goals first | rfl | omega
        · refine wy rfl (ds (ds d2)) (s_move (et d0) (dt (ps (ps p3))) ?_)
          refine wy rfl (ds (ds d2)) (s_eqi (et (ds (ds d3))) ec (dt (ps (ps p4))) ?_)
          refine wl (s_pickf (et (ds (ds d2))) (et (ds (ds d4))) (dt (ps (ps p5))) ?_)
          refine wl (s_move (et (ds (ds d5))) (dt (ps (ps p6))) ?_)
          refine wspd (ds (ds d6)) (ps (ps p6)) (ps (ps p6)) (fun g6_6 => ?_) (fun g6_6 => ?_)
          · refine wn rfl (ds (ds d6)) rfl (dt (ps (ps p7))) ?_
            refine wn rfl (ds (ds d6)) rfl (dt (ps (ps p8))) ?_
            refine wl (s_pickt (et (ds (ds d6))) ec (dt (ps (ps p9))) ?_)
            refine wl (s_assign (et (ds (ds d9))) (dt (ps p9)) ?_)
            refine wnil ?_
            refine xn ?_
            refine cift (et (ds d9)) ?_
            refine cseq ?_
            refine creg ?_
            refine wl (s_assign ec (dt p2) ?_)
            refine wnil ?_
            refine xn ?_
            refine cret ?_
            refine (fun h => br (xr h)) ?_
            refine ret1 rfl d2 ?_
            refine ⟨?_, rfl⟩; congr 1; unfold classB letterB digitB blankB; simp only [Bool.or_eq_true, Bool.and_eq_true, decide_eq_true_eq, beq_iff_eq]; repeat' (split)
            all_goals first | rfl | omega
          · refine wy rfl (ds (ds d6)) (s_move (et d0) (dt (ps (ps p7))) ?_)
            refine wy rfl (ds (ds d6)) (s_eqi (et (ds (ds d7))) ec (dt (ps (ps p8))) ?_)
            refine wl (s_pickf (et (ds (ds d6))) (et (ds (ds d8))) (dt (ps (ps p9))) ?_)
            refine wl (s_assign (et (ds (ds d9))) (dt (ps p9)) ?_)
            refine wnil ?_
            refine xn ?_
            refine cifd (et (ds d9)) (fun h3 => ?_) (fun h3 => ?_)
            · refine cseq ?_
              refine creg ?_
              refine wl (s_assign ec (dt p2) ?_)
              refine wnil ?_
              refine xn ?_
              refine cret ?_
              refine (fun h => br (xr h)) ?_
              refine ret1 rfl d2 ?_
              refine ⟨?_, rfl⟩; congr 1; unfold classB letterB digitB blankB; simp only [Bool.or_eq_true, Bool.and_eq_true, decide_eq_true_eq, beq_iff_eq]; repeat' (split)
              all_goals first | rfl | omega
            · refine cseq ?_
              refine creg ?_
              refine wl (s_move (et d0) (dt (ps (ps (ps p1)))) ?_)
              refine wl (s_eqi (et (ds (ds (ds d1)))) ec (dt (ps (ps (ps p2)))) ?_)
              refine wl (s_assign (et (ds (ds (ds d2)))) (dt (ps (ps (ps p0)))) ?_)
              refine wnil ?_
              refine xn ?_
              refine cifd (et (ds (ds (ds d0)))) (fun h4 => ?_) (fun h4 => ?_)
              · refine cseq ?_
                refine creg ?_
                refine wl (s_assign ec (dt p2) ?_)
                refine wnil ?_
                refine xn ?_
                refine cret ?_
                refine (fun h => br (xr h)) ?_
                refine ret1 rfl d2 ?_
                refine ⟨?_, rfl⟩; congr 1; unfold classB letterB digitB blankB; simp only [Bool.or_eq_true, Bool.and_eq_true, decide_eq_true_eq, beq_iff_eq]; repeat' (split)
                all_goals first | rfl | omega
              · refine cskip ?_
                refine (fun h => bn (xn h)) ?_
                refine cseq ?_
                refine creg ?_
                refine wl (s_assign ec (dt p2) ?_)
                refine wnil ?_
                refine xn ?_
                refine cret ?_
                refine ret1 rfl d2 ?_
                refine ⟨?_, rfl⟩; congr 1; unfold classB letterB digitB blankB; simp only [Bool.or_eq_true, Bool.and_eq_true, decide_eq_true_eq, beq_iff_eq]; repeat' (split)
                all_goals first | rfl | omega

theorem one_c (c : UInt8) (w0 : World) : CallsV Tryd.prog 20 [.int .u8 c.toNat] w0 fun v w => v = .bool (ones.contains c) ∧ Grow w0 w := by
  have hS : Sep (fun _ => True) (fun _ => False) w0 w0 [] (fun _ => True) := Sep.start w0 _ _ (Rob.const trivial)
  refine enter Tryd.func20 rfl (frm := [_, _, _, _, _, _, _, _, _, _, _, _, _, _, _, _]) rfl ?_
  refine cseq ?_
  refine creg ?_
  refine wl (s_assign ec (dt p2) ?_)
  refine wnil ?_
  refine xn ?_
  refine cseq ?_
  refine cseq ?_
  refine creg ?_
  refine wl (s_bsl Tryd.underlying45 ti5 (Parts.s ec rfl (Parts.s ec rfl (Parts.s ec rfl (Parts.s ec rfl (Parts.s ec rfl (Parts.s ec rfl (Parts.s ec rfl (Parts.s ec rfl (Parts.s ec rfl (Parts.s ec rfl (Parts.s ec rfl (Parts.s ec rfl (Parts.s ec rfl (Parts.s ec rfl Parts.z)))))))))))))) rfl rfl hS ?_)
  clear hS; intro b1 w1_ hb1 hS
  refine pu (dt p5) ?_
  refine wl (s_cvb Tryd.underlying45 Tryd.underlying5 (et d5) hS d0 ?_)
  clear hS; intro w2_ rs_ hp_ hS; cases (show _ = rs_ from hp_)
  replace hS := Sep.reput hS p0
  refine pu (dt p6) ?_
  refine wl (s_lensl Tryd.underlying45 (et d6) (dt p7) ?_)
  refine wl (s_move ec (dt p8) ?_)
  refine wnil ?_
  refine xn ?_
  refine cblock ?_
  refine cloop [2, 4, 9, 10, 11, 12, 13, 14, 15] (by decide) (fun (k : Nat) => [.k, .k, .o 2, .k, .o 4, .k, .k, .k, .i (.int .i64 k), .o 9, .o 10, .o 11, .o 12, .o 13, .o 14, .o 15]) (fun _ => rfl) (fun (k : Nat) (w : World) => k ≤ 14 ∧ (∀ y ∈ ones.take k, y ≠ c) ∧ Sep (fun _ => True) (fun _ => False) w0 w [.ro b1 5 (ones.map fun c => .int .u8 c.toNat)] (fun _ => True)) (fun (k : Nat) (w : World) => 14 - k) 0 (Ag.k (Ag.k (Ag.o (Ag.k (Ag.o (Ag.k (Ag.k (Ag.k (Ag.i (Ag.o (Ag.o (Ag.o (Ag.o (Ag.o (Ag.o (Ag.o Ag.z)))))))))))))))) ?_ ?_
  · exact ⟨Nat.zero_le _, by simp, hS⟩
  · rintro k t15 w hJ
    obtain ⟨hk, ha, hS⟩ := hJ
    refine cnrm (mk (mk (mo (mk (mo (mk (mk (mk (mi (mo (mo (mo (mo (mo (mo (mo mz)))))))))))))))) ?_
    refine cseq ?_
    refine creg ?_
    refine wl (s_lss (et d8) (et d7) (dt p9) ?_)
    refine wnil ?_
    refine xn ?_
    refine cseq ?_
    refine cifd (et d9) (fun h0 => ?_) (fun h0 => ?_)
    · obtain ⟨x, hx⟩ : ∃ x, ones[k]? = some x := ⟨_, List.getElem?_eq_getElem (show k < ones.length from by show k < 14; omega)⟩
      have hc : Lk (ones.map fun c => Value.int .u8 c.toNat) k (.int .u8 x.toNat) := by unfold Lk; rw [List.getElem?_map, hx]; rfl
      refine cskip ?_
      refine xn ?_
      refine cseq ?_
      refine cblock ?_
      refine cseq ?_
      refine creg ?_
      refine wl (s_ia Tryd.underlying45 ti5 (et d6) (et d8) (by omega) rfl (dt (ps p0)) ?_)
      refine wl (s_load ti5 (et (ds d0)) ((show w.cell? ⟨b1, 0 + (k : Int).toNat * 1, none⟩ = some (.int .u8 x.toNat) from by have := hS.ro d0 k _ hc; simpa using this)) (dt (ps p1)) ?_)
      refine wl (s_assign (et (ds d1)) (dt p4) ?_)
      refine wnil ?_
      refine xn ?_
      refine cseq ?_
      refine creg ?_
      refine wl (s_move (et d4) (dt (ps p2)) ?_)
      refine wl (s_move (et d0) (dt (ps p3)) ?_)
      refine wl (s_eqi (et (ds d2)) (et (ds d3)) (dt (ps p4)) ?_)
      refine wnil ?_
      refine xn ?_
      refine cifd (et (ds d4)) (fun h1 => ?_) (fun h1 => ?_)
      · refine cseq ?_
        refine creg ?_
        refine wl (s_assign ec (dt p2) ?_)
        refine wnil ?_
        refine xn ?_
        refine cret ?_
        refine (fun h => br (xr (xr (br (xr h))))) ?_
        refine ret1 rfl d2 ?_
        first
          | exact ⟨by
              have : x = c := UInt8.toNat_inj.1 (by omega)
              subst this
              have : x ∈ ones := List.mem_of_getElem? hx
              rw [List.contains_iff_mem.2 this], hS.keeps⟩
          | exact ⟨by
              have : ¬ c ∈ ones := by
                intro hm
                rw [show k = 14 by omega] at ha
                exact ha c (by simpa [ones] using hm) rfl
              simp [this], hS.keeps⟩
      · refine cskip ?_
        refine (fun h => bn (xn h)) ?_
        refine creg ?_
        refine wl (s_addn (b := 1) (et d8) ec (by omega) (dt (ps p5)) ?_)
        refine wl (s_move (et (ds d5)) (dt p8) ?_)
        refine wnil ?_
        refine xl ?_
        exact ⟨k + 1, _, rfl, (Ag.k (Ag.k (Ag.o (Ag.k (Ag.o (Ag.k (Ag.k (Ag.k (Ag.i (Ag.o (Ag.o (Ag.o (Ag.o (Ag.o (Ag.o (Ag.o Ag.z)))))))))))))))), ⟨by omega, by
          intro y hy
          rw [List.take_add_one, hx] at hy
          rcases List.mem_append.1 hy with h | h
          · exact ha y h
          · simp at h; subst h; intro e; subst e; exact h1 rfl, hS⟩, by omega⟩
    · refine cexit ?_
      refine (fun h => xe (xe (bh h))) ?_
      refine xn ?_
      refine cseq ?_
      refine creg ?_
      refine wl (s_assign ec (dt p2) ?_)
      refine wnil ?_
      refine xn ?_
      refine cret ?_
      refine ret1 rfl d2 ?_
      first
        | exact ⟨by
            have : x = c := UInt8.toNat_inj.1 (by omega)
            subst this
            have : x ∈ ones := List.mem_of_getElem? hx
            rw [List.contains_iff_mem.2 this], hS.keeps⟩
        | exact ⟨by
            have : ¬ c ∈ ones := by
              intro hm
              rw [show k = 14 by omega] at ha
              exact ha c (by simpa [ones] using hm) rfl
            simp [this], hS.keeps⟩

theorem Reserved_c (l : List UInt8) (w0 : World) : CallsV Tryd.prog 23 [S l] w0 fun v w => v = .bool (reserved.contains l) ∧ Grow w0 w := by
  have hS : Sep (fun _ => True) (fun _ => False) w0 w0 [] (fun _ => True) := Sep.start w0 _ _ (Rob.const trivial)
  refine enter Tryd.func23 rfl (frm := [_, _, _, _, _, _, _, _, _, _, _, _, _, _, _]) rfl ?_
  refine cseq ?_
  refine creg ?_
  refine wl (s_assign ec (dt p2) ?_)
  refine wnil ?_
  refine xn ?_
  refine cseq ?_
  refine cseq ?_
  refine creg ?_
  refine wl (s_bsl Tryd.underlying44 ti9 (Parts.s ec rfl (Parts.s ec rfl (Parts.s ec rfl (Parts.s ec rfl (Parts.s ec rfl (Parts.s ec rfl (Parts.s ec rfl (Parts.s ec rfl (Parts.s ec rfl (Parts.s ec rfl (Parts.s ec rfl (Parts.s ec rfl (Parts.s ec rfl (Parts.s ec rfl (Parts.s ec rfl (Parts.s ec rfl (Parts.s ec rfl (Parts.s ec rfl (Parts.s ec rfl (Parts.s ec rfl (Parts.s ec rfl (Parts.s ec rfl (Parts.s ec rfl (Parts.s ec rfl (Parts.s ec rfl (Parts.s ec rfl (Parts.s ec rfl Parts.z))))))))))))))))))))))))))) rfl rfl hS ?_)
  clear hS; intro b1 w1_ hb1 hS
  refine pu (dt p5) ?_
  refine wl (s_lensl Tryd.underlying44 (et d5) (dt p6) ?_)
  refine wl (s_move ec (dt p7) ?_)
  refine wnil ?_
  refine xn ?_
  refine cblock ?_
  refine cloop [2, 4, 8, 9, 10, 11, 12, 13, 14] (by decide) (fun (k : Nat) => [.k, .k, .o 2, .k, .o 4, .k, .k, .i (.int .i64 k), .o 8, .o 9, .o 10, .o 11, .o 12, .o 13, .o 14]) (fun _ => rfl) (fun (k : Nat) (w : World) => k ≤ 27 ∧ (∀ y ∈ reserved.take k, y ≠ l) ∧ Sep (fun _ => True) (fun _ => False) w0 w [.blk b1 9 (reserved.map S)] (fun _ => True)) (fun (k : Nat) (w : World) => 27 - k) 0 (Ag.k (Ag.k (Ag.o (Ag.k (Ag.o (Ag.k (Ag.k (Ag.i (Ag.o (Ag.o (Ag.o (Ag.o (Ag.o (Ag.o (Ag.o Ag.z))))))))))))))) ?_ ?_
  · exact ⟨Nat.zero_le _, by simp, hS⟩
  · rintro k t14 w hJ
    obtain ⟨hk, ha, hS⟩ := hJ
    refine cnrm (mk (mk (mo (mk (mo (mk (mk (mi (mo (mo (mo (mo (mo (mo (mo mz))))))))))))))) ?_
    refine cseq ?_
    refine creg ?_
    refine wl (s_lss (et d7) (et d6) (dt p8) ?_)
    refine wnil ?_
    refine xn ?_
    refine cseq ?_
    refine cifd (et d8) (fun h0 => ?_) (fun h0 => ?_)
    · obtain ⟨x, hx⟩ : ∃ x, reserved[k]? = some x := ⟨_, List.getElem?_eq_getElem (show k < reserved.length from by show k < 27; omega)⟩
      have hc : Lk (reserved.map S) k (S x) := by unfold Lk; rw [List.getElem?_map, hx]; rfl
      refine cskip ?_
      refine xn ?_
      refine cseq ?_
      refine cblock ?_
      refine cseq ?_
      refine creg ?_
      refine wl (s_ia Tryd.underlying44 ti9 (et d5) (et d7) (by omega) rfl (dt p9) ?_)
      refine wl (s_load ti9 (et d9) ((hS.blk d0).cell (j := _) (by simpa using hc)) (dt (ps p0)) ?_)
      refine wl (s_assign (et (ds d0)) (dt p4) ?_)
      refine wnil ?_
      refine xn ?_
      refine cseq ?_
      refine creg ?_
      refine wl (s_move (et d4) (dt (ps p1)) ?_)
      refine wl (s_move (et d0) (dt (ps p2)) ?_)
      refine wl (s_eqs (et (ds d1)) (et (ds d2)) (dt (ps p3)) ?_)
      refine wnil ?_
      refine xn ?_
      refine cifd (et (ds d3)) (fun h1 => ?_) (fun h1 => ?_)
      · refine cseq ?_
        refine creg ?_
        refine wl (s_assign ec (dt p2) ?_)
        refine wnil ?_
        refine xn ?_
        refine cret ?_
        refine (fun h => br (xr (xr (br (xr h))))) ?_
        refine ret1 rfl d2 ?_
        first
          | exact ⟨by
              subst h1
              have : x ∈ reserved := List.mem_of_getElem? hx
              rw [List.contains_iff_mem.2 this], hS.keeps⟩
          | exact ⟨by
              have : ¬ l ∈ reserved := by
                intro hm
                rw [show k = 27 by omega] at ha
                exact ha l (by simpa [reserved] using hm) rfl
              simp [this], hS.keeps⟩
      · refine cskip ?_
        refine (fun h => bn (xn h)) ?_
        refine creg ?_
        refine wl (s_addn (b := 1) (et d7) ec (by omega) (dt (ps p4)) ?_)
        refine wl (s_move (et (ds d4)) (dt p7) ?_)
        refine wnil ?_
        refine xl ?_
        exact ⟨k + 1, _, rfl, (Ag.k (Ag.k (Ag.o (Ag.k (Ag.o (Ag.k (Ag.k (Ag.i (Ag.o (Ag.o (Ag.o (Ag.o (Ag.o (Ag.o (Ag.o Ag.z))))))))))))))), ⟨by omega, by
          intro y hy
          rw [List.take_add_one, hx] at hy
          rcases List.mem_append.1 hy with h | h
          · exact ha y h
          · simp at h; subst h; exact h1, hS⟩, by omega⟩
    · refine cexit ?_
      refine (fun h => xe (xe (bh h))) ?_
      refine xn ?_
      refine cseq ?_
      refine creg ?_
      refine wl (s_assign ec (dt p2) ?_)
      refine wnil ?_
      refine xn ?_
      refine cret ?_
      refine ret1 rfl d2 ?_
      first
        | exact ⟨by
            subst h1
            have : x ∈ reserved := List.mem_of_getElem? hx
            rw [List.contains_iff_mem.2 this], hS.keeps⟩
        | exact ⟨by
            have : ¬ l ∈ reserved := by
              intro hm
              rw [show k = 27 by omega] at ha
              exact ha l (by simpa [reserved] using hm) rfl
            simp [this], hS.keeps⟩

theorem Named_c (l : List UInt8) (hl : l.length ≤ 140737488355328) (w0 : World) (hm : ∃ m, w0.cell? ⟨2, 0, none⟩ = some (.int .i64 m)) : CallsV Tryd.prog 10 [S l] w0 fun v w => v = .bool (named l) ∧ w = w0 := by
  refine enter Tryd.func10 rfl (frm := [_, _, _, _, _, _, _, _, _, _, _, _, _, _, _, _, _, _, _, _, _, _, _, _, _, _, _, _]) rfl ?_
  refine cseq ?_
  refine creg ?_
  refine wl (s_assign ec (dt p2) ?_)
  refine wnil ?_
  refine xn ?_
  refine cseq ?_
  refine cseq ?_
  refine creg ?_
  refine wl (s_move (et d0) (dt p3) ?_)
  refine wl (s_lens Tryd.underlying9 (et d3) (dt p4) ?_)
  refine wl (s_lss (et d4) ec (dt p5) ?_)
  refine wl (s_move (et d5) (dt p6) ?_)
  refine wspd d6 p6 p6 (fun g1_3 => ?_) (fun g1_3 => ?_)
  · refine wn rfl d6 rfl (dt p7) ?_
    refine wn rfl d6 rfl (dt p8) ?_
    refine wn rfl d6 rfl (dt p9) ?_
    refine wl (s_pickt (et d6) ec (dt (ps p0)) ?_)
    refine wl (s_move (et (ds d0)) (dt (ps p1)) ?_)
    refine wn rfl (ds d1) rfl (dt (ps p2)) ?_
    refine wn rfl (ds d1) rfl (dt (ps p3)) ?_
    refine wn rfl (ds d1) rfl (dt (ps p4)) ?_
    refine wn rfl (ds d1) rfl (dt (ps p5)) ?_
    refine wl (s_pickt (et (ds d1)) ec (dt (ps p6)) ?_)
    refine wl (s_move (et (ds d6)) (dt (ps p7)) ?_)
    refine wn rfl (ds d7) rfl (dt (ps p8)) ?_
    refine wn rfl (ds d7) rfl (dt (ps p9)) ?_
    refine wn rfl (ds d7) rfl (dt (ps (ps p0))) ?_
    refine wn rfl (ds d7) rfl (dt (ps (ps p1))) ?_
    refine wl (s_pickt (et (ds d7)) ec (dt (ps (ps p2))) ?_)
    refine wnil ?_
    refine xn ?_
    refine cift (et (ds (ds d2))) ?_
    refine cseq ?_
    refine creg ?_
    refine wl (s_assign ec (dt p2) ?_)
    refine wnil ?_
    refine xn ?_
    refine cret ?_
    refine xr ?_
    refine ret1 rfl d2 ?_
    refine ⟨?_, rfl⟩
    congr 1
    first
      | (have : ¬ 0 < l.length := by omega
         simp [named, this]; done)
      | (have : ¬ l.length ≤ 12 := by omega
         simp [named, this]; done)
      | (simp at g1_14; simp [named, g1_14]; done)
      | exact (named_no (by omega) (by simpa using g1_14) h0).symm
      | (rw [named_yes (by omega) (by simpa using g1_14) h0]; simp <;> omega)
  · refine wy rfl d6 (s_move (et d0) (dt p7) ?_)
    refine wy rfl d6 (s_lens Tryd.underlying9 (et d7) (dt p8) ?_)
    refine wy rfl d6 (s_gtr (et d8) ec (dt p9) ?_)
    refine wl (s_pickf (et d6) (et d9) (dt (ps p0)) ?_)
    refine wl (s_move (et (ds d0)) (dt (ps p1)) ?_)
    refine wspd (ds d1) (ps p1) (ps p1) (fun g1_8 => ?_) (fun g1_8 => ?_)
    · refine wn rfl (ds d1) rfl (dt (ps p2)) ?_
      refine wn rfl (ds d1) rfl (dt (ps p3)) ?_
      refine wn rfl (ds d1) rfl (dt (ps p4)) ?_
      refine wn rfl (ds d1) rfl (dt (ps p5)) ?_
      refine wl (s_pickt (et (ds d1)) ec (dt (ps p6)) ?_)
      refine wl (s_move (et (ds d6)) (dt (ps p7)) ?_)
      refine wn rfl (ds d7) rfl (dt (ps p8)) ?_
      refine wn rfl (ds d7) rfl (dt (ps p9)) ?_
      refine wn rfl (ds d7) rfl (dt (ps (ps p0))) ?_
      refine wn rfl (ds d7) rfl (dt (ps (ps p1))) ?_
      refine wl (s_pickt (et (ds d7)) ec (dt (ps (ps p2))) ?_)
      refine wnil ?_
      refine xn ?_
      refine cift (et (ds (ds d2))) ?_
      refine cseq ?_
      refine creg ?_
      refine wl (s_assign ec (dt p2) ?_)
      refine wnil ?_
      refine xn ?_
      refine cret ?_
      refine xr ?_
      refine ret1 rfl d2 ?_
      refine ⟨?_, rfl⟩
      congr 1
      first
        | (have : ¬ 0 < l.length := by omega
           simp [named, this]; done)
        | (have : ¬ l.length ≤ 12 := by omega
           simp [named, this]; done)
        | (simp at g1_14; simp [named, g1_14]; done)
        | exact (named_no (by omega) (by simpa using g1_14) h0).symm
        | (rw [named_yes (by omega) (by simpa using g1_14) h0]; simp <;> omega)
    · refine wy rfl (ds d1) (s_move (et d0) (dt (ps p2)) ?_)
      obtain ⟨c, r, rfl⟩ : ∃ c r, l = c :: r := by
        cases l with
        | nil => exact absurd (show (0 : Int) < 1 by decide) g1_3
        | cons c r => exact ⟨c, r, rfl⟩
      refine wy rfl (ds d1) (s_idxsn (i := 0) Tryd.underlying9 (et (ds d2)) ec rfl (dt (ps p3)) ?_)
      refine wy rfl (ds d1) (s_callp isfn13 ef (e1 (et (ds d3)) e0) (letter_c _) (dt (ps p4)) ?_)
      refine wy rfl (ds d1) (s_not (et (ds d4)) (dt (ps p5)) ?_)
      refine wl (s_pickf (et (ds d1)) (et (ds d5)) (dt (ps p6)) ?_)
      refine wl (s_move (et (ds d6)) (dt (ps p7)) ?_)
      refine wsp (ds d7) (ps p7) (ps p7) (fun g1_14 => ?_) (fun g1_14 => ?_)
      · refine wn rfl (ds d7) rfl (dt (ps p8)) ?_
        refine wn rfl (ds d7) rfl (dt (ps p9)) ?_
        refine wn rfl (ds d7) rfl (dt (ps (ps p0))) ?_
        refine wn rfl (ds d7) rfl (dt (ps (ps p1))) ?_
        refine wl (s_pickt (et (ds d7)) ec (dt (ps (ps p2))) ?_)
        refine wnil ?_
        refine xn ?_
        refine cift (et (ds (ds d2))) ?_
        refine cseq ?_
        refine creg ?_
        refine wl (s_assign ec (dt p2) ?_)
        refine wnil ?_
        refine xn ?_
        refine cret ?_
        refine xr ?_
        refine ret1 rfl d2 ?_
        refine ⟨?_, rfl⟩
        congr 1
        first
          | (have : ¬ 0 < l.length := by omega
             simp [named, this]; done)
          | (have : ¬ l.length ≤ 12 := by omega
             simp [named, this]; done)
          | (simp at g1_14; simp [named, g1_14]; done)
          | exact (named_no (by omega) (by simpa using g1_14) h0).symm
          | (rw [named_yes (by omega) (by simpa using g1_14) h0]; simp <;> omega)
      · refine wy rfl (ds d7) (s_move (et d0) (dt (ps p8)) ?_)
        refine wy rfl (ds d7) (s_cat ec (et (ds d8)) (by simp; simp at g1_8; omega) (dt (ps p9)) ?_)
        refine wy rfl (ds d7) (s_cat (et (ds d9)) ec (by simp; simp at g1_8; omega) (dt (ps (ps p0))) ?_)
        refine wy rfl (ds d7) (s_callv isfn21 ef (e1 ec (e1 (et (ds (ds d0))) e0)) (Contains_c hay _ (by decide +kernel) _ hm) ?_)
        rintro _ w ⟨rfl, rfl⟩
        refine pu (dt (ps (ps p1))) ?_
        refine wl (s_pickf (et (ds d7)) (et (ds (ds d1))) (dt (ps (ps p2))) ?_)
        refine wnil ?_
        refine xn ?_
        refine cif (et (ds (ds d2))) (fun h0 => ?_) (fun h0 => ?_)
        · refine cseq ?_
          refine creg ?_
          refine wl (s_assign ec (dt p2) ?_)
          refine wnil ?_
          refine xn ?_
          refine cret ?_
          refine xr ?_
          refine ret1 rfl d2 ?_
          refine ⟨?_, rfl⟩
          congr 1
          first
            | (have : ¬ 0 < l.length := by omega
               simp [named, this]; done)
            | (have : ¬ l.length ≤ 12 := by omega
               simp [named, this]; done)
            | (simp at g1_14; simp [named, g1_14]; done)
            | exact (named_no (by omega) (by simpa using g1_14) h0).symm
            | (rw [named_yes (by omega) (by simpa using g1_14) h0]; simp <;> omega)
        · refine cskip ?_
          refine xn ?_
          refine cseq ?_
          refine creg ?_
          refine wl (s_move (et d0) (dt (ps (ps p3))) ?_)
          refine wl (s_callp isfn14 ef (e1 (et (ds (ds d3))) (e1 ef e0)) (while_c _ wordB _ (by omega) isfn22 Named1_c) (dt (ps (ps p4))) ?_)
          refine wl (s_move (et d0) (dt (ps (ps p5))) ?_)
          refine wl (s_lens Tryd.underlying9 (et (ds (ds d5))) (dt (ps (ps p6))) ?_)
          refine wl (s_eqi (et (ds (ds d4))) (et (ds (ds d6))) (dt (ps (ps p7))) ?_)
          refine wl (s_assign (et (ds (ds d7))) (dt p2) ?_)
          refine wnil ?_
          refine xn ?_
          refine cret ?_
          refine ret1 rfl d2 ?_
          refine ⟨?_, rfl⟩
          congr 1
          first
            | (have : ¬ 0 < l.length := by omega
               simp [named, this]; done)
            | (have : ¬ l.length ≤ 12 := by omega
               simp [named, this]; done)
            | (simp at g1_14; simp [named, g1_14]; done)
            | exact (named_no (by omega) (by simpa using g1_14) h0).symm
            | (rw [named_yes (by omega) (by simpa using g1_14) h0]; simp <;> omega)

theorem refNamed_c (l : List UInt8) (hl : l.length ≤ 140737488355328) (w0 : World) : CallsV Tryd.prog 11 [S l] w0 fun v w => v = .bool (named l) ∧ Grow w0 w := by
  have hS : Sep (fun _ => True) (fun _ => False) w0 w0 [] (fun _ => True) := Sep.start w0 _ _ (Rob.const trivial)
  refine enter Tryd.func11 rfl (frm := [_, _, _, _, _, _, _, _, _, _, _, _, _, _, _, _, _, _, _, _, _, _, _, _, _, _, _, _, _, _, _, _, _, _, _, _, _]) rfl ?_
  refine cseq ?_
  refine creg ?_
  refine wl (s_assign ec (dt p2) ?_)
  refine wnil ?_
  refine xn ?_
  refine cseq ?_
  refine cseq ?_
  refine creg ?_
  refine wl (s_move (et d0) (dt p5) ?_)
  refine wl (s_range Tryd.underlying9 (et d5) hS ?_)
  clear hS; intro b1 w1_ hb1 hS
  refine pu (dt p6) ?_
  refine wnil ?_
  refine xn ?_
  refine cblock ?_
  refine cloop [2, 3, 4, 7, 8, 9, 10, 11, 12, 13, 14, 15, 16, 17, 18, 19, 20, 21, 22, 23] (by decide) (fun (k : Nat) => [.k, .k, .o 2, .o 3, .o 4, .k, .k, .o 7, .o 8, .o 9, .o 10, .o 11, .o 12, .o 13, .o 14, .o 15, .o 16, .o 17, .o 18, .o 19, .o 20, .o 21, .o 22, .o 23]) (fun _ => rfl) (fun (k : Nat) (w : World) => k ≤ l.length ∧ maybe (l.take k) = true ∧ Sep (fun _ => True) (fun _ => False) w0 w [.itr b1 ⟨⟨l⟩⟩ k] (fun _ => True)) (fun (k : Nat) (w : World) => l.length - k) 0 (Ag.k (Ag.k (Ag.o (Ag.o (Ag.o (Ag.k (Ag.k (Ag.o (Ag.o (Ag.o (Ag.o (Ag.o (Ag.o (Ag.o (Ag.o (Ag.o (Ag.o (Ag.o (Ag.o (Ag.o (Ag.o (Ag.o (Ag.o (Ag.o Ag.z)))))))))))))))))))))))) ?_ ?_
  · exact ⟨Nat.zero_le _, rfl, hS⟩
  · rintro k t23 w hJ
    obtain ⟨hk, hm, hS⟩ := hJ
    refine cnrm (mk (mk (mo (mo (mo (mk (mk (mo (mo (mo (mo (mo (mo (mo (mo (mo (mo (mo (mo (mo (mo (mo (mo (mo mz)))))))))))))))))))))))) ?_
    refine cseq ?_
    refine creg ?_
    refine wl (s_next (et d6) hS d0 ?_ ?_)
    · intro hnx w2_ rs_ hp_ hS; cases (show _ = rs_ from hp_)
      replace hS := Sep.reput hS p0
      refine pu (dt p7) ?_
      obtain ⟨c, hc⟩ : ∃ c, l[k]? = some c := ⟨_, List.getElem?_eq_getElem hnx⟩
      have hdec : classB c = 1 ∨ classB c = 2 → k + (Utf8.decode ⟨⟨l⟩⟩ k).2 = k + 1 := by
        intro h
        have hc2 : l[k] = c := Option.some.inj ((List.getElem?_eq_getElem hnx).symm.trans hc)
        rw [decode_ascii ⟨⟨l⟩⟩ k hnx (by show (l[k]).toNat < 128; rw [hc2]; exact class_small h)]
      refine wl (s_extr (et d7) d0 (dt p8) ?_)
      refine wnil ?_
      refine xn ?_
      refine cseq ?_
      refine cift (et d8) ?_
      refine cskip ?_
      refine xn ?_
      refine cblock ?_
      refine cseq ?_
      refine creg ?_
      refine wl (s_extr (et d7) d1 (dt p9) ?_)
      refine wl (s_assign (et d9) (dt p3) ?_)
      refine wnil ?_
      refine xn ?_
      refine cseq ?_
      refine creg ?_
      refine wl (s_move (et d0) (dt (ps p0)) ?_)
      refine wl (s_move (et d3) (dt (ps p1)) ?_)
      refine wl (s_idxsn Tryd.underlying9 (et (ds d0)) (et (ds d1)) hc (dt (ps p2)) ?_)
      refine wl (s_callp isfn19 ef (e1 (et (ds d2)) e0) (Class_c _) (dt (ps p3)) ?_)
      refine wl (s_assign (et (ds d3)) (dt p4) ?_)
      refine wnil ?_
      refine xn ?_
      refine cseq ?_
      refine creg ?_
      refine wl (s_move (et d4) (dt (ps p4)) ?_)
      refine wl (s_nei (et (ds d4)) ec (dt (ps p5)) ?_)
      refine wl (s_move (et (ds d5)) (dt (ps p6)) ?_)
      refine wspd (ds d6) (ps p6) (ps p6) (fun g5_2 => ?_) (fun g5_2 => ?_)
      · refine wy rfl (ds d6) (s_move (et d4) (dt (ps p7)) ?_)
        refine wy rfl (ds d6) (s_nei (et (ds d7)) ec (dt (ps p8)) ?_)
        refine wy rfl (ds d6) (s_move (et (ds d8)) (dt (ps p9)) ?_)
        refine wspd (ds d9) (ps p9) (ps p9) (fun g5_5 => ?_) (fun g5_5 => ?_)
        · refine wn rfl (ds d9) rfl (dt (ps (ps p0))) ?_
          refine wn rfl (ds d9) rfl (dt (ps (ps p1))) ?_
          refine wy rfl (ds d6) (s_pickt (et (ds d9)) ec (dt (ps (ps p2))) ?_)
          refine wl (s_pickt (et (ds d6)) (et (ds (ds d2))) (dt (ps (ps p3))) ?_)
          refine wnil ?_
          refine xn ?_
          refine cift (et (ds (ds d3))) ?_
          refine cseq ?_
          refine creg ?_
          refine wl (s_assign ec (dt p2) ?_)
          refine wnil ?_
          refine xn ?_
          refine cret ?_
          refine (fun h => br (xr (br (xr h)))) ?_
          refine ret1 rfl d2 ?_
          refine ⟨?_, hS.keeps⟩
          congr 1
          first
            | exact (named_bad hc (by omega)).symm
            | (have hml : maybe l = true := by rw [List.take_of_length_le (by omega)] at hm; exact hm
               rw [named_maybe hml]
               first
                 | (simp; omega)
                 | (have h1 : 0 < l.length := by omega
                    have h2 : l.length ≤ 12 := by omega
                    simp [h1, h2]))
        · refine wy rfl (ds d9) (s_move (et d3) (dt (ps (ps p0))) ?_)
          refine wy rfl (ds d9) (s_eqi (et (ds (ds d0))) ec (dt (ps (ps p1))) ?_)
          refine wy rfl (ds d6) (s_pickf (et (ds d9)) (et (ds (ds d1))) (dt (ps (ps p2))) ?_)
          refine wl (s_pickt (et (ds d6)) (et (ds (ds d2))) (dt (ps (ps p3))) ?_)
          refine wnil ?_
          refine xn ?_
          refine cifd (et (ds (ds d3))) (fun h1 => ?_) (fun h1 => ?_)
          · refine cseq ?_
            refine creg ?_
            refine wl (s_assign ec (dt p2) ?_)
            refine wnil ?_
            refine xn ?_
            refine cret ?_
            refine (fun h => br (xr (br (xr h)))) ?_
            refine ret1 rfl d2 ?_
            refine ⟨?_, hS.keeps⟩
            congr 1
            first
              | exact (named_bad hc (by omega)).symm
              | (have hml : maybe l = true := by rw [List.take_of_length_le (by omega)] at hm; exact hm
                 rw [named_maybe hml]
                 first
                   | (simp; omega)
                   | (have h1 : 0 < l.length := by omega
                      have h2 : l.length ≤ 12 := by omega
                      simp [h1, h2]))
          · refine cskip ?_
            refine (fun h => bn (xl h)) ?_
            exact ⟨k + 1, _, rfl, (Ag.k (Ag.k (Ag.o (Ag.o (Ag.o (Ag.k (Ag.k (Ag.o (Ag.o (Ag.o (Ag.o (Ag.o (Ag.o (Ag.o (Ag.o (Ag.o (Ag.o (Ag.o (Ag.o (Ag.o (Ag.o (Ag.o (Ag.o (Ag.o Ag.z)))))))))))))))))))))))), ⟨by omega, maybe_go hm hc (by omega), by rw [← hdec (by omega)]; exact hS⟩, by omega⟩
      · refine wn rfl (ds d6) rfl (dt (ps p7)) ?_
        refine wn rfl (ds d6) rfl (dt (ps p8)) ?_
        refine wn rfl (ds d6) rfl (dt (ps p9)) ?_
        refine wu rfl (ds d9) (dt (ps (ps p0))) ?_
        refine wu rfl (ds d9) (dt (ps (ps p1))) ?_
        refine wn rfl (ds d6) rfl (dt (ps (ps p2))) ?_
        refine wl (s_pickf (et (ds d6)) ec (dt (ps (ps p3))) ?_)
        refine wnil ?_
        refine xn ?_
        refine ciff (et (ds (ds d3))) ?_
        refine cskip ?_
        refine (fun h => bn (xl h)) ?_
        exact ⟨k + 1, _, rfl, (Ag.k (Ag.k (Ag.o (Ag.o (Ag.o (Ag.k (Ag.k (Ag.o (Ag.o (Ag.o (Ag.o (Ag.o (Ag.o (Ag.o (Ag.o (Ag.o (Ag.o (Ag.o (Ag.o (Ag.o (Ag.o (Ag.o (Ag.o (Ag.o Ag.z)))))))))))))))))))))))), ⟨by omega, maybe_go hm hc (by omega), by rw [← hdec (by omega)]; exact hS⟩, by omega⟩
    · intro hnx
      refine pu (dt p7) ?_
      refine wl (s_extr (et d7) d0 (dt p8) ?_)
      refine wnil ?_
      refine xn ?_
      refine cseq ?_
      refine ciff (et d8) ?_
      refine cexit ?_
      refine (fun h => xe (xe (bh h))) ?_
      refine xn ?_
      refine cseq ?_
      refine creg ?_
      refine wl (s_move (et d0) (dt (ps (ps p4))) ?_)
      refine wl (s_lens Tryd.underlying9 (et (ds (ds d4))) (dt (ps (ps p5))) ?_)
      refine wl (s_gtr (et (ds (ds d5))) ec (dt (ps (ps p6))) ?_)
      refine wl (s_move (et (ds (ds d6))) (dt (ps (ps p7))) ?_)
      refine wspd (ds (ds d7)) (ps (ps p7)) (ps (ps p7)) (fun g7_3 => ?_) (fun g7_3 => ?_)
      · refine wy rfl (ds (ds d7)) (s_move (et d0) (dt (ps (ps p8))) ?_)
        refine wy rfl (ds (ds d7)) (s_lens Tryd.underlying9 (et (ds (ds d8))) (dt (ps (ps p9))) ?_)
        refine wy rfl (ds (ds d7)) (s_leq (et (ds (ds d9))) ec (dt (ps (ps (ps p0)))) ?_)
        refine wl (s_pickt (et (ds (ds d7))) (et (ds (ds (ds d0)))) (dt (ps (ps (ps p1)))) ?_)
        refine wl (s_move (et (ds (ds (ds d1)))) (dt (ps (ps (ps p2)))) ?_)
        refine wspd (ds (ds (ds d2))) (ps (ps (ps p2))) (ps (ps (ps p2))) (fun g7_8 => ?_) (fun g7_8 => ?_)
        · refine wy rfl (ds (ds (ds d2))) (s_move (et d0) (dt (ps (ps (ps p3)))) ?_)
          refine wy rfl (ds (ds (ds d2))) (s_callv isfn23 ef (e1 (et (ds (ds (ds d3)))) e0) (Reserved_c _ _) ?_)
          rintro _ w ⟨rfl, hg⟩; replace hS := hS.grow hg
          refine pu (dt (ps (ps (ps p4)))) ?_
          refine wy rfl (ds (ds (ds d2))) (s_not (et (ds (ds (ds d4)))) (dt (ps (ps (ps p5)))) ?_)
          refine wl (s_pickt (et (ds (ds (ds d2)))) (et (ds (ds (ds d5)))) (dt (ps (ps (ps p6)))) ?_)
          refine wl (s_assign (et (ds (ds (ds d6)))) (dt p2) ?_)
          refine wnil ?_
          refine xn ?_
          refine cret ?_
          refine ret1 rfl d2 ?_
          refine ⟨?_, hS.keeps⟩
          congr 1
          first
            | exact (named_bad hc (by omega)).symm
            | (have hml : maybe l = true := by rw [List.take_of_length_le (by omega)] at hm; exact hm
               rw [named_maybe hml]
               first
                 | (simp; omega)
                 | (have h1 : 0 < l.length := by omega
                    have h2 : l.length ≤ 12 := by omega
                    simp [h1, h2]))
        · refine wn rfl (ds (ds (ds d2))) rfl (dt (ps (ps (ps p3)))) ?_
          refine wn rfl (ds (ds (ds d2))) rfl (dt (ps (ps (ps p4)))) ?_
          refine wn rfl (ds (ds (ds d2))) rfl (dt (ps (ps (ps p5)))) ?_
          refine wl (s_pickf (et (ds (ds (ds d2)))) ec (dt (ps (ps (ps p6)))) ?_)
          refine wl (s_assign (et (ds (ds (ds d6)))) (dt p2) ?_)
          refine wnil ?_
          refine xn ?_
          refine cret ?_
          refine ret1 rfl d2 ?_
          refine ⟨?_, hS.keeps⟩
          congr 1
          first
            | exact (named_bad hc (by omega)).symm
            | (have hml : maybe l = true := by rw [List.take_of_length_le (by omega)] at hm; exact hm
               rw [named_maybe hml]
               first
                 | (simp; omega)
                 | (have h1 : 0 < l.length := by omega
                    have h2 : l.length ≤ 12 := by omega
                    simp [h1, h2]))
      · refine wn rfl (ds (ds d7)) rfl (dt (ps (ps p8))) ?_
        refine wn rfl (ds (ds d7)) rfl (dt (ps (ps p9))) ?_
        refine wn rfl (ds (ds d7)) rfl (dt (ps (ps (ps p0)))) ?_
        refine wl (s_pickf (et (ds (ds d7))) ec (dt (ps (ps (ps p1)))) ?_)
        refine wl (s_move (et (ds (ds (ds d1)))) (dt (ps (ps (ps p2)))) ?_)
        refine wn rfl (ds (ds (ds d2))) rfl (dt (ps (ps (ps p3)))) ?_
        refine wn rfl (ds (ds (ds d2))) rfl (dt (ps (ps (ps p4)))) ?_
        refine wn rfl (ds (ds (ds d2))) rfl (dt (ps (ps (ps p5)))) ?_
        refine wl (s_pickf (et (ds (ds (ds d2)))) ec (dt (ps (ps (ps p6)))) ?_)
        refine wl (s_assign (et (ds (ds (ds d6)))) (dt p2) ?_)
        refine wnil ?_
        refine xn ?_
        refine cret ?_
        refine ret1 rfl d2 ?_
        refine ⟨?_, hS.keeps⟩
        congr 1
        first
          | exact (named_bad hc (by omega)).symm
          | (have hml : maybe l = true := by rw [List.take_of_length_le (by omega)] at hm; exact hm
             rw [named_maybe hml]
             first
               | (simp; omega)
               | (have h1 : 0 < l.length := by omega
                  have h2 : l.length ≤ 12 := by omega
                  simp [h1, h2]))

theorem wr8 {n : Int} (h : 0 ≤ n ∧ n ≤ 255) : IntKind.u8.wrap n = n := by
  unfold IntKind.wrap
  simp [IntKind.bits, IntKind.signed]
  omega

theorem Same_c (u1 u2 : Value) (ts : List Tok) (hn : ts.length ≤ 140737488355328) (w0 : World) (h1 : Rob (fun _ => True) w0 (Toks u1 ts)) (h2 : Rob (fun _ => True) w0 (Toks u2 ts)) :
        CallsV Tryd.prog 9 [u1, u2] w0 fun v w => v = .bool true ∧ Grow w0 w := by
  have hS : Sep (fun _ => True) (fun _ => True) w0 w0 [] (fun w => Toks u1 ts w ∧ Toks u2 ts w) := Sep.start w0 _ _ (h1.and h2)
  have hl1 := h1.now.isSl
  have hl2 := h2.now.isSl
  refine enter Tryd.func9 rfl (frm := [_, _, _, _, _, _, _, _, _, _, _, _, _, _, _, _, _, _, _, _, _, _, _, _, _, _]) rfl ?_
  refine cseq ?_
  refine creg ?_
  refine wl (s_assign ec (dt p4) ?_)
  refine wnil ?_
  refine xn ?_
  refine cseq ?_
  refine cseq ?_
  refine creg ?_
  refine wl (s_move (et d0) (dt p6) ?_)
  refine wl (s_lenv Tryd.underlying23 (et d6) (by assumption) (dt p7) ?_)
  refine wl (s_move (et d1) (dt p8) ?_)
  refine wl (s_lenv Tryd.underlying23 (et d8) (by assumption) (dt p9) ?_)
  refine wl (s_nei (et d7) (et d9) (dt (ps p0)) ?_)
  refine wnil ?_
  refine xn ?_
  refine cifd (et (ds d0)) (fun h0 => ?_) (fun h0 => ?_)
  · exact absurd rfl h0
  · refine cskip ?_
    refine xn ?_
    refine cseq ?_
    refine cseq ?_
    refine creg ?_
    refine wl (s_move (et d0) (dt (ps p1)) ?_)
    refine wl (s_lenv Tryd.underlying23 (et (ds d1)) (by assumption) (dt (ps p2)) ?_)
    refine wl (s_move ec (dt (ps p3)) ?_)
    refine wnil ?_
    refine xn ?_
    refine cblock ?_
    refine cloop [4, 5, 14, 15, 16, 17, 18, 19, 20, 21, 22, 23, 24, 25] (by decide) (fun (k : Nat) => [.k, .k, .k, .k, .o 4, .o 5, .k, .k, .k, .k, .k, .k, .k, .i (.int .i64 k), .o 14, .o 15, .o 16, .o 17, .o 18, .o 19, .o 20, .o 21, .o 22, .o 23, .o 24, .o 25]) (fun _ => rfl) (fun (k : Nat) (w : World) => k ≤ ts.length ∧ Sep (fun _ => True) (fun _ => True) w0 w [] (fun w => Toks u1 ts w ∧ Toks u2 ts w)) (fun (k : Nat) (w : World) => ts.length - k) 0 (Ag.k (Ag.k (Ag.k (Ag.k (Ag.o (Ag.o (Ag.k (Ag.k (Ag.k (Ag.k (Ag.k (Ag.k (Ag.k (Ag.i (Ag.o (Ag.o (Ag.o (Ag.o (Ag.o (Ag.o (Ag.o (Ag.o (Ag.o (Ag.o (Ag.o (Ag.o Ag.z)))))))))))))))))))))))))) ?_ ?_
    · exact ⟨Nat.zero_le _, hS⟩
    · rintro k t25 w hJ
      obtain ⟨hk, hS⟩ := hJ
      refine cnrm (mk (mk (mk (mk (mo (mo (mk (mk (mk (mk (mk (mk (mk (mi (mo (mo (mo (mo (mo (mo (mo (mo (mo (mo (mo (mo mz)))))))))))))))))))))))))) ?_
      refine cseq ?_
      refine creg ?_
      refine wl (s_lss (et (ds d3)) (et (ds d2)) (dt (ps p4)) ?_)
      refine wnil ?_
      refine xn ?_
      refine cseq ?_
      refine cifd (et (ds d4)) (fun h1 => ?_) (fun h1 => ?_)
      · obtain ⟨x, hx⟩ : ∃ x, ts[k]? = some x := ⟨_, List.getElem?_eq_getElem (by omega)⟩
        obtain ⟨b1, c1, rfl⟩ := Toks.slice hS.a.1 (by omega)
        obtain ⟨b2, c2, rfl⟩ := Toks.slice hS.a.2 (by omega)
        refine cskip ?_
        refine xn ?_
        refine cseq ?_
        refine cblock ?_
        refine cseq ?_
        refine creg ?_
        refine wl (s_move (et (ds d3)) (dt (ps p5)) ?_)
        refine wl (s_assign (et (ds d5)) (dt p5) ?_)
        refine wnil ?_
        refine xn ?_
        refine cseq ?_
        refine cdraw (by kernel_rfl) rfl fun w1_ hh_ ho_ ht_ hu_ => ?_
        replace hS := hS.drew hh_ ho_ ht_ hu_
        refine sc_pu (i := 0) (blind_of fun _ _ _ h => h.2) rfl rfl rfl (u_move (et d0)) (ps p6) ?_
        refine sc_pu (i := 1) (blind_of fun _ _ _ h => h.2) rfl rfl rfl (u_move (et d5)) (ps p7) ?_
        refine sc_pu (i := 2) (blind_of fun _ _ _ h => h.2) rfl rfl rfl (u_ia Tryd.underlying23 ti30 (et (ds d6)) (et (ds d7)) (by omega) rfl) (ps p8) ?_
        refine sc_pu (i := 4) (blind_of fun _ _ _ h => h.2) rfl rfl rfl (u_move (et d1)) (ps (ps p0)) ?_
        refine sc_pu (i := 5) (blind_of fun _ _ _ h => h.2) rfl rfl rfl (u_move (et d5)) (ps (ps p1)) ?_
        refine sc_pu (i := 6) (blind_of fun _ _ _ h => h.2) rfl rfl rfl (u_ia Tryd.underlying23 ti30 (et (ds (ds d0))) (et (ds (ds d1))) (by omega) rfl) (ps (ps p2)) ?_
        refine sc_rd (i := 3) (blind_of fun _ _ _ h => h.2) rfl rfl rfl (u_loads ti30 (et (ds d8)) (tok_at (Row.at' hS.a.1) hx (by simp)) rfl) (ps p9) ?_
        refine sc_rd (i := 7) (blind_of fun _ _ _ h => h.2) rfl rfl rfl (u_loads ti30 (et (ds (ds d2))) (tok_at (Row.at' hS.a.2) hx (by simp)) rfl) (ps (ps p3)) ?_
        refine sc_pu (i := 8) (blind_of fun _ _ _ h => h.2) rfl rfl rfl (u_nea (ES.mk Tryd.underlying30 eh30 eg30) (et (ds d9)) (et (ds (ds d3))) (EqFs.o rfl rfl rfl ti3 d0 d0 (eq_int Tryd.underlying3) (EqFs.o rfl rfl rfl ti9 d1 d1 (eq_str Tryd.underlying9) (EqFs.o rfl rfl rfl ti2 d2 d2 (eq_int Tryd.underlying2) (EqFs.o rfl rfl rfl ti3 d3 d3 (eq_int Tryd.underlying3) EqFs.z)))) rfl) (ps (ps p4)) ?_
        refine sc_nil ?_
        refine xn ?_
        refine cif (et (ds (ds d4))) (fun hq2 => ?_) (fun hq2 => ?_)
        · exfalso; simp [andL] at hq2
        · refine cskip ?_
          refine (fun h => bn (xn h)) ?_
          refine creg ?_
          refine wl (s_addn (b := 1) (et (ds d3)) ec (by omega) (dt (ps (ps p5))) ?_)
          refine wl (s_move (et (ds (ds d5))) (dt (ps p3)) ?_)
          refine wnil ?_
          refine xl ?_
          exact ⟨k + 1, _, rfl, (Ag.k (Ag.k (Ag.k (Ag.k (Ag.o (Ag.o (Ag.k (Ag.k (Ag.k (Ag.k (Ag.k (Ag.k (Ag.k (Ag.i (Ag.o (Ag.o (Ag.o (Ag.o (Ag.o (Ag.o (Ag.o (Ag.o (Ag.o (Ag.o (Ag.o (Ag.o Ag.z)))))))))))))))))))))))))), ⟨by omega, hS⟩, by omega⟩
      · refine cexit ?_
        refine (fun h => xe (xe (bh h))) ?_
        refine xn ?_
        refine cseq ?_
        refine creg ?_
        refine wl (s_assign ec (dt p4) ?_)
        refine wnil ?_
        refine xn ?_
        refine cret ?_
        refine ret1 rfl d4 ?_
        exact ⟨rfl, hS.keeps⟩

set_option maxHeartbeats 1000000 in
theorem refTokens_c (l : List UInt8) (hl : l.length ≤ 140737488355328) (w0 : World) :
        CallsV Tryd.prog 8 [S l] w0 fun v w => Grow w0 w ∧ match tokens l with
          | .error (e, a) => v = .tuple #[.slice none 0 0, .agg #[.int .i64 (e : Nat), .int .i64 (a : Nat)]]
          | .ok ts => ∃ u, v = .tuple #[u, .agg #[.int .i64 0, .int .i64 0]] ∧ ts.length ≤ l.length ∧ Rob (fun b => w0.heap.size ≤ b) w (Toks u ts) := by
  have hS : Sep (fun _ => True) (fun _ => False) w0 w0 [] (fun _ => True) := Sep.start w0 _ _ (Rob.const trivial)
  refine enter Tryd.func8 rfl (frm := [_, _, _, _, _, _, _, _, _, _, _, _, _, _, _, _, _, _, _, _, _, _, _, _, _, _, _, _, _, _, _, _, _, _, _, _, _, _, _, _, _, _, _, _, _, _, _, _, _, _, _, _, _, _, _, _, _, _, _, _, _, _, _, _, _, _, _, _, _, _, _, _, _, _, _, _, _, _, _, _, _, _, _, _, _, _, _, _, _, _, _, _, _, _, _, _, _, _, _, _, _, _, _, _, _, _, _, _, _, _, _, _, _, _, _, _, _, _, _, _, _, _, _, _, _, _, _, _, _, _, _, _, _, _, _, _, _, _, _, _, _, _, _, _, _, _, _, _, _, _, _, _, _, _, _, _, _, _, _, _]) rfl ?_
  refine cseq ?_
  refine creg ?_
  refine wl (s_assign ec (dt p2) ?_)
  refine wl (s_alloc ti26 hS ?_)
  clear hS; intro b1 w1_ hb1 hS
  refine pu (dt p3) ?_
  refine wnil ?_
  refine xn ?_
  refine cseq ?_
  refine cseq ?_
  refine creg ?_
  refine wl (s_move (et d0) (dt p9) ?_)
  refine wl (s_lens Tryd.underlying9 (et d9) (dt (ps p0)) ?_)
  refine wl (s_gtr (et (ds d0)) ec (dt (ps p1)) ?_)
  refine wnil ?_
  refine xn ?_
  refine cifd (et (ds d1)) (fun h0 => ?_) (fun h0 => ?_)
  · refine cseq ?_
    refine creg ?_
    refine wl (s_build ti26 pl26 (Fl.o rfl ec rfl rfl p0 Fl.z) (dt (ps p2)) ?_)
    refine wl (s_assign ec (dt p2) ?_)
    refine wl (s_store ti26 (et d3) (et (ds d2)) rfl rfl rfl hS d0 (Spl.s p0 (of_decide_eq_true rfl) (Spl.s p1 (of_decide_eq_true rfl) Spl.z)) rfl p0 dn ?_)
    clear hS; intro w2_ hS
    refine wnil ?_
    refine xn ?_
    refine cret ?_
    refine xr ?_
    refine retN rfl (RVs.s (.t d2) (RVs.s (.a d3 ti26 (hS.blk d0).cells rfl) RVs.z)) ?_
    first
      | (rw [tokens_eq, if_pos (by omega)]; exact ⟨hS.keeps, rfl⟩)
      | (rw [hr, hd, lx_bad hnb hnr (by rw [← hd]; exact ht)]; exact ⟨hS.keeps, rfl⟩)
      | (rw [hr, List.drop_eq_nil_of_le (by omega)]; exact ⟨hS.keeps, _, rfl, by simp; omega, by simpa using hS.give d0 (B := Toks v ts) fun _ h => h⟩)
  · rw [tokens_lx (l := l) (by omega)]
    refine cskip ?_
    refine xn ?_
    refine cseq ?_
    refine creg ?_
    replace hS := hS.nilRow 30 4
    refine wl (s_assign ec (dt p4) ?_)
    refine wnil ?_
    refine xn ?_
    refine cseq ?_
    refine creg ?_
    refine wl (s_assign ec (dt p5) ?_)
    refine wnil ?_
    refine xn ?_
    refine cseq ?_
    refine cblock ?_
    refine cloop3 [2, 6, 7, 8, 13, 14, 15, 16, 17, 18, 19, 20, 21, 22, 23, 24, 25, 26, 27, 28, 29, 30, 31, 32, 33, 34, 35, 36, 37, 38, 39, 40, 41, 42, 43, 44, 45, 46, 47, 48, 49, 50, 51, 52, 53, 54, 55, 56, 57, 58, 59, 60, 61, 62, 63, 64, 65, 66, 67, 68, 69, 70, 71, 72, 73, 74, 75, 76, 77, 78, 79, 80, 81, 82, 83, 84, 85, 86, 87, 88, 89, 90, 91, 92, 93, 94, 95, 96, 97, 98, 99, 100, 101, 102, 103, 104, 105, 106, 107, 108, 109, 110, 111, 112, 113, 114, 115, 116, 117, 118, 119, 120, 121, 122, 123, 124, 125, 126, 127, 128, 129, 130, 131, 132, 133, 134, 135, 136, 137, 138, 139, 140, 141, 142, 143, 144, 145, 146, 147, 148, 149, 150, 151, 152, 153, 154, 155, 156, 157] (by decide +kernel) (fun (i : Nat) (ts : List Tok) (v : Value) => [.k, .k, .o 2, .k, .i (v), .i (.int .i64 i), .o 6, .o 7, .o 8, .k, .k, .k, .k, .o 13, .o 14, .o 15, .o 16, .o 17, .o 18, .o 19, .o 20, .o 21, .o 22, .o 23, .o 24, .o 25, .o 26, .o 27, .o 28, .o 29, .o 30, .o 31, .o 32, .o 33, .o 34, .o 35, .o 36, .o 37, .o 38, .o 39, .o 40, .o 41, .o 42, .o 43, .o 44, .o 45, .o 46, .o 47, .o 48, .o 49, .o 50, .o 51, .o 52, .o 53, .o 54, .o 55, .o 56, .o 57, .o 58, .o 59, .o 60, .o 61, .o 62, .o 63, .o 64, .o 65, .o 66, .o 67, .o 68, .o 69, .o 70, .o 71, .o 72, .o 73, .o 74, .o 75, .o 76, .o 77, .o 78, .o 79, .o 80, .o 81, .o 82, .o 83, .o 84, .o 85, .o 86, .o 87, .o 88, .o 89, .o 90, .o 91, .o 92, .o 93, .o 94, .o 95, .o 96, .o 97, .o 98, .o 99, .o 100, .o 101, .o 102, .o 103, .o 104, .o 105, .o 106, .o 107, .o 108, .o 109, .o 110, .o 111, .o 112, .o 113, .o 114, .o 115, .o 116, .o 117, .o 118, .o 119, .o 120, .o 121, .o 122, .o 123, .o 124, .o 125, .o 126, .o 127, .o 128, .o 129, .o 130, .o 131, .o 132, .o 133, .o 134, .o 135, .o 136, .o 137, .o 138, .o 139, .o 140, .o 141, .o 142, .o 143, .o 144, .o 145, .o 146, .o 147, .o 148, .o 149, .o 150, .o 151, .o 152, .o 153, .o 154, .o 155, .o 156, .o 157]) (fun _ _ _ => rfl) (fun (i : Nat) (ts : List Tok) (v : Value) (w : World) => i ≤ l.length ∧ (ts).length ≤ i ∧ lx 0 l = (lx i (l.drop (i))).map ((ts) ++ ·) ∧ Sep (fun _ => True) (fun _ => False) w0 w [.row v 30 4 (ts).length ((ts).flatMap cells), .blk b1 26 [.int .i64 0, .int .i64 0]] (fun _ => True)) (fun (i : Nat) (ts : List Tok) (v : Value) (w : World) => l.length - i) 0 [] (.slice none 0 0) (Ag.k (Ag.k (Ag.o (Ag.k (Ag.i (Ag.i (Ag.o (Ag.o (Ag.o (Ag.k (Ag.k (Ag.k (Ag.k (Ag.o (Ag.o (Ag.o (Ag.o (Ag.o (Ag.o (Ag.o (Ag.o (Ag.o (Ag.o (Ag.o (Ag.o (Ag.o (Ag.o (Ag.o (Ag.o (Ag.o (Ag.o (Ag.o (Ag.o (Ag.o (Ag.o (Ag.o (Ag.o (Ag.o (Ag.o (Ag.o (Ag.o (Ag.o (Ag.o (Ag.o (Ag.o (Ag.o (Ag.o (Ag.o (Ag.o (Ag.o (Ag.o (Ag.o (Ag.o (Ag.o (Ag.o (Ag.o (Ag.o (Ag.o (Ag.o (Ag.o (Ag.o (Ag.o (Ag.o (Ag.o (Ag.o (Ag.o (Ag.o (Ag.o (Ag.o (Ag.o (Ag.o (Ag.o (Ag.o (Ag.o (Ag.o (Ag.o (Ag.o (Ag.o (Ag.o (Ag.o (Ag.o (Ag.o (Ag.o (Ag.o (Ag.o (Ag.o (Ag.o (Ag.o (Ag.o (Ag.o (Ag.o (Ag.o (Ag.o (Ag.o (Ag.o (Ag.o (Ag.o (Ag.o (Ag.o (Ag.o (Ag.o (Ag.o (Ag.o (Ag.o (Ag.o (Ag.o (Ag.o (Ag.o (Ag.o (Ag.o (Ag.o (Ag.o (Ag.o (Ag.o (Ag.o (Ag.o (Ag.o (Ag.o (Ag.o (Ag.o (Ag.o (Ag.o (Ag.o (Ag.o (Ag.o (Ag.o (Ag.o (Ag.o (Ag.o (Ag.o (Ag.o (Ag.o (Ag.o (Ag.o (Ag.o (Ag.o (Ag.o (Ag.o (Ag.o (Ag.o (Ag.o (Ag.o (Ag.o (Ag.o (Ag.o (Ag.o (Ag.o (Ag.o (Ag.o (Ag.o (Ag.o (Ag.o (Ag.o (Ag.o (Ag.o (Ag.o (Ag.o (Ag.o Ag.z)))))))))))))))))))))))))))))))))))))))))))))))))))))))))))))))))))))))))))))))))))))))))))))))))))))))))))))))))))))))))))))))))))))))))))))))))))))))))))))) ?_ ?_
    · exact ⟨Nat.zero_le _, Nat.zero_le _, by rw [List.drop_zero]; cases lx 0 l <;> rfl, hS⟩
    · rintro i ts v t157 w hJ
      obtain ⟨hi, htl, hr, hS⟩ := hJ
      refine cnrm (mk (mk (mo (mk (mi (mi (mo (mo (mo (mk (mk (mk (mk (mo (mo (mo (mo (mo (mo (mo (mo (mo (mo (mo (mo (mo (mo (mo (mo (mo (mo (mo (mo (mo (mo (mo (mo (mo (mo (mo (mo (mo (mo (mo (mo (mo (mo (mo (mo (mo (mo (mo (mo (mo (mo (mo (mo (mo (mo (mo (mo (mo (mo (mo (mo (mo (mo (mo (mo (mo (mo (mo (mo (mo (mo (mo (mo (mo (mo (mo (mo (mo (mo (mo (mo (mo (mo (mo (mo (mo (mo (mo (mo (mo (mo (mo (mo (mo (mo (mo (mo (mo (mo (mo (mo (mo (mo (mo (mo (mo (mo (mo (mo (mo (mo (mo (mo (mo (mo (mo (mo (mo (mo (mo (mo (mo (mo (mo (mo (mo (mo (mo (mo (mo (mo (mo (mo (mo (mo (mo (mo (mo (mo (mo (mo (mo (mo (mo (mo (mo (mo (mo (mo (mo (mo (mo (mo (mo mz)))))))))))))))))))))))))))))))))))))))))))))))))))))))))))))))))))))))))))))))))))))))))))))))))))))))))))))))))))))))))))))))))))))))))))))))))))))))))))))) ?_
      refine cseq ?_
      refine cseq ?_
      refine creg ?_
      refine wl (s_move (et d5) (dt (ps p3)) ?_)
      refine wl (s_move (et d0) (dt (ps p4)) ?_)
      refine wl (s_lens Tryd.underlying9 (et (ds d4)) (dt (ps p5)) ?_)
      refine wl (s_lss (et (ds d3)) (et (ds d5)) (dt (ps p6)) ?_)
      refine wnil ?_
      refine xn ?_
      refine cifd (et (ds d6)) (fun h1 => ?_) (fun h1 => ?_)
      · obtain ⟨c, hc⟩ : ∃ c, l[i]? = some c := ⟨_, List.getElem?_eq_getElem (by omega)⟩
        have hd : l.drop i = c :: l.drop (i + 1) := by rw [List.drop_eq_getElem_cons (by omega), ← Option.some.inj ((List.getElem?_eq_getElem (by omega)).symm.trans hc)]
        have hat : ∀ m, (l.drop i)[m]? = l[i + m]? := fun m => List.getElem?_drop
        have fin : ∀ (t : Tok) (j : Nat) (v : Value) (w : World) (xs : List Value), tok1 i (l.drop i) = .ok t → j = i + t.text.length → xs = cells t → blankB c = false → ¬ c.toNat = 35 → Sep (fun _ => True) (fun _ => False) w0 w [.row v 30 4 (ts.length + 1) (ts.flatMap cells ++ xs), .blk b1 26 [.int .i64 0, .int .i64 0]] (fun _ => True) →
            (j ≤ l.length ∧ (ts ++ [t]).length ≤ j ∧ lx 0 l = (lx j (l.drop (j))).map ((ts ++ [t]) ++ ·) ∧ Sep (fun _ => True) (fun _ => False) w0 w [.row v 30 4 (ts ++ [t]).length ((ts ++ [t]).flatMap cells), .blk b1 26 [.int .i64 0, .int .i64 0]] (fun _ => True)) ∧ l.length - j < l.length - i := by
          rintro t _ v w xs ht rfl rfl hb hn hS
          obtain ⟨h1, h2, h3, h4⟩ := tok1_len ht
          rw [List.length_drop] at h2
          refine ⟨⟨by omega, by simp only [List.length_append, List.length_singleton]; omega, ?_, by simpa [List.flatMap_append] using hS⟩, by omega⟩
          rw [hr, hd, lx_tok hb hn (by rw [← hd]; exact ht), map_app, ← hd, List.drop_drop]
        refine cskip ?_
        refine xn ?_
        refine cblock ?_
        refine cseq ?_
        refine creg ?_
        refine wl (s_move (et d5) (dt (ps p7)) ?_)
        refine wl (s_assign (et (ds d7)) (dt p6) ?_)
        refine wnil ?_
        refine xn ?_
        refine cseq ?_
        refine cseq ?_
        refine creg ?_
        refine wl (s_move (et d0) (dt (ps p8)) ?_)
        refine wl (s_move (et d5) (dt (ps p9)) ?_)
        refine wl (s_idxsn Tryd.underlying9 (et (ds d8)) (et (ds d9)) hc (dt (ps (ps p0))) ?_)
        refine wl (s_callp isfn19 ef (e1 (et (ds (ds d0))) e0) (Class_c _) (dt (ps (ps p1))) ?_)
        refine wnil ?_
        refine xn ?_
        refine cblock ?_
        refine cseq ?_
        refine creg ?_
        refine wl (s_eqi (et (ds (ds d1))) ec (dt (ps (ps p3))) ?_)
        refine wl (s_assign (et (ds (ds d3))) (dt (ps (ps p2))) ?_)
        refine wnil ?_
        refine xn ?_
        refine cifd (et (ds (ds d2))) (fun h2 => ?_) (fun h2 => ?_)
        · have hbl := cls3 (c := c) (by omega)
          refine cseq ?_
          refine creg ?_
          refine wl (s_move (et d5) (dt (ps (ps p4))) ?_)
          refine wl (s_addn (b := 1) (et (ds (ds d4))) ec (by omega) (dt (ps (ps p5))) ?_)
          refine wl (s_assign (et (ds (ds d5))) (dt p5) ?_)
          refine wnil ?_
          refine xn ?_
          refine cexit ?_
          refine (fun h => bm rfl (xe (bh h))) ?_
          refine xl ?_
          first
            | exact ⟨i + 1, ts, v, _, rfl, (Ag.k (Ag.k (Ag.o (Ag.k (Ag.i (Ag.i (Ag.o (Ag.o (Ag.o (Ag.k (Ag.k (Ag.k (Ag.k (Ag.o (Ag.o (Ag.o (Ag.o (Ag.o (Ag.o (Ag.o (Ag.o (Ag.o (Ag.o (Ag.o (Ag.o (Ag.o (Ag.o (Ag.o (Ag.o (Ag.o (Ag.o (Ag.o (Ag.o (Ag.o (Ag.o (Ag.o (Ag.o (Ag.o (Ag.o (Ag.o (Ag.o (Ag.o (Ag.o (Ag.o (Ag.o (Ag.o (Ag.o (Ag.o (Ag.o (Ag.o (Ag.o (Ag.o (Ag.o (Ag.o (Ag.o (Ag.o (Ag.o (Ag.o (Ag.o (Ag.o (Ag.o (Ag.o (Ag.o (Ag.o (Ag.o (Ag.o (Ag.o (Ag.o (Ag.o (Ag.o (Ag.o (Ag.o (Ag.o (Ag.o (Ag.o (Ag.o (Ag.o (Ag.o (Ag.o (Ag.o (Ag.o (Ag.o (Ag.o (Ag.o (Ag.o (Ag.o (Ag.o (Ag.o (Ag.o (Ag.o (Ag.o (Ag.o (Ag.o (Ag.o (Ag.o (Ag.o (Ag.o (Ag.o (Ag.o (Ag.o (Ag.o (Ag.o (Ag.o (Ag.o (Ag.o (Ag.o (Ag.o (Ag.o (Ag.o (Ag.o (Ag.o (Ag.o (Ag.o (Ag.o (Ag.o (Ag.o (Ag.o (Ag.o (Ag.o (Ag.o (Ag.o (Ag.o (Ag.o (Ag.o (Ag.o (Ag.o (Ag.o (Ag.o (Ag.o (Ag.o (Ag.o (Ag.o (Ag.o (Ag.o (Ag.o (Ag.o (Ag.o (Ag.o (Ag.o (Ag.o (Ag.o (Ag.o (Ag.o (Ag.o (Ag.o (Ag.o (Ag.o (Ag.o (Ag.o (Ag.o (Ag.o (Ag.o (Ag.o (Ag.o (Ag.o (Ag.o (Ag.o (Ag.o Ag.z)))))))))))))))))))))))))))))))))))))))))))))))))))))))))))))))))))))))))))))))))))))))))))))))))))))))))))))))))))))))))))))))))))))))))))))))))))))))))))))), ⟨by omega, by omega, by rw [hr, hd, lx_blank hbl], hS⟩, by omega⟩
            | exact ⟨j, ts, v, _, rfl, (Ag.k (Ag.k (Ag.o (Ag.k (Ag.i (Ag.i (Ag.o (Ag.o (Ag.o (Ag.k (Ag.k (Ag.k (Ag.k (Ag.o (Ag.o (Ag.o (Ag.o (Ag.o (Ag.o (Ag.o (Ag.o (Ag.o (Ag.o (Ag.o (Ag.o (Ag.o (Ag.o (Ag.o (Ag.o (Ag.o (Ag.o (Ag.o (Ag.o (Ag.o (Ag.o (Ag.o (Ag.o (Ag.o (Ag.o (Ag.o (Ag.o (Ag.o (Ag.o (Ag.o (Ag.o (Ag.o (Ag.o (Ag.o (Ag.o (Ag.o (Ag.o (Ag.o (Ag.o (Ag.o (Ag.o (Ag.o (Ag.o (Ag.o (Ag.o (Ag.o (Ag.o (Ag.o (Ag.o (Ag.o (Ag.o (Ag.o (Ag.o (Ag.o (Ag.o (Ag.o (Ag.o (Ag.o (Ag.o (Ag.o (Ag.o (Ag.o (Ag.o (Ag.o (Ag.o (Ag.o (Ag.o (Ag.o (Ag.o (Ag.o (Ag.o (Ag.o (Ag.o (Ag.o (Ag.o (Ag.o (Ag.o (Ag.o (Ag.o (Ag.o (Ag.o (Ag.o (Ag.o (Ag.o (Ag.o (Ag.o (Ag.o (Ag.o (Ag.o (Ag.o (Ag.o (Ag.o (Ag.o (Ag.o (Ag.o (Ag.o (Ag.o (Ag.o (Ag.o (Ag.o (Ag.o (Ag.o (Ag.o (Ag.o (Ag.o (Ag.o (Ag.o (Ag.o (Ag.o (Ag.o (Ag.o (Ag.o (Ag.o (Ag.o (Ag.o (Ag.o (Ag.o (Ag.o (Ag.o (Ag.o (Ag.o (Ag.o (Ag.o (Ag.o (Ag.o (Ag.o (Ag.o (Ag.o (Ag.o (Ag.o (Ag.o (Ag.o (Ag.o (Ag.o (Ag.o (Ag.o (Ag.o (Ag.o (Ag.o (Ag.o (Ag.o (Ag.o (Ag.o (Ag.o Ag.z)))))))))))))))))))))))))))))))))))))))))))))))))))))))))))))))))))))))))))))))))))))))))))))))))))))))))))))))))))))))))))))))))))))))))))))))))))))))))))))), ⟨by omega, by omega, by rw [hr]; rw [hd, lx_rem hrm, ← hd, hjn, List.drop_drop, show i + (j - i) = j by omega], hS⟩, by omega⟩
            | exact ⟨_, _, _, _, rfl, (Ag.k (Ag.k (Ag.o (Ag.k (Ag.i (Ag.i (Ag.o (Ag.o (Ag.o (Ag.k (Ag.k (Ag.k (Ag.k (Ag.o (Ag.o (Ag.o (Ag.o (Ag.o (Ag.o (Ag.o (Ag.o (Ag.o (Ag.o (Ag.o (Ag.o (Ag.o (Ag.o (Ag.o (Ag.o (Ag.o (Ag.o (Ag.o (Ag.o (Ag.o (Ag.o (Ag.o (Ag.o (Ag.o (Ag.o (Ag.o (Ag.o (Ag.o (Ag.o (Ag.o (Ag.o (Ag.o (Ag.o (Ag.o (Ag.o (Ag.o (Ag.o (Ag.o (Ag.o (Ag.o (Ag.o (Ag.o (Ag.o (Ag.o (Ag.o (Ag.o (Ag.o (Ag.o (Ag.o (Ag.o (Ag.o (Ag.o (Ag.o (Ag.o (Ag.o (Ag.o (Ag.o (Ag.o (Ag.o (Ag.o (Ag.o (Ag.o (Ag.o (Ag.o (Ag.o (Ag.o (Ag.o (Ag.o (Ag.o (Ag.o (Ag.o (Ag.o (Ag.o (Ag.o (Ag.o (Ag.o (Ag.o (Ag.o (Ag.o (Ag.o (Ag.o (Ag.o (Ag.o (Ag.o (Ag.o (Ag.o (Ag.o (Ag.o (Ag.o (Ag.o (Ag.o (Ag.o (Ag.o (Ag.o (Ag.o (Ag.o (Ag.o (Ag.o (Ag.o (Ag.o (Ag.o (Ag.o (Ag.o (Ag.o (Ag.o (Ag.o (Ag.o (Ag.o (Ag.o (Ag.o (Ag.o (Ag.o (Ag.o (Ag.o (Ag.o (Ag.o (Ag.o (Ag.o (Ag.o (Ag.o (Ag.o (Ag.o (Ag.o (Ag.o (Ag.o (Ag.o (Ag.o (Ag.o (Ag.o (Ag.o (Ag.o (Ag.o (Ag.o (Ag.o (Ag.o (Ag.o (Ag.o (Ag.o (Ag.o (Ag.o (Ag.o (Ag.o (Ag.o (Ag.o Ag.z)))))))))))))))))))))))))))))))))))))))))))))))))))))))))))))))))))))))))))))))))))))))))))))))))))))))))))))))))))))))))))))))))))))))))))))))))))))))))))))), fin _ _ _ _ _ ht (by simp only [hjn]; omega) (by rw [List.drop_take]; simp only [cells, ← hjn, tw_take]; first | rfl | (rw [hzz]; rfl)) hnb hnr hS⟩
            | exact ⟨_, _, _, _, rfl, (Ag.k (Ag.k (Ag.o (Ag.k (Ag.i (Ag.i (Ag.o (Ag.o (Ag.o (Ag.k (Ag.k (Ag.k (Ag.k (Ag.o (Ag.o (Ag.o (Ag.o (Ag.o (Ag.o (Ag.o (Ag.o (Ag.o (Ag.o (Ag.o (Ag.o (Ag.o (Ag.o (Ag.o (Ag.o (Ag.o (Ag.o (Ag.o (Ag.o (Ag.o (Ag.o (Ag.o (Ag.o (Ag.o (Ag.o (Ag.o (Ag.o (Ag.o (Ag.o (Ag.o (Ag.o (Ag.o (Ag.o (Ag.o (Ag.o (Ag.o (Ag.o (Ag.o (Ag.o (Ag.o (Ag.o (Ag.o (Ag.o (Ag.o (Ag.o (Ag.o (Ag.o (Ag.o (Ag.o (Ag.o (Ag.o (Ag.o (Ag.o (Ag.o (Ag.o (Ag.o (Ag.o (Ag.o (Ag.o (Ag.o (Ag.o (Ag.o (Ag.o (Ag.o (Ag.o (Ag.o (Ag.o (Ag.o (Ag.o (Ag.o (Ag.o (Ag.o (Ag.o (Ag.o (Ag.o (Ag.o (Ag.o (Ag.o (Ag.o (Ag.o (Ag.o (Ag.o (Ag.o (Ag.o (Ag.o (Ag.o (Ag.o (Ag.o (Ag.o (Ag.o (Ag.o (Ag.o (Ag.o (Ag.o (Ag.o (Ag.o (Ag.o (Ag.o (Ag.o (Ag.o (Ag.o (Ag.o (Ag.o (Ag.o (Ag.o (Ag.o (Ag.o (Ag.o (Ag.o (Ag.o (Ag.o (Ag.o (Ag.o (Ag.o (Ag.o (Ag.o (Ag.o (Ag.o (Ag.o (Ag.o (Ag.o (Ag.o (Ag.o (Ag.o (Ag.o (Ag.o (Ag.o (Ag.o (Ag.o (Ag.o (Ag.o (Ag.o (Ag.o (Ag.o (Ag.o (Ag.o (Ag.o (Ag.o (Ag.o (Ag.o (Ag.o (Ag.o (Ag.o (Ag.o Ag.z)))))))))))))))))))))))))))))))))))))))))))))))))))))))))))))))))))))))))))))))))))))))))))))))))))))))))))))))))))))))))))))))))))))))))))))))))))))))))))))), fin _ _ _ _ _ ht (by rw [hsg]; rfl) (by simp only [cells, hsn]; rfl) hnb hnr hS⟩
        · refine cseq ?_
          refine creg ?_
          refine wl (s_eqi (et (ds (ds d1))) ec (dt (ps (ps p7))) ?_)
          refine wl (s_assign (et (ds (ds d7))) (dt (ps (ps p6))) ?_)
          refine wnil ?_
          refine xn ?_
          refine cifd (et (ds (ds d6))) (fun h3 => ?_) (fun h3 => ?_)
          · have hrm := cls4 (c := c) (by omega)
            have hn1 : 0 < ((l.drop i).takeWhile lineB).length := by rw [hd, List.takeWhile_cons, if_pos (by simp [lineB]; omega)]; simp
            refine cseq ?_
            refine cblock ?_
            refine cloop [28, 29, 30, 31, 32, 33, 34, 35, 36, 37, 38, 39] (by decide) (fun (j : Nat) => [.k, .k, .k, .k, .k, .i (.int .i64 j), .k, .k, .k, .k, .k, .k, .k, .k, .k, .k, .k, .k, .k, .k, .k, .k, .k, .k, .k, .k, .k, .k, .o 28, .o 29, .o 30, .o 31, .o 32, .o 33, .o 34, .o 35, .o 36, .o 37, .o 38, .o 39]) (fun _ => rfl) (fun (j : Nat) (w : World) => i ≤ j ∧ j ≤ l.length ∧ ((l.drop i).take (j - i)).all lineB = true ∧ Sep (fun _ => True) (fun _ => False) w0 w [.row v 30 4 ts.length (ts.flatMap cells), .blk b1 26 [.int .i64 0, .int .i64 0]] (fun _ => True)) (fun (j : Nat) (w : World) => l.length - j) i (Ag.k (Ag.k (Ag.k (Ag.k (Ag.k (Ag.i (Ag.k (Ag.k (Ag.k (Ag.k (Ag.k (Ag.k (Ag.k (Ag.k (Ag.k (Ag.k (Ag.k (Ag.k (Ag.k (Ag.k (Ag.k (Ag.k (Ag.k (Ag.k (Ag.k (Ag.k (Ag.k (Ag.k (Ag.o (Ag.o (Ag.o (Ag.o (Ag.o (Ag.o (Ag.o (Ag.o (Ag.o (Ag.o (Ag.o (Ag.o Ag.z)))))))))))))))))))))))))))))))))))))))) ?_ ?_
            · exact ⟨Nat.le_refl _, by omega, by simp, hS⟩
            · rintro j t31 w hJ
              obtain ⟨hij, hj, ha, hS⟩ := hJ
              refine cnrm (mk (mk (mk (mk (mk (mi (mk (mk (mk (mk (mk (mk (mk (mk (mk (mk (mk (mk (mk (mk (mk (mk (mk (mk (mk (mk (mk (mk (mo (mo (mo (mo (mo (mo (mo (mo (mo (mo (mo (mo mz)))))))))))))))))))))))))))))))))))))))) ?_
              refine cseq ?_
              refine cseq ?_
              refine creg ?_
              refine wl (s_move (et d5) (dt (ps (ps p8))) ?_)
              refine wl (s_move (et d0) (dt (ps (ps p9))) ?_)
              refine wl (s_lens Tryd.underlying9 (et (ds (ds d9))) (dt (ps (ps (ps p0)))) ?_)
              refine wl (s_lss (et (ds (ds d8))) (et (ds (ds (ds d0)))) (dt (ps (ps (ps p1)))) ?_)
              refine wl (s_move (et (ds (ds (ds d1)))) (dt (ps (ps (ps p2)))) ?_)
              refine wspd (ds (ds (ds d2))) (ps (ps (ps p2))) (ps (ps (ps p2))) (fun g11_4 => ?_) (fun g11_4 => ?_)
              · obtain ⟨cj, hcj⟩ : ∃ cj, l[j]? = some cj := ⟨_, List.getElem?_eq_getElem (by omega)⟩
                refine wy rfl (ds (ds (ds d2))) (s_move (et d0) (dt (ps (ps (ps p3)))) ?_)
                refine wy rfl (ds (ds (ds d2))) (s_move (et d5) (dt (ps (ps (ps p4)))) ?_)
                refine wy rfl (ds (ds (ds d2))) (s_idxsn Tryd.underlying9 (et (ds (ds (ds d3)))) (et (ds (ds (ds d4)))) hcj (dt (ps (ps (ps p5)))) ?_)
                refine wy rfl (ds (ds (ds d2))) (s_nei (et (ds (ds (ds d5)))) ec (dt (ps (ps (ps p6)))) ?_)
                refine wl (s_pickt (et (ds (ds (ds d2)))) (et (ds (ds (ds d6)))) (dt (ps (ps (ps p7)))) ?_)
                refine wnil ?_
                refine xn ?_
                refine cifd (et (ds (ds (ds d7)))) (fun h4 => ?_) (fun h4 => ?_)
                · have hpj : lineB cj = true := by simp [lineB]; omega
                  refine cskip ?_
                  refine xn ?_
                  refine cblock ?_
                  refine creg ?_
                  refine wl (s_move (et d5) (dt (ps (ps (ps p8)))) ?_)
                  refine wl (s_addn (b := 1) (et (ds (ds (ds d8)))) ec (by omega) (dt (ps (ps (ps p9)))) ?_)
                  refine wl (s_assign (et (ds (ds (ds d9)))) (dt p5) ?_)
                  refine wnil ?_
                  refine (fun h => bn (xl h)) ?_
                  exact ⟨j + 1, _, rfl, (Ag.k (Ag.k (Ag.k (Ag.k (Ag.k (Ag.i (Ag.k (Ag.k (Ag.k (Ag.k (Ag.k (Ag.k (Ag.k (Ag.k (Ag.k (Ag.k (Ag.k (Ag.k (Ag.k (Ag.k (Ag.k (Ag.k (Ag.k (Ag.k (Ag.k (Ag.k (Ag.k (Ag.k (Ag.o (Ag.o (Ag.o (Ag.o (Ag.o (Ag.o (Ag.o (Ag.o (Ag.o (Ag.o (Ag.o (Ag.o Ag.z)))))))))))))))))))))))))))))))))))))))), ⟨by omega, by omega, by rw [show j + 1 - i = j - i + 1 by omega]; exact all_snoc ha (by rw [hat, show i + (j - i) = j by omega]; exact hcj) hpj, hS⟩, by omega⟩
                · have hjn : ((l.drop i).takeWhile lineB).length = j - i := tw_lt ha (by rw [hat, show i + (j - i) = j by omega]; exact hcj) (by simp [lineB]; omega)
                  refine cexit ?_
                  refine (fun h => xe (xe (bh h))) ?_
                  refine xn ?_
                  refine cexit ?_
                  refine (fun h => bm rfl (xe (bh h))) ?_
                  refine xl ?_
                  first
                    | exact ⟨i + 1, ts, v, _, rfl, (Ag.k (Ag.k (Ag.o (Ag.k (Ag.i (Ag.i (Ag.o (Ag.o (Ag.o (Ag.k (Ag.k (Ag.k (Ag.k (Ag.o (Ag.o (Ag.o (Ag.o (Ag.o (Ag.o (Ag.o (Ag.o (Ag.o (Ag.o (Ag.o (Ag.o (Ag.o (Ag.o (Ag.o (Ag.o (Ag.o (Ag.o (Ag.o (Ag.o (Ag.o (Ag.o (Ag.o (Ag.o (Ag.o (Ag.o (Ag.o (Ag.o (Ag.o (Ag.o (Ag.o (Ag.o (Ag.o (Ag.o (Ag.o (Ag.o (Ag.o (Ag.o (Ag.o (Ag.o (Ag.o (Ag.o (Ag.o (Ag.o (Ag.o (Ag.o (Ag.o (Ag.o (Ag.o (Ag.o (Ag.o (Ag.o (Ag.o (Ag.o (Ag.o (Ag.o (Ag.o (Ag.o (Ag.o (Ag.o (Ag.o (Ag.o (Ag.o (Ag.o (Ag.o (Ag.o (Ag.o (Ag.o (Ag.o (Ag.o (Ag.o (Ag.o (Ag.o (Ag.o (Ag.o (Ag.o (Ag.o (Ag.o (Ag.o (Ag.o (Ag.o (Ag.o (Ag.o (Ag.o (Ag.o (Ag.o (Ag.o (Ag.o (Ag.o (Ag.o (Ag.o (Ag.o (Ag.o (Ag.o (Ag.o (Ag.o (Ag.o (Ag.o (Ag.o (Ag.o (Ag.o (Ag.o (Ag.o (Ag.o (Ag.o (Ag.o (Ag.o (Ag.o (Ag.o (Ag.o (Ag.o (Ag.o (Ag.o (Ag.o (Ag.o (Ag.o (Ag.o (Ag.o (Ag.o (Ag.o (Ag.o (Ag.o (Ag.o (Ag.o (Ag.o (Ag.o (Ag.o (Ag.o (Ag.o (Ag.o (Ag.o (Ag.o (Ag.o (Ag.o (Ag.o (Ag.o (Ag.o (Ag.o (Ag.o (Ag.o (Ag.o (Ag.o (Ag.o (Ag.o (Ag.o Ag.z)))))))))))))))))))))))))))))))))))))))))))))))))))))))))))))))))))))))))))))))))))))))))))))))))))))))))))))))))))))))))))))))))))))))))))))))))))))))))))))), ⟨by omega, by omega, by rw [hr, hd, lx_blank hbl], hS⟩, by omega⟩
                    | exact ⟨j, ts, v, _, rfl, (Ag.k (Ag.k (Ag.o (Ag.k (Ag.i (Ag.i (Ag.o (Ag.o (Ag.o (Ag.k (Ag.k (Ag.k (Ag.k (Ag.o (Ag.o (Ag.o (Ag.o (Ag.o (Ag.o (Ag.o (Ag.o (Ag.o (Ag.o (Ag.o (Ag.o (Ag.o (Ag.o (Ag.o (Ag.o (Ag.o (Ag.o (Ag.o (Ag.o (Ag.o (Ag.o (Ag.o (Ag.o (Ag.o (Ag.o (Ag.o (Ag.o (Ag.o (Ag.o (Ag.o (Ag.o (Ag.o (Ag.o (Ag.o (Ag.o (Ag.o (Ag.o (Ag.o (Ag.o (Ag.o (Ag.o (Ag.o (Ag.o (Ag.o (Ag.o (Ag.o (Ag.o (Ag.o (Ag.o (Ag.o (Ag.o (Ag.o (Ag.o (Ag.o (Ag.o (Ag.o (Ag.o (Ag.o (Ag.o (Ag.o (Ag.o (Ag.o (Ag.o (Ag.o (Ag.o (Ag.o (Ag.o (Ag.o (Ag.o (Ag.o (Ag.o (Ag.o (Ag.o (Ag.o (Ag.o (Ag.o (Ag.o (Ag.o (Ag.o (Ag.o (Ag.o (Ag.o (Ag.o (Ag.o (Ag.o (Ag.o (Ag.o (Ag.o (Ag.o (Ag.o (Ag.o (Ag.o (Ag.o (Ag.o (Ag.o (Ag.o (Ag.o (Ag.o (Ag.o (Ag.o (Ag.o (Ag.o (Ag.o (Ag.o (Ag.o (Ag.o (Ag.o (Ag.o (Ag.o (Ag.o (Ag.o (Ag.o (Ag.o (Ag.o (Ag.o (Ag.o (Ag.o (Ag.o (Ag.o (Ag.o (Ag.o (Ag.o (Ag.o (Ag.o (Ag.o (Ag.o (Ag.o (Ag.o (Ag.o (Ag.o (Ag.o (Ag.o (Ag.o (Ag.o (Ag.o (Ag.o (Ag.o (Ag.o (Ag.o (Ag.o (Ag.o (Ag.o (Ag.o (Ag.o Ag.z)))))))))))))))))))))))))))))))))))))))))))))))))))))))))))))))))))))))))))))))))))))))))))))))))))))))))))))))))))))))))))))))))))))))))))))))))))))))))))))), ⟨by omega, by omega, by rw [hr]; rw [hd, lx_rem hrm, ← hd, hjn, List.drop_drop, show i + (j - i) = j by omega], hS⟩, by omega⟩
                    | exact ⟨_, _, _, _, rfl, (Ag.k (Ag.k (Ag.o (Ag.k (Ag.i (Ag.i (Ag.o (Ag.o (Ag.o (Ag.k (Ag.k (Ag.k (Ag.k (Ag.o (Ag.o (Ag.o (Ag.o (Ag.o (Ag.o (Ag.o (Ag.o (Ag.o (Ag.o (Ag.o (Ag.o (Ag.o (Ag.o (Ag.o (Ag.o (Ag.o (Ag.o (Ag.o (Ag.o (Ag.o (Ag.o (Ag.o (Ag.o (Ag.o (Ag.o (Ag.o (Ag.o (Ag.o (Ag.o (Ag.o (Ag.o (Ag.o (Ag.o (Ag.o (Ag.o (Ag.o (Ag.o (Ag.o (Ag.o (Ag.o (Ag.o (Ag.o (Ag.o (Ag.o (Ag.o (Ag.o (Ag.o (Ag.o (Ag.o (Ag.o (Ag.o (Ag.o (Ag.o (Ag.o (Ag.o (Ag.o (Ag.o (Ag.o (Ag.o (Ag.o (Ag.o (Ag.o (Ag.o (Ag.o (Ag.o (Ag.o (Ag.o (Ag.o (Ag.o (Ag.o (Ag.o (Ag.o (Ag.o (Ag.o (Ag.o (Ag.o (Ag.o (Ag.o (Ag.o (Ag.o (Ag.o (Ag.o (Ag.o (Ag.o (Ag.o (Ag.o (Ag.o (Ag.o (Ag.o (Ag.o (Ag.o (Ag.o (Ag.o (Ag.o (Ag.o (Ag.o (Ag.o (Ag.o (Ag.o (Ag.o (Ag.o (Ag.o (Ag.o (Ag.o (Ag.o (Ag.o (Ag.o (Ag.o (Ag.o (Ag.o (Ag.o (Ag.o (Ag.o (Ag.o (Ag.o (Ag.o (Ag.o (Ag.o (Ag.o (Ag.o (Ag.o (Ag.o (Ag.o (Ag.o (Ag.o (Ag.o (Ag.o (Ag.o (Ag.o (Ag.o (Ag.o (Ag.o (Ag.o (Ag.o (Ag.o (Ag.o (Ag.o (Ag.o (Ag.o (Ag.o (Ag.o (Ag.o (Ag.o (Ag.o Ag.z)))))))))))))))))))))))))))))))))))))))))))))))))))))))))))))))))))))))))))))))))))))))))))))))))))))))))))))))))))))))))))))))))))))))))))))))))))))))))))))), fin _ _ _ _ _ ht (by simp only [hjn]; omega) (by rw [List.drop_take]; simp only [cells, ← hjn, tw_take]; first | rfl | (rw [hzz]; rfl)) hnb hnr hS⟩
                    | exact ⟨_, _, _, _, rfl, (Ag.k (Ag.k (Ag.o (Ag.k (Ag.i (Ag.i (Ag.o (Ag.o (Ag.o (Ag.k (Ag.k (Ag.k (Ag.k (Ag.o (Ag.o (Ag.o (Ag.o (Ag.o (Ag.o (Ag.o (Ag.o (Ag.o (Ag.o (Ag.o (Ag.o (Ag.o (Ag.o (Ag.o (Ag.o (Ag.o (Ag.o (Ag.o (Ag.o (Ag.o (Ag.o (Ag.o (Ag.o (Ag.o (Ag.o (Ag.o (Ag.o (Ag.o (Ag.o (Ag.o (Ag.o (Ag.o (Ag.o (Ag.o (Ag.o (Ag.o (Ag.o (Ag.o (Ag.o (Ag.o (Ag.o (Ag.o (Ag.o (Ag.o (Ag.o (Ag.o (Ag.o (Ag.o (Ag.o (Ag.o (Ag.o (Ag.o (Ag.o (Ag.o (Ag.o (Ag.o (Ag.o (Ag.o (Ag.o (Ag.o (Ag.o (Ag.o (Ag.o (Ag.o (Ag.o (Ag.o (Ag.o (Ag.o (Ag.o (Ag.o (Ag.o (Ag.o (Ag.o (Ag.o (Ag.o (Ag.o (Ag.o (Ag.o (Ag.o (Ag.o (Ag.o (Ag.o (Ag.o (Ag.o (Ag.o (Ag.o (Ag.o (Ag.o (Ag.o (Ag.o (Ag.o (Ag.o (Ag.o (Ag.o (Ag.o (Ag.o (Ag.o (Ag.o (Ag.o (Ag.o (Ag.o (Ag.o (Ag.o (Ag.o (Ag.o (Ag.o (Ag.o (Ag.o (Ag.o (Ag.o (Ag.o (Ag.o (Ag.o (Ag.o (Ag.o (Ag.o (Ag.o (Ag.o (Ag.o (Ag.o (Ag.o (Ag.o (Ag.o (Ag.o (Ag.o (Ag.o (Ag.o (Ag.o (Ag.o (Ag.o (Ag.o (Ag.o (Ag.o (Ag.o (Ag.o (Ag.o (Ag.o (Ag.o (Ag.o (Ag.o (Ag.o (Ag.o (Ag.o (Ag.o Ag.z)))))))))))))))))))))))))))))))))))))))))))))))))))))))))))))))))))))))))))))))))))))))))))))))))))))))))))))))))))))))))))))))))))))))))))))))))))))))))))))), fin _ _ _ _ _ ht (by rw [hsg]; rfl) (by simp only [cells, hsn]; rfl) hnb hnr hS⟩
              · have hjn : ((l.drop i).takeWhile lineB).length = j - i := by
                  rw [tw_all (by rw [List.take_of_length_le (by rw [List.length_drop]; omega)] at ha; exact ha), List.length_drop]; omega
                refine wn rfl (ds (ds (ds d2))) rfl (dt (ps (ps (ps p3)))) ?_
                refine wn rfl (ds (ds (ds d2))) rfl (dt (ps (ps (ps p4)))) ?_
                refine wn rfl (ds (ds (ds d2))) rfl (dt (ps (ps (ps p5)))) ?_
                refine wn rfl (ds (ds (ds d2))) rfl (dt (ps (ps (ps p6)))) ?_
                refine wl (s_pickf (et (ds (ds (ds d2)))) ec (dt (ps (ps (ps p7)))) ?_)
                refine wnil ?_
                refine xn ?_
                refine ciff (et (ds (ds (ds d7)))) ?_
                refine cexit ?_
                refine (fun h => xe (xe (bh h))) ?_
                refine xn ?_
                refine cexit ?_
                refine (fun h => bm rfl (xe (bh h))) ?_
                refine xl ?_
                first
                  | exact ⟨i + 1, ts, v, _, rfl, (Ag.k (Ag.k (Ag.o (Ag.k (Ag.i (Ag.i (Ag.o (Ag.o (Ag.o (Ag.k (Ag.k (Ag.k (Ag.k (Ag.o (Ag.o (Ag.o (Ag.o (Ag.o (Ag.o (Ag.o (Ag.o (Ag.o (Ag.o (Ag.o (Ag.o (Ag.o (Ag.o (Ag.o (Ag.o (Ag.o (Ag.o (Ag.o (Ag.o (Ag.o (Ag.o (Ag.o (Ag.o (Ag.o (Ag.o (Ag.o (Ag.o (Ag.o (Ag.o (Ag.o (Ag.o (Ag.o (Ag.o (Ag.o (Ag.o (Ag.o (Ag.o (Ag.o (Ag.o (Ag.o (Ag.o (Ag.o (Ag.o (Ag.o (Ag.o (Ag.o (Ag.o (Ag.o (Ag.o (Ag.o (Ag.o (Ag.o (Ag.o (Ag.o (Ag.o (Ag.o (Ag.o (Ag.o (Ag.o (Ag.o (Ag.o (Ag.o (Ag.o (Ag.o (Ag.o (Ag.o (Ag.o (Ag.o (Ag.o (Ag.o (Ag.o (Ag.o (Ag.o (Ag.o (Ag.o (Ag.o (Ag.o (Ag.o (Ag.o (Ag.o (Ag.o (Ag.o (Ag.o (Ag.o (Ag.o (Ag.o (Ag.o (Ag.o (Ag.o (Ag.o (Ag.o (Ag.o (Ag.o (Ag.o (Ag.o (Ag.o (Ag.o (Ag.o (Ag.o (Ag.o (Ag.o (Ag.o (Ag.o (Ag.o (Ag.o (Ag.o (Ag.o (Ag.o (Ag.o (Ag.o (Ag.o (Ag.o (Ag.o (Ag.o (Ag.o (Ag.o (Ag.o (Ag.o (Ag.o (Ag.o (Ag.o (Ag.o (Ag.o (Ag.o (Ag.o (Ag.o (Ag.o (Ag.o (Ag.o (Ag.o (Ag.o (Ag.o (Ag.o (Ag.o (Ag.o (Ag.o (Ag.o (Ag.o (Ag.o (Ag.o (Ag.o (Ag.o (Ag.o (Ag.o Ag.z)))))))))))))))))))))))))))))))))))))))))))))))))))))))))))))))))))))))))))))))))))))))))))))))))))))))))))))))))))))))))))))))))))))))))))))))))))))))))))))), ⟨by omega, by omega, by rw [hr, hd, lx_blank hbl], hS⟩, by omega⟩
                  | exact ⟨j, ts, v, _, rfl, (Ag.k (Ag.k (Ag.o (Ag.k (Ag.i (Ag.i (Ag.o (Ag.o (Ag.o (Ag.k (Ag.k (Ag.k (Ag.k (Ag.o (Ag.o (Ag.o (Ag.o (Ag.o (Ag.o (Ag.o (Ag.o (Ag.o (Ag.o (Ag.o (Ag.o (Ag.o (Ag.o (Ag.o (Ag.o (Ag.o (Ag.o (Ag.o (Ag.o (Ag.o (Ag.o (Ag.o (Ag.o (Ag.o (Ag.o (Ag.o (Ag.o (Ag.o (Ag.o (Ag.o (Ag.o (Ag.o (Ag.o (Ag.o (Ag.o (Ag.o (Ag.o (Ag.o (Ag.o (Ag.o (Ag.o (Ag.o (Ag.o (Ag.o (Ag.o (Ag.o (Ag.o (Ag.o (Ag.o (Ag.o (Ag.o (Ag.o (Ag.o (Ag.o (Ag.o (Ag.o (Ag.o (Ag.o (Ag.o (Ag.o (Ag.o (Ag.o (Ag.o (Ag.o (Ag.o (Ag.o (Ag.o (Ag.o (Ag.o (Ag.o (Ag.o (Ag.o (Ag.o (Ag.o (Ag.o (Ag.o (Ag.o (Ag.o (Ag.o (Ag.o (Ag.o (Ag.o (Ag.o (Ag.o (Ag.o (Ag.o (Ag.o (Ag.o (Ag.o (Ag.o (Ag.o (Ag.o (Ag.o (Ag.o (Ag.o (Ag.o (Ag.o (Ag.o (Ag.o (Ag.o (Ag.o (Ag.o (Ag.o (Ag.o (Ag.o (Ag.o (Ag.o (Ag.o (Ag.o (Ag.o (Ag.o (Ag.o (Ag.o (Ag.o (Ag.o (Ag.o (Ag.o (Ag.o (Ag.o (Ag.o (Ag.o (Ag.o (Ag.o (Ag.o (Ag.o (Ag.o (Ag.o (Ag.o (Ag.o (Ag.o (Ag.o (Ag.o (Ag.o (Ag.o (Ag.o (Ag.o (Ag.o (Ag.o (Ag.o (Ag.o (Ag.o (Ag.o (Ag.o (Ag.o Ag.z)))))))))))))))))))))))))))))))))))))))))))))))))))))))))))))))))))))))))))))))))))))))))))))))))))))))))))))))))))))))))))))))))))))))))))))))))))))))))))))), ⟨by omega, by omega, by rw [hr]; rw [hd, lx_rem hrm, ← hd, hjn, List.drop_drop, show i + (j - i) = j by omega], hS⟩, by omega⟩
                  | exact ⟨_, _, _, _, rfl, (Ag.k (Ag.k (Ag.o (Ag.k (Ag.i (Ag.i (Ag.o (Ag.o (Ag.o (Ag.k (Ag.k (Ag.k (Ag.k (Ag.o (Ag.o (Ag.o (Ag.o (Ag.o (Ag.o (Ag.o (Ag.o (Ag.o (Ag.o (Ag.o (Ag.o (Ag.o (Ag.o (Ag.o (Ag.o (Ag.o (Ag.o (Ag.o (Ag.o (Ag.o (Ag.o (Ag.o (Ag.o (Ag.o (Ag.o (Ag.o (Ag.o (Ag.o (Ag.o (Ag.o (Ag.o (Ag.o (Ag.o (Ag.o (Ag.o (Ag.o (Ag.o (Ag.o (Ag.o (Ag.o (Ag.o (Ag.o (Ag.o (Ag.o (Ag.o (Ag.o (Ag.o (Ag.o (Ag.o (Ag.o (Ag.o (Ag.o (Ag.o (Ag.o (Ag.o (Ag.o (Ag.o (Ag.o (Ag.o (Ag.o (Ag.o (Ag.o (Ag.o (Ag.o (Ag.o (Ag.o (Ag.o (Ag.o (Ag.o (Ag.o (Ag.o (Ag.o (Ag.o (Ag.o (Ag.o (Ag.o (Ag.o (Ag.o (Ag.o (Ag.o (Ag.o (Ag.o (Ag.o (Ag.o (Ag.o (Ag.o (Ag.o (Ag.o (Ag.o (Ag.o (Ag.o (Ag.o (Ag.o (Ag.o (Ag.o (Ag.o (Ag.o (Ag.o (Ag.o (Ag.o (Ag.o (Ag.o (Ag.o (Ag.o (Ag.o (Ag.o (Ag.o (Ag.o (Ag.o (Ag.o (Ag.o (Ag.o (Ag.o (Ag.o (Ag.o (Ag.o (Ag.o (Ag.o (Ag.o (Ag.o (Ag.o (Ag.o (Ag.o (Ag.o (Ag.o (Ag.o (Ag.o (Ag.o (Ag.o (Ag.o (Ag.o (Ag.o (Ag.o (Ag.o (Ag.o (Ag.o (Ag.o (Ag.o (Ag.o (Ag.o (Ag.o (Ag.o (Ag.o (Ag.o Ag.z)))))))))))))))))))))))))))))))))))))))))))))))))))))))))))))))))))))))))))))))))))))))))))))))))))))))))))))))))))))))))))))))))))))))))))))))))))))))))))))), fin _ _ _ _ _ ht (by simp only [hjn]; omega) (by rw [List.drop_take]; simp only [cells, ← hjn, tw_take]; first | rfl | (rw [hzz]; rfl)) hnb hnr hS⟩
                  | exact ⟨_, _, _, _, rfl, (Ag.k (Ag.k (Ag.o (Ag.k (Ag.i (Ag.i (Ag.o (Ag.o (Ag.o (Ag.k (Ag.k (Ag.k (Ag.k (Ag.o (Ag.o (Ag.o (Ag.o (Ag.o (Ag.o (Ag.o (Ag.o (Ag.o (Ag.o (Ag.o (Ag.o (Ag.o (Ag.o (Ag.o (Ag.o (Ag.o (Ag.o (Ag.o (Ag.o (Ag.o (Ag.o (Ag.o (Ag.o (Ag.o (Ag.o (Ag.o (Ag.o (Ag.o (Ag.o (Ag.o (Ag.o (Ag.o (Ag.o (Ag.o (Ag.o (Ag.o (Ag.o (Ag.o (Ag.o (Ag.o (Ag.o (Ag.o (Ag.o (Ag.o (Ag.o (Ag.o (Ag.o (Ag.o (Ag.o (Ag.o (Ag.o (Ag.o (Ag.o (Ag.o (Ag.o (Ag.o (Ag.o (Ag.o (Ag.o (Ag.o (Ag.o (Ag.o (Ag.o (Ag.o (Ag.o (Ag.o (Ag.o (Ag.o (Ag.o (Ag.o (Ag.o (Ag.o (Ag.o (Ag.o (Ag.o (Ag.o (Ag.o (Ag.o (Ag.o (Ag.o (Ag.o (Ag.o (Ag.o (Ag.o (Ag.o (Ag.o (Ag.o (Ag.o (Ag.o (Ag.o (Ag.o (Ag.o (Ag.o (Ag.o (Ag.o (Ag.o (Ag.o (Ag.o (Ag.o (Ag.o (Ag.o (Ag.o (Ag.o (Ag.o (Ag.o (Ag.o (Ag.o (Ag.o (Ag.o (Ag.o (Ag.o (Ag.o (Ag.o (Ag.o (Ag.o (Ag.o (Ag.o (Ag.o (Ag.o (Ag.o (Ag.o (Ag.o (Ag.o (Ag.o (Ag.o (Ag.o (Ag.o (Ag.o (Ag.o (Ag.o (Ag.o (Ag.o (Ag.o (Ag.o (Ag.o (Ag.o (Ag.o (Ag.o (Ag.o (Ag.o (Ag.o (Ag.o (Ag.o (Ag.o Ag.z)))))))))))))))))))))))))))))))))))))))))))))))))))))))))))))))))))))))))))))))))))))))))))))))))))))))))))))))))))))))))))))))))))))))))))))))))))))))))))))), fin _ _ _ _ _ ht (by rw [hsg]; rfl) (by simp only [cells, hsn]; rfl) hnb hnr hS⟩
          · refine cseq ?_
            refine creg ?_
            refine wl (s_eqi (et (ds (ds d1))) ec (dt (ps (ps (ps (ps p1))))) ?_)
            refine wl (s_assign (et (ds (ds (ds (ds d1))))) (dt (ps (ps (ps (ps p0))))) ?_)
            refine wnil ?_
            refine xn ?_
            refine cifd (et (ds (ds (ds (ds d0))))) (fun h5 => ?_) (fun h5 => ?_)
            · obtain ⟨hlt, hnb, hnr⟩ := cls1 (c := c) (by omega)
              have ht : tok1 i (l.drop i) = .ok ⟨1, (l.drop i).takeWhile wordB, 0, i⟩ := by rw [hd]; simp [tok1, hlt]
              refine cseq ?_
              refine cblock ?_
              refine cloop [42, 43, 44, 45, 46, 47, 48, 49, 50, 51, 52, 53, 54] (by decide) (fun (j : Nat) => [.k, .k, .k, .k, .k, .i (.int .i64 j), .k, .k, .k, .k, .k, .k, .k, .k, .k, .k, .k, .k, .k, .k, .k, .k, .k, .k, .k, .k, .k, .k, .k, .k, .k, .k, .k, .k, .k, .k, .k, .k, .k, .k, .k, .k, .o 42, .o 43, .o 44, .o 45, .o 46, .o 47, .o 48, .o 49, .o 50, .o 51, .o 52, .o 53, .o 54]) (fun _ => rfl) (fun (j : Nat) (w : World) => i ≤ j ∧ j ≤ l.length ∧ ((l.drop i).take (j - i)).all wordB = true ∧ Sep (fun _ => True) (fun _ => False) w0 w [.row v 30 4 ts.length (ts.flatMap cells), .blk b1 26 [.int .i64 0, .int .i64 0]] (fun _ => True)) (fun (j : Nat) (w : World) => l.length - j) i (Ag.k (Ag.k (Ag.k (Ag.k (Ag.k (Ag.i (Ag.k (Ag.k (Ag.k (Ag.k (Ag.k (Ag.k (Ag.k (Ag.k (Ag.k (Ag.k (Ag.k (Ag.k (Ag.k (Ag.k (Ag.k (Ag.k (Ag.k (Ag.k (Ag.k (Ag.k (Ag.k (Ag.k (Ag.k (Ag.k (Ag.k (Ag.k (Ag.k (Ag.k (Ag.k (Ag.k (Ag.k (Ag.k (Ag.k (Ag.k (Ag.k (Ag.k (Ag.o (Ag.o (Ag.o (Ag.o (Ag.o (Ag.o (Ag.o (Ag.o (Ag.o (Ag.o (Ag.o (Ag.o (Ag.o Ag.z))))))))))))))))))))))))))))))))))))))))))))))))))))))) ?_ ?_
              · exact ⟨Nat.le_refl _, by omega, by simp, hS⟩
              · rintro j t54 w hJ
                obtain ⟨hij, hj, ha, hS⟩ := hJ
                refine cnrm (mk (mk (mk (mk (mk (mi (mk (mk (mk (mk (mk (mk (mk (mk (mk (mk (mk (mk (mk (mk (mk (mk (mk (mk (mk (mk (mk (mk (mk (mk (mk (mk (mk (mk (mk (mk (mk (mk (mk (mk (mk (mk (mo (mo (mo (mo (mo (mo (mo (mo (mo (mo (mo (mo (mo mz))))))))))))))))))))))))))))))))))))))))))))))))))))))) ?_
                refine cseq ?_
                refine cseq ?_
                refine creg ?_
                refine wl (s_move (et d5) (dt (ps (ps (ps (ps p2))))) ?_)
                refine wl (s_move (et d0) (dt (ps (ps (ps (ps p3))))) ?_)
                refine wl (s_lens Tryd.underlying9 (et (ds (ds (ds (ds d3))))) (dt (ps (ps (ps (ps p4))))) ?_)
                refine wl (s_lss (et (ds (ds (ds (ds d2))))) (et (ds (ds (ds (ds d4))))) (dt (ps (ps (ps (ps p5))))) ?_)
                refine wl (s_move (et (ds (ds (ds (ds d5))))) (dt (ps (ps (ps (ps p6))))) ?_)
                refine wspd (ds (ds (ds (ds d6)))) (ps (ps (ps (ps p6)))) (ps (ps (ps (ps p6)))) (fun g14_4 => ?_) (fun g14_4 => ?_)
                · obtain ⟨cj, hcj⟩ : ∃ cj, l[j]? = some cj := ⟨_, List.getElem?_eq_getElem (by omega)⟩
                  refine wy rfl (ds (ds (ds (ds d6)))) (s_move (et d0) (dt (ps (ps (ps (ps p7))))) ?_)
                  refine wy rfl (ds (ds (ds (ds d6)))) (s_move (et d5) (dt (ps (ps (ps (ps p8))))) ?_)
                  refine wy rfl (ds (ds (ds (ds d6)))) (s_idxsn Tryd.underlying9 (et (ds (ds (ds (ds d7))))) (et (ds (ds (ds (ds d8))))) hcj (dt (ps (ps (ps (ps p9))))) ?_)
                  refine wy rfl (ds (ds (ds (ds d6)))) (s_callp isfn19 ef (e1 (et (ds (ds (ds (ds d9))))) e0) (Class_c _) (dt (ps (ps (ps (ps (ps p0)))))) ?_)
                  refine wy rfl (ds (ds (ds (ds d6)))) (s_leq (et (ds (ds (ds (ds (ds d0)))))) ec (dt (ps (ps (ps (ps (ps p1)))))) ?_)
                  refine wl (s_pickt (et (ds (ds (ds (ds d6))))) (et (ds (ds (ds (ds (ds d1)))))) (dt (ps (ps (ps (ps (ps p2)))))) ?_)
                  refine wnil ?_
                  refine xn ?_
                  refine cifd (et (ds (ds (ds (ds (ds d2)))))) (fun h6 => ?_) (fun h6 => ?_)
                  · have hpj : wordB cj = true := by rw [clsw]; exact decide_eq_true (by omega)
                    refine cskip ?_
                    refine xn ?_
                    refine cblock ?_
                    refine creg ?_
                    refine wl (s_move (et d5) (dt (ps (ps (ps (ps (ps p3)))))) ?_)
                    refine wl (s_addn (b := 1) (et (ds (ds (ds (ds (ds d3)))))) ec (by omega) (dt (ps (ps (ps (ps (ps p4)))))) ?_)
                    refine wl (s_assign (et (ds (ds (ds (ds (ds d4)))))) (dt p5) ?_)
                    refine wnil ?_
                    refine (fun h => bn (xl h)) ?_
                    exact ⟨j + 1, _, rfl, (Ag.k (Ag.k (Ag.k (Ag.k (Ag.k (Ag.i (Ag.k (Ag.k (Ag.k (Ag.k (Ag.k (Ag.k (Ag.k (Ag.k (Ag.k (Ag.k (Ag.k (Ag.k (Ag.k (Ag.k (Ag.k (Ag.k (Ag.k (Ag.k (Ag.k (Ag.k (Ag.k (Ag.k (Ag.k (Ag.k (Ag.k (Ag.k (Ag.k (Ag.k (Ag.k (Ag.k (Ag.k (Ag.k (Ag.k (Ag.k (Ag.k (Ag.k (Ag.o (Ag.o (Ag.o (Ag.o (Ag.o (Ag.o (Ag.o (Ag.o (Ag.o (Ag.o (Ag.o (Ag.o (Ag.o Ag.z))))))))))))))))))))))))))))))))))))))))))))))))))))))), ⟨by omega, by omega, by rw [show j + 1 - i = j - i + 1 by omega]; exact all_snoc ha (by rw [hat, show i + (j - i) = j by omega]; exact hcj) hpj, hS⟩, by omega⟩
                  · have hjn : ((l.drop i).takeWhile wordB).length = j - i := tw_lt ha (by rw [hat, show i + (j - i) = j by omega]; exact hcj) (by rw [clsw]; exact decide_eq_false (by omega))
                    refine cexit ?_
                    refine (fun h => xe (xe (bh h))) ?_
                    refine xn ?_
                    refine cseq ?_
                    refine creg ?_
                    refine wl (s_move (et d4) (dt (ps (ps (ps (ps (ps p5)))))) ?_)
                    refine wl (s_move (et d0) (dt (ps (ps (ps (ps (ps p6)))))) ?_)
                    refine wl (s_move (et d6) (dt (ps (ps (ps (ps (ps p7)))))) ?_)
                    refine wl (s_move (et d5) (dt (ps (ps (ps (ps (ps p8)))))) ?_)
                    refine wl (s_cutsn Tryd.underlying9 (et (ds (ds (ds (ds (ds d6)))))) (et (ds (ds (ds (ds (ds d7)))))) (et (ds (ds (ds (ds (ds d8)))))) (by omega) (dt (ps (ps (ps (ps (ps p9)))))) ?_)
                    refine wl (s_move (et d6) (dt (ps (ps (ps (ps (ps (ps p0))))))) ?_)
                    refine wl (s_build ti30 pl30 (Fl.o rfl ec rfl rfl p0 (Fl.o rfl (et (ds (ds (ds (ds (ds d9)))))) rfl rfl p1 (Fl.o rfl (et (ds (ds (ds (ds (ds (ds d0))))))) rfl rfl p3 Fl.z))) (dt (ps (ps (ps (ps (ps (ps p1))))))) ?_)
                    refine wl (s_bsl1 Tryd.underlying23 ti30 rfl (et (ds (ds (ds (ds (ds (ds d1))))))) rfl hS ?_)
                    clear hS; intro b3 w3_ hb3 hS
                    refine pu (dt (ps (ps (ps (ps (ps (ps p2))))))) ?_
                    refine wl (s_append Tryd.underlying23 ti30 rfl (et (ds (ds (ds (ds (ds d5)))))) (et (ds (ds (ds (ds (ds (ds d2))))))) hS d1 ((hS.blk d0).cells) rfl rfl (by omega) ?_)
                    clear hS; intro v4 w4_ rs_ hp_ hS; cases (show _ = rs_ from hp_)
                    replace hS := Sep.reput hS p1
                    refine pu (dt (ps (ps (ps (ps (ps (ps p3))))))) ?_
                    replace hS := hS.drop Rm.z
                    refine wl (s_assign (et (ds (ds (ds (ds (ds (ds d3))))))) (dt p4) ?_)
                    refine wnil ?_
                    refine xn ?_
                    refine cexit ?_
                    refine (fun h => bm rfl (xe (bh h))) ?_
                    refine xl ?_
                    first
                      | exact ⟨i + 1, ts, v, _, rfl, (Ag.k (Ag.k (Ag.o (Ag.k (Ag.i (Ag.i (Ag.o (Ag.o (Ag.o (Ag.k (Ag.k (Ag.k (Ag.k (Ag.o (Ag.o (Ag.o (Ag.o (Ag.o (Ag.o (Ag.o (Ag.o (Ag.o (Ag.o (Ag.o (Ag.o (Ag.o (Ag.o (Ag.o (Ag.o (Ag.o (Ag.o (Ag.o (Ag.o (Ag.o (Ag.o (Ag.o (Ag.o (Ag.o (Ag.o (Ag.o (Ag.o (Ag.o (Ag.o (Ag.o (Ag.o (Ag.o (Ag.o (Ag.o (Ag.o (Ag.o (Ag.o (Ag.o (Ag.o (Ag.o (Ag.o (Ag.o (Ag.o (Ag.o (Ag.o (Ag.o (Ag.o (Ag.o (Ag.o (Ag.o (Ag.o (Ag.o (Ag.o (Ag.o (Ag.o (Ag.o (Ag.o (Ag.o (Ag.o (Ag.o (Ag.o (Ag.o (Ag.o (Ag.o (Ag.o (Ag.o (Ag.o (Ag.o (Ag.o (Ag.o (Ag.o (Ag.o (Ag.o (Ag.o (Ag.o (Ag.o (Ag.o (Ag.o (Ag.o (Ag.o (Ag.o (Ag.o (Ag.o (Ag.o (Ag.o (Ag.o (Ag.o (Ag.o (Ag.o (Ag.o (Ag.o (Ag.o (Ag.o (Ag.o (Ag.o (Ag.o (Ag.o (Ag.o (Ag.o (Ag.o (Ag.o (Ag.o (Ag.o (Ag.o (Ag.o (Ag.o (Ag.o (Ag.o (Ag.o (Ag.o (Ag.o (Ag.o (Ag.o (Ag.o (Ag.o (Ag.o (Ag.o (Ag.o (Ag.o (Ag.o (Ag.o (Ag.o (Ag.o (Ag.o (Ag.o (Ag.o (Ag.o (Ag.o (Ag.o (Ag.o (Ag.o (Ag.o (Ag.o (Ag.o (Ag.o (Ag.o (Ag.o (Ag.o (Ag.o (Ag.o (Ag.o (Ag.o (Ag.o (Ag.o Ag.z)))))))))))))))))))))))))))))))))))))))))))))))))))))))))))))))))))))))))))))))))))))))))))))))))))))))))))))))))))))))))))))))))))))))))))))))))))))))))))))), ⟨by omega, by omega, by rw [hr, hd, lx_blank hbl], hS⟩, by omega⟩
                      | exact ⟨j, ts, v, _, rfl, (Ag.k (Ag.k (Ag.o (Ag.k (Ag.i (Ag.i (Ag.o (Ag.o (Ag.o (Ag.k (Ag.k (Ag.k (Ag.k (Ag.o (Ag.o (Ag.o (Ag.o (Ag.o (Ag.o (Ag.o (Ag.o (Ag.o (Ag.o (Ag.o (Ag.o (Ag.o (Ag.o (Ag.o (Ag.o (Ag.o (Ag.o (Ag.o (Ag.o (Ag.o (Ag.o (Ag.o (Ag.o (Ag.o (Ag.o (Ag.o (Ag.o (Ag.o (Ag.o (Ag.o (Ag.o (Ag.o (Ag.o (Ag.o (Ag.o (Ag.o (Ag.o (Ag.o (Ag.o (Ag.o (Ag.o (Ag.o (Ag.o (Ag.o (Ag.o (Ag.o (Ag.o (Ag.o (Ag.o (Ag.o (Ag.o (Ag.o (Ag.o (Ag.o (Ag.o (Ag.o (Ag.o (Ag.o (Ag.o (Ag.o (Ag.o (Ag.o (Ag.o (Ag.o (Ag.o (Ag.o (Ag.o (Ag.o (Ag.o (Ag.o (Ag.o (Ag.o (Ag.o (Ag.o (Ag.o (Ag.o (Ag.o (Ag.o (Ag.o (Ag.o (Ag.o (Ag.o (Ag.o (Ag.o (Ag.o (Ag.o (Ag.o (Ag.o (Ag.o (Ag.o (Ag.o (Ag.o (Ag.o (Ag.o (Ag.o (Ag.o (Ag.o (Ag.o (Ag.o (Ag.o (Ag.o (Ag.o (Ag.o (Ag.o (Ag.o (Ag.o (Ag.o (Ag.o (Ag.o (Ag.o (Ag.o (Ag.o (Ag.o (Ag.o (Ag.o (Ag.o (Ag.o (Ag.o (Ag.o (Ag.o (Ag.o (Ag.o (Ag.o (Ag.o (Ag.o (Ag.o (Ag.o (Ag.o (Ag.o (Ag.o (Ag.o (Ag.o (Ag.o (Ag.o (Ag.o (Ag.o (Ag.o (Ag.o (Ag.o (Ag.o (Ag.o (Ag.o (Ag.o (Ag.o Ag.z)))))))))))))))))))))))))))))))))))))))))))))))))))))))))))))))))))))))))))))))))))))))))))))))))))))))))))))))))))))))))))))))))))))))))))))))))))))))))))))), ⟨by omega, by omega, by rw [hr]; rw [hd, lx_rem hrm, ← hd, hjn, List.drop_drop, show i + (j - i) = j by omega], hS⟩, by omega⟩
                      | exact ⟨_, _, _, _, rfl, (Ag.k (Ag.k (Ag.o (Ag.k (Ag.i (Ag.i (Ag.o (Ag.o (Ag.o (Ag.k (Ag.k (Ag.k (Ag.k (Ag.o (Ag.o (Ag.o (Ag.o (Ag.o (Ag.o (Ag.o (Ag.o (Ag.o (Ag.o (Ag.o (Ag.o (Ag.o (Ag.o (Ag.o (Ag.o (Ag.o (Ag.o (Ag.o (Ag.o (Ag.o (Ag.o (Ag.o (Ag.o (Ag.o (Ag.o (Ag.o (Ag.o (Ag.o (Ag.o (Ag.o (Ag.o (Ag.o (Ag.o (Ag.o (Ag.o (Ag.o (Ag.o (Ag.o (Ag.o (Ag.o (Ag.o (Ag.o (Ag.o (Ag.o (Ag.o (Ag.o (Ag.o (Ag.o (Ag.o (Ag.o (Ag.o (Ag.o (Ag.o (Ag.o (Ag.o (Ag.o (Ag.o (Ag.o (Ag.o (Ag.o (Ag.o (Ag.o (Ag.o (Ag.o (Ag.o (Ag.o (Ag.o (Ag.o (Ag.o (Ag.o (Ag.o (Ag.o (Ag.o (Ag.o (Ag.o (Ag.o (Ag.o (Ag.o (Ag.o (Ag.o (Ag.o (Ag.o (Ag.o (Ag.o (Ag.o (Ag.o (Ag.o (Ag.o (Ag.o (Ag.o (Ag.o (Ag.o (Ag.o (Ag.o (Ag.o (Ag.o (Ag.o (Ag.o (Ag.o (Ag.o (Ag.o (Ag.o (Ag.o (Ag.o (Ag.o (Ag.o (Ag.o (Ag.o (Ag.o (Ag.o (Ag.o (Ag.o (Ag.o (Ag.o (Ag.o (Ag.o (Ag.o (Ag.o (Ag.o (Ag.o (Ag.o (Ag.o (Ag.o (Ag.o (Ag.o (Ag.o (Ag.o (Ag.o (Ag.o (Ag.o (Ag.o (Ag.o (Ag.o (Ag.o (Ag.o (Ag.o (Ag.o (Ag.o (Ag.o (Ag.o (Ag.o (Ag.o (Ag.o (Ag.o Ag.z)))))))))))))))))))))))))))))))))))))))))))))))))))))))))))))))))))))))))))))))))))))))))))))))))))))))))))))))))))))))))))))))))))))))))))))))))))))))))))))), fin _ _ _ _ _ ht (by simp only [hjn]; omega) (by rw [List.drop_take]; simp only [cells, ← hjn, tw_take]; first | rfl | (rw [hzz]; rfl)) hnb hnr hS⟩
                      | exact ⟨_, _, _, _, rfl, (Ag.k (Ag.k (Ag.o (Ag.k (Ag.i (Ag.i (Ag.o (Ag.o (Ag.o (Ag.k (Ag.k (Ag.k (Ag.k (Ag.o (Ag.o (Ag.o (Ag.o (Ag.o (Ag.o (Ag.o (Ag.o (Ag.o (Ag.o (Ag.o (Ag.o (Ag.o (Ag.o (Ag.o (Ag.o (Ag.o (Ag.o (Ag.o (Ag.o (Ag.o (Ag.o (Ag.o (Ag.o (Ag.o (Ag.o (Ag.o (Ag.o (Ag.o (Ag.o (Ag.o (Ag.o (Ag.o (Ag.o (Ag.o (Ag.o (Ag.o (Ag.o (Ag.o (Ag.o (Ag.o (Ag.o (Ag.o (Ag.o (Ag.o (Ag.o (Ag.o (Ag.o (Ag.o (Ag.o (Ag.o (Ag.o (Ag.o (Ag.o (Ag.o (Ag.o (Ag.o (Ag.o (Ag.o (Ag.o (Ag.o (Ag.o (Ag.o (Ag.o (Ag.o (Ag.o (Ag.o (Ag.o (Ag.o (Ag.o (Ag.o (Ag.o (Ag.o (Ag.o (Ag.o (Ag.o (Ag.o (Ag.o (Ag.o (Ag.o (Ag.o (Ag.o (Ag.o (Ag.o (Ag.o (Ag.o (Ag.o (Ag.o (Ag.o (Ag.o (Ag.o (Ag.o (Ag.o (Ag.o (Ag.o (Ag.o (Ag.o (Ag.o (Ag.o (Ag.o (Ag.o (Ag.o (Ag.o (Ag.o (Ag.o (Ag.o (Ag.o (Ag.o (Ag.o (Ag.o (Ag.o (Ag.o (Ag.o (Ag.o (Ag.o (Ag.o (Ag.o (Ag.o (Ag.o (Ag.o (Ag.o (Ag.o (Ag.o (Ag.o (Ag.o (Ag.o (Ag.o (Ag.o (Ag.o (Ag.o (Ag.o (Ag.o (Ag.o (Ag.o (Ag.o (Ag.o (Ag.o (Ag.o (Ag.o (Ag.o (Ag.o (Ag.o (Ag.o (Ag.o (Ag.o Ag.z)))))))))))))))))))))))))))))))))))))))))))))))))))))))))))))))))))))))))))))))))))))))))))))))))))))))))))))))))))))))))))))))))))))))))))))))))))))))))))))), fin _ _ _ _ _ ht (by rw [hsg]; rfl) (by simp only [cells, hsn]; rfl) hnb hnr hS⟩
                · have hjn : ((l.drop i).takeWhile wordB).length = j - i := by
                    rw [tw_all (by rw [List.take_of_length_le (by rw [List.length_drop]; omega)] at ha; exact ha), List.length_drop]; omega
                  refine wn rfl (ds (ds (ds (ds d6)))) rfl (dt (ps (ps (ps (ps p7))))) ?_
                  refine wn rfl (ds (ds (ds (ds d6)))) rfl (dt (ps (ps (ps (ps p8))))) ?_
                  refine wn rfl (ds (ds (ds (ds d6)))) rfl (dt (ps (ps (ps (ps p9))))) ?_
                  refine wn rfl (ds (ds (ds (ds d6)))) rfl (dt (ps (ps (ps (ps (ps p0)))))) ?_
                  refine wn rfl (ds (ds (ds (ds d6)))) rfl (dt (ps (ps (ps (ps (ps p1)))))) ?_
                  refine wl (s_pickf (et (ds (ds (ds (ds d6))))) ec (dt (ps (ps (ps (ps (ps p2)))))) ?_)
                  refine wnil ?_
                  refine xn ?_
                  refine ciff (et (ds (ds (ds (ds (ds d2)))))) ?_
                  refine cexit ?_
                  refine (fun h => xe (xe (bh h))) ?_
                  refine xn ?_
                  refine cseq ?_
                  refine creg ?_
                  refine wl (s_move (et d4) (dt (ps (ps (ps (ps (ps p5)))))) ?_)
                  refine wl (s_move (et d0) (dt (ps (ps (ps (ps (ps p6)))))) ?_)
                  refine wl (s_move (et d6) (dt (ps (ps (ps (ps (ps p7)))))) ?_)
                  refine wl (s_move (et d5) (dt (ps (ps (ps (ps (ps p8)))))) ?_)
                  refine wl (s_cutsn Tryd.underlying9 (et (ds (ds (ds (ds (ds d6)))))) (et (ds (ds (ds (ds (ds d7)))))) (et (ds (ds (ds (ds (ds d8)))))) (by omega) (dt (ps (ps (ps (ps (ps p9)))))) ?_)
                  refine wl (s_move (et d6) (dt (ps (ps (ps (ps (ps (ps p0))))))) ?_)
                  refine wl (s_build ti30 pl30 (Fl.o rfl ec rfl rfl p0 (Fl.o rfl (et (ds (ds (ds (ds (ds d9)))))) rfl rfl p1 (Fl.o rfl (et (ds (ds (ds (ds (ds (ds d0))))))) rfl rfl p3 Fl.z))) (dt (ps (ps (ps (ps (ps (ps p1))))))) ?_)
                  refine wl (s_bsl1 Tryd.underlying23 ti30 rfl (et (ds (ds (ds (ds (ds (ds d1))))))) rfl hS ?_)
                  clear hS; intro b5 w5_ hb5 hS
                  refine pu (dt (ps (ps (ps (ps (ps (ps p2))))))) ?_
                  refine wl (s_append Tryd.underlying23 ti30 rfl (et (ds (ds (ds (ds (ds d5)))))) (et (ds (ds (ds (ds (ds (ds d2))))))) hS d1 ((hS.blk d0).cells) rfl rfl (by omega) ?_)
                  clear hS; intro v6 w6_ rs_ hp_ hS; cases (show _ = rs_ from hp_)
                  replace hS := Sep.reput hS p1
                  refine pu (dt (ps (ps (ps (ps (ps (ps p3))))))) ?_
                  replace hS := hS.drop Rm.z
                  refine wl (s_assign (et (ds (ds (ds (ds (ds (ds d3))))))) (dt p4) ?_)
                  refine wnil ?_
                  refine xn ?_
                  refine cexit ?_
                  refine (fun h => bm rfl (xe (bh h))) ?_
                  refine xl ?_
                  first
                    | exact ⟨i + 1, ts, v, _, rfl, (Ag.k (Ag.k (Ag.o (Ag.k (Ag.i (Ag.i (Ag.o (Ag.o (Ag.o (Ag.k (Ag.k (Ag.k (Ag.k (Ag.o (Ag.o (Ag.o (Ag.o (Ag.o (Ag.o (Ag.o (Ag.o (Ag.o (Ag.o (Ag.o (Ag.o (Ag.o (Ag.o (Ag.o (Ag.o (Ag.o (Ag.o (Ag.o (Ag.o (Ag.o (Ag.o (Ag.o (Ag.o (Ag.o (Ag.o (Ag.o (Ag.o (Ag.o (Ag.o (Ag.o (Ag.o (Ag.o (Ag.o (Ag.o (Ag.o (Ag.o (Ag.o (Ag.o (Ag.o (Ag.o (Ag.o (Ag.o (Ag.o (Ag.o (Ag.o (Ag.o (Ag.o (Ag.o (Ag.o (Ag.o (Ag.o (Ag.o (Ag.o (Ag.o (Ag.o (Ag.o (Ag.o (Ag.o (Ag.o (Ag.o (Ag.o (Ag.o (Ag.o (Ag.o (Ag.o (Ag.o (Ag.o (Ag.o (Ag.o (Ag.o (Ag.o (Ag.o (Ag.o (Ag.o (Ag.o (Ag.o (Ag.o (Ag.o (Ag.o (Ag.o (Ag.o (Ag.o (Ag.o (Ag.o (Ag.o (Ag.o (Ag.o (Ag.o (Ag.o (Ag.o (Ag.o (Ag.o (Ag.o (Ag.o (Ag.o (Ag.o (Ag.o (Ag.o (Ag.o (Ag.o (Ag.o (Ag.o (Ag.o (Ag.o (Ag.o (Ag.o (Ag.o (Ag.o (Ag.o (Ag.o (Ag.o (Ag.o (Ag.o (Ag.o (Ag.o (Ag.o (Ag.o (Ag.o (Ag.o (Ag.o (Ag.o (Ag.o (Ag.o (Ag.o (Ag.o (Ag.o (Ag.o (Ag.o (Ag.o (Ag.o (Ag.o (Ag.o (Ag.o (Ag.o (Ag.o (Ag.o (Ag.o (Ag.o (Ag.o (Ag.o (Ag.o (Ag.o (Ag.o (Ag.o Ag.z)))))))))))))))))))))))))))))))))))))))))))))))))))))))))))))))))))))))))))))))))))))))))))))))))))))))))))))))))))))))))))))))))))))))))))))))))))))))))))))), ⟨by omega, by omega, by rw [hr, hd, lx_blank hbl], hS⟩, by omega⟩
                    | exact ⟨j, ts, v, _, rfl, (Ag.k (Ag.k (Ag.o (Ag.k (Ag.i (Ag.i (Ag.o (Ag.o (Ag.o (Ag.k (Ag.k (Ag.k (Ag.k (Ag.o (Ag.o (Ag.o (Ag.o (Ag.o (Ag.o (Ag.o (Ag.o (Ag.o (Ag.o (Ag.o (Ag.o (Ag.o (Ag.o (Ag.o (Ag.o (Ag.o (Ag.o (Ag.o (Ag.o (Ag.o (Ag.o (Ag.o (Ag.o (Ag.o (Ag.o (Ag.o (Ag.o (Ag.o (Ag.o (Ag.o (Ag.o (Ag.o (Ag.o (Ag.o (Ag.o (Ag.o (Ag.o (Ag.o (Ag.o (Ag.o (Ag.o (Ag.o (Ag.o (Ag.o (Ag.o (Ag.o (Ag.o (Ag.o (Ag.o (Ag.o (Ag.o (Ag.o (Ag.o (Ag.o (Ag.o (Ag.o (Ag.o (Ag.o (Ag.o (Ag.o (Ag.o (Ag.o (Ag.o (Ag.o (Ag.o (Ag.o (Ag.o (Ag.o (Ag.o (Ag.o (Ag.o (Ag.o (Ag.o (Ag.o (Ag.o (Ag.o (Ag.o (Ag.o (Ag.o (Ag.o (Ag.o (Ag.o (Ag.o (Ag.o (Ag.o (Ag.o (Ag.o (Ag.o (Ag.o (Ag.o (Ag.o (Ag.o (Ag.o (Ag.o (Ag.o (Ag.o (Ag.o (Ag.o (Ag.o (Ag.o (Ag.o (Ag.o (Ag.o (Ag.o (Ag.o (Ag.o (Ag.o (Ag.o (Ag.o (Ag.o (Ag.o (Ag.o (Ag.o (Ag.o (Ag.o (Ag.o (Ag.o (Ag.o (Ag.o (Ag.o (Ag.o (Ag.o (Ag.o (Ag.o (Ag.o (Ag.o (Ag.o (Ag.o (Ag.o (Ag.o (Ag.o (Ag.o (Ag.o (Ag.o (Ag.o (Ag.o (Ag.o (Ag.o (Ag.o (Ag.o (Ag.o (Ag.o (Ag.o (Ag.o Ag.z)))))))))))))))))))))))))))))))))))))))))))))))))))))))))))))))))))))))))))))))))))))))))))))))))))))))))))))))))))))))))))))))))))))))))))))))))))))))))))))), ⟨by omega, by omega, by rw [hr]; rw [hd, lx_rem hrm, ← hd, hjn, List.drop_drop, show i + (j - i) = j by omega], hS⟩, by omega⟩
                    | exact ⟨_, _, _, _, rfl, (Ag.k (Ag.k (Ag.o (Ag.k (Ag.i (Ag.i (Ag.o (Ag.o (Ag.o (Ag.k (Ag.k (Ag.k (Ag.k (Ag.o (Ag.o (Ag.o (Ag.o (Ag.o (Ag.o (Ag.o (Ag.o (Ag.o (Ag.o (Ag.o (Ag.o (Ag.o (Ag.o (Ag.o (Ag.o (Ag.o (Ag.o (Ag.o (Ag.o (Ag.o (Ag.o (Ag.o (Ag.o (Ag.o (Ag.o (Ag.o (Ag.o (Ag.o (Ag.o (Ag.o (Ag.o (Ag.o (Ag.o (Ag.o (Ag.o (Ag.o (Ag.o (Ag.o (Ag.o (Ag.o (Ag.o (Ag.o (Ag.o (Ag.o (Ag.o (Ag.o (Ag.o (Ag.o (Ag.o (Ag.o (Ag.o (Ag.o (Ag.o (Ag.o (Ag.o (Ag.o (Ag.o (Ag.o (Ag.o (Ag.o (Ag.o (Ag.o (Ag.o (Ag.o (Ag.o (Ag.o (Ag.o (Ag.o (Ag.o (Ag.o (Ag.o (Ag.o (Ag.o (Ag.o (Ag.o (Ag.o (Ag.o (Ag.o (Ag.o (Ag.o (Ag.o (Ag.o (Ag.o (Ag.o (Ag.o (Ag.o (Ag.o (Ag.o (Ag.o (Ag.o (Ag.o (Ag.o (Ag.o (Ag.o (Ag.o (Ag.o (Ag.o (Ag.o (Ag.o (Ag.o (Ag.o (Ag.o (Ag.o (Ag.o (Ag.o (Ag.o (Ag.o (Ag.o (Ag.o (Ag.o (Ag.o (Ag.o (Ag.o (Ag.o (Ag.o (Ag.o (Ag.o (Ag.o (Ag.o (Ag.o (Ag.o (Ag.o (Ag.o (Ag.o (Ag.o (Ag.o (Ag.o (Ag.o (Ag.o (Ag.o (Ag.o (Ag.o (Ag.o (Ag.o (Ag.o (Ag.o (Ag.o (Ag.o (Ag.o (Ag.o (Ag.o (Ag.o (Ag.o (Ag.o Ag.z)))))))))))))))))))))))))))))))))))))))))))))))))))))))))))))))))))))))))))))))))))))))))))))))))))))))))))))))))))))))))))))))))))))))))))))))))))))))))))))), fin _ _ _ _ _ ht (by simp only [hjn]; omega) (by rw [List.drop_take]; simp only [cells, ← hjn, tw_take]; first | rfl | (rw [hzz]; rfl)) hnb hnr hS⟩
                    | exact ⟨_, _, _, _, rfl, (Ag.k (Ag.k (Ag.o (Ag.k (Ag.i (Ag.i (Ag.o (Ag.o (Ag.o (Ag.k (Ag.k (Ag.k (Ag.k (Ag.o (Ag.o (Ag.o (Ag.o (Ag.o (Ag.o (Ag.o (Ag.o (Ag.o (Ag.o (Ag.o (Ag.o (Ag.o (Ag.o (Ag.o (Ag.o (Ag.o (Ag.o (Ag.o (Ag.o (Ag.o (Ag.o (Ag.o (Ag.o (Ag.o (Ag.o (Ag.o (Ag.o (Ag.o (Ag.o (Ag.o (Ag.o (Ag.o (Ag.o (Ag.o (Ag.o (Ag.o (Ag.o (Ag.o (Ag.o (Ag.o (Ag.o (Ag.o (Ag.o (Ag.o (Ag.o (Ag.o (Ag.o (Ag.o (Ag.o (Ag.o (Ag.o (Ag.o (Ag.o (Ag.o (Ag.o (Ag.o (Ag.o (Ag.o (Ag.o (Ag.o (Ag.o (Ag.o (Ag.o (Ag.o (Ag.o (Ag.o (Ag.o (Ag.o (Ag.o (Ag.o (Ag.o (Ag.o (Ag.o (Ag.o (Ag.o (Ag.o (Ag.o (Ag.o (Ag.o (Ag.o (Ag.o (Ag.o (Ag.o (Ag.o (Ag.o (Ag.o (Ag.o (Ag.o (Ag.o (Ag.o (Ag.o (Ag.o (Ag.o (Ag.o (Ag.o (Ag.o (Ag.o (Ag.o (Ag.o (Ag.o (Ag.o (Ag.o (Ag.o (Ag.o (Ag.o (Ag.o (Ag.o (Ag.o (Ag.o (Ag.o (Ag.o (Ag.o (Ag.o (Ag.o (Ag.o (Ag.o (Ag.o (Ag.o (Ag.o (Ag.o (Ag.o (Ag.o (Ag.o (Ag.o (Ag.o (Ag.o (Ag.o (Ag.o (Ag.o (Ag.o (Ag.o (Ag.o (Ag.o (Ag.o (Ag.o (Ag.o (Ag.o (Ag.o (Ag.o (Ag.o (Ag.o (Ag.o (Ag.o (Ag.o Ag.z)))))))))))))))))))))))))))))))))))))))))))))))))))))))))))))))))))))))))))))))))))))))))))))))))))))))))))))))))))))))))))))))))))))))))))))))))))))))))))))), fin _ _ _ _ _ ht (by rw [hsg]; rfl) (by simp only [cells, hsn]; rfl) hnb hnr hS⟩
            · refine cseq ?_
              refine creg ?_
              refine wl (s_eqi (et (ds (ds d1))) ec (dt (ps (ps (ps (ps (ps (ps p5))))))) ?_)
              refine wl (s_assign (et (ds (ds (ds (ds (ds (ds d5))))))) (dt (ps (ps (ps (ps (ps (ps p4))))))) ?_)
              refine wnil ?_
              refine xn ?_
              refine cifd (et (ds (ds (ds (ds (ds (ds d4))))))) (fun h7 => ?_) (fun h7 => ?_)
              · obtain ⟨hlt, hdg, hnb, hnr⟩ := cls2 (c := c) (by omega)
                refine cseq ?_
                refine creg ?_
                refine wl (s_assign ec (dt p7) ?_)
                refine wnil ?_
                refine xn ?_
                refine cseq ?_
                refine cblock ?_
                refine cloop2 [66, 67, 68, 69, 70, 71, 72, 73, 74, 75, 76, 77, 78, 79, 80, 81, 82, 83, 84, 85, 86, 87, 88, 89, 90] (by decide) (fun (j : Nat) (z : Int) => [.k, .k, .k, .k, .k, .i (.int .i64 j), .k, .i (.int .i64 z), .k, .k, .k, .k, .k, .k, .k, .k, .k, .k, .k, .k, .k, .k, .k, .k, .k, .k, .k, .k, .k, .k, .k, .k, .k, .k, .k, .k, .k, .k, .k, .k, .k, .k, .k, .k, .k, .k, .k, .k, .k, .k, .k, .k, .k, .k, .k, .k, .k, .k, .k, .k, .k, .k, .k, .k, .k, .k, .o 66, .o 67, .o 68, .o 69, .o 70, .o 71, .o 72, .o 73, .o 74, .o 75, .o 76, .o 77, .o 78, .o 79, .o 80, .o 81, .o 82, .o 83, .o 84, .o 85, .o 86, .o 87, .o 88, .o 89, .o 90]) (fun _ _ => rfl) (fun (j : Nat) (z : Int) (w : World) => i ≤ j ∧ j ≤ l.length ∧ ((l.drop i).take (j - i)).all digitB = true ∧ z = ((val ((l.drop i).take (min (j - i) 15)) : Nat) : Int) ∧ Sep (fun _ => True) (fun _ => False) w0 w [.row v 30 4 ts.length (ts.flatMap cells), .blk b1 26 [.int .i64 0, .int .i64 0]] (fun _ => True)) (fun (j : Nat) (z : Int) (w : World) => l.length - j) i 0 (Ag.k (Ag.k (Ag.k (Ag.k (Ag.k (Ag.i (Ag.k (Ag.i (Ag.k (Ag.k (Ag.k (Ag.k (Ag.k (Ag.k (Ag.k (Ag.k (Ag.k (Ag.k (Ag.k (Ag.k (Ag.k (Ag.k (Ag.k (Ag.k (Ag.k (Ag.k (Ag.k (Ag.k (Ag.k (Ag.k (Ag.k (Ag.k (Ag.k (Ag.k (Ag.k (Ag.k (Ag.k (Ag.k (Ag.k (Ag.k (Ag.k (Ag.k (Ag.k (Ag.k (Ag.k (Ag.k (Ag.k (Ag.k (Ag.k (Ag.k (Ag.k (Ag.k (Ag.k (Ag.k (Ag.k (Ag.k (Ag.k (Ag.k (Ag.k (Ag.k (Ag.k (Ag.k (Ag.k (Ag.k (Ag.k (Ag.k (Ag.o (Ag.o (Ag.o (Ag.o (Ag.o (Ag.o (Ag.o (Ag.o (Ag.o (Ag.o (Ag.o (Ag.o (Ag.o (Ag.o (Ag.o (Ag.o (Ag.o (Ag.o (Ag.o (Ag.o (Ag.o (Ag.o (Ag.o (Ag.o (Ag.o Ag.z))))))))))))))))))))))))))))))))))))))))))))))))))))))))))))))))))))))))))))))))))))))))))) ?_ ?_
                · exact ⟨Nat.le_refl _, by omega, by simp, by simp [val, valFrom], hS⟩
                · rintro j z t90 w hJ
                  obtain ⟨hij, hj, ha, hz, hS⟩ := hJ
                  refine cnrm (mk (mk (mk (mk (mk (mi (mk (mi (mk (mk (mk (mk (mk (mk (mk (mk (mk (mk (mk (mk (mk (mk (mk (mk (mk (mk (mk (mk (mk (mk (mk (mk (mk (mk (mk (mk (mk (mk (mk (mk (mk (mk (mk (mk (mk (mk (mk (mk (mk (mk (mk (mk (mk (mk (mk (mk (mk (mk (mk (mk (mk (mk (mk (mk (mk (mk (mo (mo (mo (mo (mo (mo (mo (mo (mo (mo (mo (mo (mo (mo (mo (mo (mo (mo (mo (mo (mo (mo (mo (mo (mo mz))))))))))))))))))))))))))))))))))))))))))))))))))))))))))))))))))))))))))))))))))))))))))) ?_
                  refine cseq ?_
                  refine cseq ?_
                  refine creg ?_
                  refine wl (s_move (et d5) (dt (ps (ps (ps (ps (ps (ps p6))))))) ?_)
                  refine wl (s_move (et d0) (dt (ps (ps (ps (ps (ps (ps p7))))))) ?_)
                  refine wl (s_lens Tryd.underlying9 (et (ds (ds (ds (ds (ds (ds d7))))))) (dt (ps (ps (ps (ps (ps (ps p8))))))) ?_)
                  refine wl (s_lss (et (ds (ds (ds (ds (ds (ds d6))))))) (et (ds (ds (ds (ds (ds (ds d8))))))) (dt (ps (ps (ps (ps (ps (ps p9))))))) ?_)
                  refine wl (s_move (et (ds (ds (ds (ds (ds (ds d9))))))) (dt (ps (ps (ps (ps (ps (ps (ps p0)))))))) ?_)
                  refine wspd (ds (ds (ds (ds (ds (ds (ds d0))))))) (ps (ps (ps (ps (ps (ps (ps p0))))))) (ps (ps (ps (ps (ps (ps (ps p0))))))) (fun g19_4 => ?_) (fun g19_4 => ?_)
                  · obtain ⟨cj, hcj⟩ : ∃ cj, l[j]? = some cj := ⟨_, List.getElem?_eq_getElem (by omega)⟩
                    refine wy rfl (ds (ds (ds (ds (ds (ds (ds d0))))))) (s_move (et d0) (dt (ps (ps (ps (ps (ps (ps (ps p1)))))))) ?_)
                    refine wy rfl (ds (ds (ds (ds (ds (ds (ds d0))))))) (s_move (et d5) (dt (ps (ps (ps (ps (ps (ps (ps p2)))))))) ?_)
                    refine wy rfl (ds (ds (ds (ds (ds (ds (ds d0))))))) (s_idxsn Tryd.underlying9 (et (ds (ds (ds (ds (ds (ds (ds d1)))))))) (et (ds (ds (ds (ds (ds (ds (ds d2)))))))) hcj (dt (ps (ps (ps (ps (ps (ps (ps p3)))))))) ?_)
                    refine wy rfl (ds (ds (ds (ds (ds (ds (ds d0))))))) (s_callp isfn19 ef (e1 (et (ds (ds (ds (ds (ds (ds (ds d3)))))))) e0) (Class_c _) (dt (ps (ps (ps (ps (ps (ps (ps p4)))))))) ?_)
                    refine wy rfl (ds (ds (ds (ds (ds (ds (ds d0))))))) (s_eqi (et (ds (ds (ds (ds (ds (ds (ds d4)))))))) ec (dt (ps (ps (ps (ps (ps (ps (ps p5)))))))) ?_)
                    refine wl (s_pickt (et (ds (ds (ds (ds (ds (ds (ds d0)))))))) (et (ds (ds (ds (ds (ds (ds (ds d5)))))))) (dt (ps (ps (ps (ps (ps (ps (ps p6)))))))) ?_)
                    refine wnil ?_
                    refine xn ?_
                    refine cifd (et (ds (ds (ds (ds (ds (ds (ds d6)))))))) (fun h8 => ?_) (fun h8 => ?_)
                    · have hpj : digitB cj = true := by rw [clsd]; exact decide_eq_true (by omega)
                      have hcd : 48 ≤ cj.toNat ∧ cj.toNat ≤ 57 := by simpa [digitB] using hpj
                      have hvs := val_small (t := (l.drop i).take (min (j - i) 15)) (by rw [List.all_eq_true] at ha ⊢; intro y hy; exact ha y (List.mem_of_mem_take (i := 15) (by rw [List.take_take, Nat.min_comm]; exact hy))) (by simp; omega)
                      refine cskip ?_
                      refine xn ?_
                      refine cblock ?_
                      refine cseq ?_
                      refine cseq ?_
                      refine creg ?_
                      refine wl (s_move (et d5) (dt (ps (ps (ps (ps (ps (ps (ps p7)))))))) ?_)
                      refine wl (s_move (et d6) (dt (ps (ps (ps (ps (ps (ps (ps p8)))))))) ?_)
                      refine wl (s_sub (et (ds (ds (ds (ds (ds (ds (ds d7)))))))) (et (ds (ds (ds (ds (ds (ds (ds d8)))))))) (wr (by omega)) (dt (ps (ps (ps (ps (ps (ps (ps p9)))))))) ?_)
                      refine wl (s_lss (et (ds (ds (ds (ds (ds (ds (ds d9)))))))) ec (dt (ps (ps (ps (ps (ps (ps (ps (ps p0))))))))) ?_)
                      refine wnil ?_
                      refine xn ?_
                      refine cifd (et (ds (ds (ds (ds (ds (ds (ds (ds d0))))))))) (fun h9 => ?_) (fun h9 => ?_)
                      · have hvn : (10 * z + ((cj.toNat : Int) - 48)) = ((val ((l.drop i).take (min (j + 1 - i) 15)) : Nat) : Int) := by
                          rw [show min (j + 1 - i) 15 = (j - i) + 1 by omega, val_take (by rw [hat, show i + (j - i) = j by omega]; exact hcj)]
                          rw [show min (j - i) 15 = j - i by omega] at hz
                          omega
                        refine creg ?_
                        refine wl (s_move (et d7) (dt (ps (ps (ps (ps (ps (ps (ps (ps p1))))))))) ?_)
                        refine wl (s_mul ec (et (ds (ds (ds (ds (ds (ds (ds (ds d1))))))))) (wr (by omega)) (dt (ps (ps (ps (ps (ps (ps (ps (ps p2))))))))) ?_)
                        refine wl (s_move (et d0) (dt (ps (ps (ps (ps (ps (ps (ps (ps p3))))))))) ?_)
                        refine wl (s_move (et d5) (dt (ps (ps (ps (ps (ps (ps (ps (ps p4))))))))) ?_)
                        refine wl (s_idxsn Tryd.underlying9 (et (ds (ds (ds (ds (ds (ds (ds (ds d3))))))))) (et (ds (ds (ds (ds (ds (ds (ds (ds d4))))))))) hcj (dt (ps (ps (ps (ps (ps (ps (ps (ps p5))))))))) ?_)
                        refine wl (s_sub (et (ds (ds (ds (ds (ds (ds (ds (ds d5))))))))) ec (wr8 (by omega)) (dt (ps (ps (ps (ps (ps (ps (ps (ps p6))))))))) ?_)
                        refine wl (s_cvi Tryd.underlying5 Tryd.underlying2 (et (ds (ds (ds (ds (ds (ds (ds (ds d6))))))))) (wr (by omega)) (dt (ps (ps (ps (ps (ps (ps (ps (ps p7))))))))) ?_)
                        refine wl (s_add (et (ds (ds (ds (ds (ds (ds (ds (ds d2))))))))) (et (ds (ds (ds (ds (ds (ds (ds (ds d7))))))))) (wr (by omega)) (dt (ps (ps (ps (ps (ps (ps (ps (ps p8))))))))) ?_)
                        refine wl (s_assign (et (ds (ds (ds (ds (ds (ds (ds (ds d8))))))))) (dt p7) ?_)
                        refine wnil ?_
                        refine xn ?_
                        refine creg ?_
                        refine wl (s_move (et d5) (dt (ps (ps (ps (ps (ps (ps (ps (ps p9))))))))) ?_)
                        refine wl (s_addn (b := 1) (et (ds (ds (ds (ds (ds (ds (ds (ds d9))))))))) ec (by omega) (dt (ps (ps (ps (ps (ps (ps (ps (ps (ps p0)))))))))) ?_)
                        refine wl (s_assign (et (ds (ds (ds (ds (ds (ds (ds (ds (ds d0)))))))))) (dt p5) ?_)
                        refine wnil ?_
                        refine (fun h => bn (xl h)) ?_
                        exact ⟨j + 1, _, _, rfl, (Ag.k (Ag.k (Ag.k (Ag.k (Ag.k (Ag.i (Ag.k (Ag.i (Ag.k (Ag.k (Ag.k (Ag.k (Ag.k (Ag.k (Ag.k (Ag.k (Ag.k (Ag.k (Ag.k (Ag.k (Ag.k (Ag.k (Ag.k (Ag.k (Ag.k (Ag.k (Ag.k (Ag.k (Ag.k (Ag.k (Ag.k (Ag.k (Ag.k (Ag.k (Ag.k (Ag.k (Ag.k (Ag.k (Ag.k (Ag.k (Ag.k (Ag.k (Ag.k (Ag.k (Ag.k (Ag.k (Ag.k (Ag.k (Ag.k (Ag.k (Ag.k (Ag.k (Ag.k (Ag.k (Ag.k (Ag.k (Ag.k (Ag.k (Ag.k (Ag.k (Ag.k (Ag.k (Ag.k (Ag.k (Ag.k (Ag.k (Ag.o (Ag.o (Ag.o (Ag.o (Ag.o (Ag.o (Ag.o (Ag.o (Ag.o (Ag.o (Ag.o (Ag.o (Ag.o (Ag.o (Ag.o (Ag.o (Ag.o (Ag.o (Ag.o (Ag.o (Ag.o (Ag.o (Ag.o (Ag.o (Ag.o Ag.z))))))))))))))))))))))))))))))))))))))))))))))))))))))))))))))))))))))))))))))))))))))))))), ⟨by omega, by omega, by rw [show j + 1 - i = j - i + 1 by omega]; exact all_snoc ha (by rw [hat, show i + (j - i) = j by omega]; exact hcj) hpj, hvn, hS⟩, by omega⟩
                      · have hvn : z = ((val ((l.drop i).take (min (j + 1 - i) 15)) : Nat) : Int) := by
                          rw [show min (j + 1 - i) 15 = min (j - i) 15 by omega]; exact hz
                        refine cskip ?_
                        refine xn ?_
                        refine creg ?_
                        refine wl (s_move (et d5) (dt (ps (ps (ps (ps (ps (ps (ps (ps p9))))))))) ?_)
                        refine wl (s_addn (b := 1) (et (ds (ds (ds (ds (ds (ds (ds (ds d9))))))))) ec (by omega) (dt (ps (ps (ps (ps (ps (ps (ps (ps (ps p0)))))))))) ?_)
                        refine wl (s_assign (et (ds (ds (ds (ds (ds (ds (ds (ds (ds d0)))))))))) (dt p5) ?_)
                        refine wnil ?_
                        refine (fun h => bn (xl h)) ?_
                        exact ⟨j + 1, _, _, rfl, (Ag.k (Ag.k (Ag.k (Ag.k (Ag.k (Ag.i (Ag.k (Ag.i (Ag.k (Ag.k (Ag.k (Ag.k (Ag.k (Ag.k (Ag.k (Ag.k (Ag.k (Ag.k (Ag.k (Ag.k (Ag.k (Ag.k (Ag.k (Ag.k (Ag.k (Ag.k (Ag.k (Ag.k (Ag.k (Ag.k (Ag.k (Ag.k (Ag.k (Ag.k (Ag.k (Ag.k (Ag.k (Ag.k (Ag.k (Ag.k (Ag.k (Ag.k (Ag.k (Ag.k (Ag.k (Ag.k (Ag.k (Ag.k (Ag.k (Ag.k (Ag.k (Ag.k (Ag.k (Ag.k (Ag.k (Ag.k (Ag.k (Ag.k (Ag.k (Ag.k (Ag.k (Ag.k (Ag.k (Ag.k (Ag.k (Ag.k (Ag.o (Ag.o (Ag.o (Ag.o (Ag.o (Ag.o (Ag.o (Ag.o (Ag.o (Ag.o (Ag.o (Ag.o (Ag.o (Ag.o (Ag.o (Ag.o (Ag.o (Ag.o (Ag.o (Ag.o (Ag.o (Ag.o (Ag.o (Ag.o (Ag.o Ag.z))))))))))))))))))))))))))))))))))))))))))))))))))))))))))))))))))))))))))))))))))))))))))), ⟨by omega, by omega, by rw [show j + 1 - i = j - i + 1 by omega]; exact all_snoc ha (by rw [hat, show i + (j - i) = j by omega]; exact hcj) hpj, hvn, hS⟩, by omega⟩
                    · have hjn : ((l.drop i).takeWhile digitB).length = j - i := tw_lt ha (by rw [hat, show i + (j - i) = j by omega]; exact hcj) (by rw [clsd]; exact decide_eq_false (by omega))
                      refine cexit ?_
                      refine (fun h => xe (xe (bh h))) ?_
                      refine xn ?_
                      refine cseq ?_
                      refine cseq ?_
                      refine creg ?_
                      refine wl (s_move (et d5) (dt (ps (ps (ps (ps (ps (ps (ps (ps (ps p1)))))))))) ?_)
                      refine wl (s_move (et d6) (dt (ps (ps (ps (ps (ps (ps (ps (ps (ps p2)))))))))) ?_)
                      refine wl (s_sub (et (ds (ds (ds (ds (ds (ds (ds (ds (ds d1)))))))))) (et (ds (ds (ds (ds (ds (ds (ds (ds (ds d2)))))))))) (wr (by omega)) (dt (ps (ps (ps (ps (ps (ps (ps (ps (ps p3)))))))))) ?_)
                      refine wl (s_gtr (et (ds (ds (ds (ds (ds (ds (ds (ds (ds d3)))))))))) ec (dt (ps (ps (ps (ps (ps (ps (ps (ps (ps p4)))))))))) ?_)
                      refine wnil ?_
                      refine xn ?_
                      refine cifd (et (ds (ds (ds (ds (ds (ds (ds (ds (ds d4)))))))))) (fun h10 => ?_) (fun h10 => ?_)
                      · have ht : tok1 i (l.drop i) = .error 3 := by rw [hd] at hjn ⊢; rw [tok1_num hlt hdg, if_pos (by omega)]
                        refine cseq ?_
                        refine creg ?_
                        refine wl (s_move (et d6) (dt (ps (ps (ps (ps (ps (ps (ps (ps (ps p5)))))))))) ?_)
                        refine wl (s_build ti26 pl26 (Fl.o rfl ec rfl rfl p0 (Fl.o rfl (et (ds (ds (ds (ds (ds (ds (ds (ds (ds d5)))))))))) rfl rfl p1 Fl.z)) (dt (ps (ps (ps (ps (ps (ps (ps (ps (ps p6)))))))))) ?_)
                        refine wl (s_assign ec (dt p2) ?_)
                        refine wl (s_store ti26 (et d3) (et (ds (ds (ds (ds (ds (ds (ds (ds (ds d6)))))))))) rfl rfl rfl hS d1 (Spl.s p0 (of_decide_eq_true rfl) (Spl.s p1 (of_decide_eq_true rfl) Spl.z)) rfl p1 dn ?_)
                        clear hS; intro w7_ hS
                        refine wnil ?_
                        refine xn ?_
                        refine cret ?_
                        refine (fun h => xr (br (xr (br (xr (br (xr h))))))) ?_
                        refine retN rfl (RVs.s (.t d2) (RVs.s (.a d3 ti26 (hS.blk d1).cells rfl) RVs.z)) ?_
                        first
                          | (rw [tokens_eq, if_pos (by omega)]; exact ⟨hS.keeps, rfl⟩)
                          | (rw [hr, hd, lx_bad hnb hnr (by rw [← hd]; exact ht)]; exact ⟨hS.keeps, rfl⟩)
                          | (rw [hr, List.drop_eq_nil_of_le (by omega)]; exact ⟨hS.keeps, _, rfl, by simp; omega, by simpa using hS.give d0 (B := Toks v ts) fun _ h => h⟩)
                      · have ht : tok1 i (l.drop i) = .ok ⟨2, (l.drop i).takeWhile digitB, val ((l.drop i).takeWhile digitB), i⟩ := by rw [hd] at hjn ⊢; rw [tok1_num hlt hdg, if_neg (by omega)]
                        have hzz : z = ((val ((l.drop i).takeWhile digitB) : Nat) : Int) := by rw [hz, show min (j - i) 15 = j - i by omega, ← hjn, tw_take]
                        refine cskip ?_
                        refine xn ?_
                        refine cseq ?_
                        refine creg ?_
                        refine wl (s_move (et d4) (dt (ps (ps (ps (ps (ps (ps (ps (ps (ps p7)))))))))) ?_)
                        refine wl (s_move (et d0) (dt (ps (ps (ps (ps (ps (ps (ps (ps (ps p8)))))))))) ?_)
                        refine wl (s_move (et d6) (dt (ps (ps (ps (ps (ps (ps (ps (ps (ps p9)))))))))) ?_)
                        refine wl (s_move (et d5) (dt (ps (ps (ps (ps (ps (ps (ps (ps (ps (ps p0))))))))))) ?_)
                        refine wl (s_cutsn Tryd.underlying9 (et (ds (ds (ds (ds (ds (ds (ds (ds (ds d8)))))))))) (et (ds (ds (ds (ds (ds (ds (ds (ds (ds d9)))))))))) (et (ds (ds (ds (ds (ds (ds (ds (ds (ds (ds d0))))))))))) (by omega) (dt (ps (ps (ps (ps (ps (ps (ps (ps (ps (ps p1))))))))))) ?_)
                        refine wl (s_move (et d7) (dt (ps (ps (ps (ps (ps (ps (ps (ps (ps (ps p2))))))))))) ?_)
                        refine wl (s_move (et d6) (dt (ps (ps (ps (ps (ps (ps (ps (ps (ps (ps p3))))))))))) ?_)
                        refine wl (s_build ti30 pl30 (Fl.o rfl ec rfl rfl p0 (Fl.o rfl (et (ds (ds (ds (ds (ds (ds (ds (ds (ds (ds d1))))))))))) rfl rfl p1 (Fl.o rfl (et (ds (ds (ds (ds (ds (ds (ds (ds (ds (ds d2))))))))))) rfl rfl p2 (Fl.o rfl (et (ds (ds (ds (ds (ds (ds (ds (ds (ds (ds d3))))))))))) rfl rfl p3 Fl.z)))) (dt (ps (ps (ps (ps (ps (ps (ps (ps (ps (ps p4))))))))))) ?_)
                        refine wl (s_bsl1 Tryd.underlying23 ti30 rfl (et (ds (ds (ds (ds (ds (ds (ds (ds (ds (ds d4))))))))))) rfl hS ?_)
                        clear hS; intro b8 w8_ hb8 hS
                        refine pu (dt (ps (ps (ps (ps (ps (ps (ps (ps (ps (ps p5))))))))))) ?_
                        refine wl (s_append Tryd.underlying23 ti30 rfl (et (ds (ds (ds (ds (ds (ds (ds (ds (ds d7)))))))))) (et (ds (ds (ds (ds (ds (ds (ds (ds (ds (ds d5))))))))))) hS d1 ((hS.blk d0).cells) rfl rfl (by omega) ?_)
                        clear hS; intro v9 w9_ rs_ hp_ hS; cases (show _ = rs_ from hp_)
                        replace hS := Sep.reput hS p1
                        refine pu (dt (ps (ps (ps (ps (ps (ps (ps (ps (ps (ps p6))))))))))) ?_
                        replace hS := hS.drop Rm.z
                        refine wl (s_assign (et (ds (ds (ds (ds (ds (ds (ds (ds (ds (ds d6))))))))))) (dt p4) ?_)
                        refine wnil ?_
                        refine xn ?_
                        refine cexit ?_
                        refine (fun h => bm rfl (xe (bh h))) ?_
                        refine xl ?_
                        first
                          | exact ⟨i + 1, ts, v, _, rfl, (Ag.k (Ag.k (Ag.o (Ag.k (Ag.i (Ag.i (Ag.o (Ag.o (Ag.o (Ag.k (Ag.k (Ag.k (Ag.k (Ag.o (Ag.o (Ag.o (Ag.o (Ag.o (Ag.o (Ag.o (Ag.o (Ag.o (Ag.o (Ag.o (Ag.o (Ag.o (Ag.o (Ag.o (Ag.o (Ag.o (Ag.o (Ag.o (Ag.o (Ag.o (Ag.o (Ag.o (Ag.o (Ag.o (Ag.o (Ag.o (Ag.o (Ag.o (Ag.o (Ag.o (Ag.o (Ag.o (Ag.o (Ag.o (Ag.o (Ag.o (Ag.o (Ag.o (Ag.o (Ag.o (Ag.o (Ag.o (Ag.o (Ag.o (Ag.o (Ag.o (Ag.o (Ag.o (Ag.o (Ag.o (Ag.o (Ag.o (Ag.o (Ag.o (Ag.o (Ag.o (Ag.o (Ag.o (Ag.o (Ag.o (Ag.o (Ag.o (Ag.o (Ag.o (Ag.o (Ag.o (Ag.o (Ag.o (Ag.o (Ag.o (Ag.o (Ag.o (Ag.o (Ag.o (Ag.o (Ag.o (Ag.o (Ag.o (Ag.o (Ag.o (Ag.o (Ag.o (Ag.o (Ag.o (Ag.o (Ag.o (Ag.o (Ag.o (Ag.o (Ag.o (Ag.o (Ag.o (Ag.o (Ag.o (Ag.o (Ag.o (Ag.o (Ag.o (Ag.o (Ag.o (Ag.o (Ag.o (Ag.o (Ag.o (Ag.o (Ag.o (Ag.o (Ag.o (Ag.o (Ag.o (Ag.o (Ag.o (Ag.o (Ag.o (Ag.o (Ag.o (Ag.o (Ag.o (Ag.o (Ag.o (Ag.o (Ag.o (Ag.o (Ag.o (Ag.o (Ag.o (Ag.o (Ag.o (Ag.o (Ag.o (Ag.o (Ag.o (Ag.o (Ag.o (Ag.o (Ag.o (Ag.o (Ag.o (Ag.o (Ag.o (Ag.o (Ag.o (Ag.o (Ag.o Ag.z)))))))))))))))))))))))))))))))))))))))))))))))))))))))))))))))))))))))))))))))))))))))))))))))))))))))))))))))))))))))))))))))))))))))))))))))))))))))))))))), ⟨by omega, by omega, by rw [hr, hd, lx_blank hbl], hS⟩, by omega⟩
                          | exact ⟨j, ts, v, _, rfl, (Ag.k (Ag.k (Ag.o (Ag.k (Ag.i (Ag.i (Ag.o (Ag.o (Ag.o (Ag.k (Ag.k (Ag.k (Ag.k (Ag.o (Ag.o (Ag.o (Ag.o (Ag.o (Ag.o (Ag.o (Ag.o (Ag.o (Ag.o (Ag.o (Ag.o (Ag.o (Ag.o (Ag.o (Ag.o (Ag.o (Ag.o (Ag.o (Ag.o (Ag.o (Ag.o (Ag.o (Ag.o (Ag.o (Ag.o (Ag.o (Ag.o (Ag.o (Ag.o (Ag.o (Ag.o (Ag.o (Ag.o (Ag.o (Ag.o (Ag.o (Ag.o (Ag.o (Ag.o (Ag.o (Ag.o (Ag.o (Ag.o (Ag.o (Ag.o (Ag.o (Ag.o (Ag.o (Ag.o (Ag.o (Ag.o (Ag.o (Ag.o (Ag.o (Ag.o (Ag.o (Ag.o (Ag.o (Ag.o (Ag.o (Ag.o (Ag.o (Ag.o (Ag.o (Ag.o (Ag.o (Ag.o (Ag.o (Ag.o (Ag.o (Ag.o (Ag.o (Ag.o (Ag.o (Ag.o (Ag.o (Ag.o (Ag.o (Ag.o (Ag.o (Ag.o (Ag.o (Ag.o (Ag.o (Ag.o (Ag.o (Ag.o (Ag.o (Ag.o (Ag.o (Ag.o (Ag.o (Ag.o (Ag.o (Ag.o (Ag.o (Ag.o (Ag.o (Ag.o (Ag.o (Ag.o (Ag.o (Ag.o (Ag.o (Ag.o (Ag.o (Ag.o (Ag.o (Ag.o (Ag.o (Ag.o (Ag.o (Ag.o (Ag.o (Ag.o (Ag.o (Ag.o (Ag.o (Ag.o (Ag.o (Ag.o (Ag.o (Ag.o (Ag.o (Ag.o (Ag.o (Ag.o (Ag.o (Ag.o (Ag.o (Ag.o (Ag.o (Ag.o (Ag.o (Ag.o (Ag.o (Ag.o (Ag.o (Ag.o (Ag.o (Ag.o (Ag.o (Ag.o (Ag.o Ag.z)))))))))))))))))))))))))))))))))))))))))))))))))))))))))))))))))))))))))))))))))))))))))))))))))))))))))))))))))))))))))))))))))))))))))))))))))))))))))))))), ⟨by omega, by omega, by rw [hr]; rw [hd, lx_rem hrm, ← hd, hjn, List.drop_drop, show i + (j - i) = j by omega], hS⟩, by omega⟩
                          | exact ⟨_, _, _, _, rfl, (Ag.k (Ag.k (Ag.o (Ag.k (Ag.i (Ag.i (Ag.o (Ag.o (Ag.o (Ag.k (Ag.k (Ag.k (Ag.k (Ag.o (Ag.o (Ag.o (Ag.o (Ag.o (Ag.o (Ag.o (Ag.o (Ag.o (Ag.o (Ag.o (Ag.o (Ag.o (Ag.o (Ag.o (Ag.o (Ag.o (Ag.o (Ag.o (Ag.o (Ag.o (Ag.o (Ag.o (Ag.o (Ag.o (Ag.o (Ag.o (Ag.o (Ag.o (Ag.o (Ag.o (Ag.o (Ag.o (Ag.o (Ag.o (Ag.o (Ag.o (Ag.o (Ag.o (Ag.o (Ag.o (Ag.o (Ag.o (Ag.o (Ag.o (Ag.o (Ag.o (Ag.o (Ag.o (Ag.o (Ag.o (Ag.o (Ag.o (Ag.o (Ag.o (Ag.o (Ag.o (Ag.o (Ag.o (Ag.o (Ag.o (Ag.o (Ag.o (Ag.o (Ag.o (Ag.o (Ag.o (Ag.o (Ag.o (Ag.o (Ag.o (Ag.o (Ag.o (Ag.o (Ag.o (Ag.o (Ag.o (Ag.o (Ag.o (Ag.o (Ag.o (Ag.o (Ag.o (Ag.o (Ag.o (Ag.o (Ag.o (Ag.o (Ag.o (Ag.o (Ag.o (Ag.o (Ag.o (Ag.o (Ag.o (Ag.o (Ag.o (Ag.o (Ag.o (Ag.o (Ag.o (Ag.o (Ag.o (Ag.o (Ag.o (Ag.o (Ag.o (Ag.o (Ag.o (Ag.o (Ag.o (Ag.o (Ag.o (Ag.o (Ag.o (Ag.o (Ag.o (Ag.o (Ag.o (Ag.o (Ag.o (Ag.o (Ag.o (Ag.o (Ag.o (Ag.o (Ag.o (Ag.o (Ag.o (Ag.o (Ag.o (Ag.o (Ag.o (Ag.o (Ag.o (Ag.o (Ag.o (Ag.o (Ag.o (Ag.o (Ag.o (Ag.o (Ag.o (Ag.o (Ag.o Ag.z)))))))))))))))))))))))))))))))))))))))))))))))))))))))))))))))))))))))))))))))))))))))))))))))))))))))))))))))))))))))))))))))))))))))))))))))))))))))))))))), fin _ _ _ _ _ ht (by simp only [hjn]; omega) (by rw [List.drop_take]; simp only [cells, ← hjn, tw_take]; first | rfl | (rw [hzz]; rfl)) hnb hnr hS⟩
                          | exact ⟨_, _, _, _, rfl, (Ag.k (Ag.k (Ag.o (Ag.k (Ag.i (Ag.i (Ag.o (Ag.o (Ag.o (Ag.k (Ag.k (Ag.k (Ag.k (Ag.o (Ag.o (Ag.o (Ag.o (Ag.o (Ag.o (Ag.o (Ag.o (Ag.o (Ag.o (Ag.o (Ag.o (Ag.o (Ag.o (Ag.o (Ag.o (Ag.o (Ag.o (Ag.o (Ag.o (Ag.o (Ag.o (Ag.o (Ag.o (Ag.o (Ag.o (Ag.o (Ag.o (Ag.o (Ag.o (Ag.o (Ag.o (Ag.o (Ag.o (Ag.o (Ag.o (Ag.o (Ag.o (Ag.o (Ag.o (Ag.o (Ag.o (Ag.o (Ag.o (Ag.o (Ag.o (Ag.o (Ag.o (Ag.o (Ag.o (Ag.o (Ag.o (Ag.o (Ag.o (Ag.o (Ag.o (Ag.o (Ag.o (Ag.o (Ag.o (Ag.o (Ag.o (Ag.o (Ag.o (Ag.o (Ag.o (Ag.o (Ag.o (Ag.o (Ag.o (Ag.o (Ag.o (Ag.o (Ag.o (Ag.o (Ag.o (Ag.o (Ag.o (Ag.o (Ag.o (Ag.o (Ag.o (Ag.o (Ag.o (Ag.o (Ag.o (Ag.o (Ag.o (Ag.o (Ag.o (Ag.o (Ag.o (Ag.o (Ag.o (Ag.o (Ag.o (Ag.o (Ag.o (Ag.o (Ag.o (Ag.o (Ag.o (Ag.o (Ag.o (Ag.o (Ag.o (Ag.o (Ag.o (Ag.o (Ag.o (Ag.o (Ag.o (Ag.o (Ag.o (Ag.o (Ag.o (Ag.o (Ag.o (Ag.o (Ag.o (Ag.o (Ag.o (Ag.o (Ag.o (Ag.o (Ag.o (Ag.o (Ag.o (Ag.o (Ag.o (Ag.o (Ag.o (Ag.o (Ag.o (Ag.o (Ag.o (Ag.o (Ag.o (Ag.o (Ag.o (Ag.o (Ag.o (Ag.o (Ag.o (Ag.o Ag.z)))))))))))))))))))))))))))))))))))))))))))))))))))))))))))))))))))))))))))))))))))))))))))))))))))))))))))))))))))))))))))))))))))))))))))))))))))))))))))))), fin _ _ _ _ _ ht (by rw [hsg]; rfl) (by simp only [cells, hsn]; rfl) hnb hnr hS⟩
                  · have hjn : ((l.drop i).takeWhile digitB).length = j - i := by
                      rw [tw_all (by rw [List.take_of_length_le (by rw [List.length_drop]; omega)] at ha; exact ha), List.length_drop]; omega
                    refine wn rfl (ds (ds (ds (ds (ds (ds (ds d0))))))) rfl (dt (ps (ps (ps (ps (ps (ps (ps p1)))))))) ?_
                    refine wn rfl (ds (ds (ds (ds (ds (ds (ds d0))))))) rfl (dt (ps (ps (ps (ps (ps (ps (ps p2)))))))) ?_
                    refine wn rfl (ds (ds (ds (ds (ds (ds (ds d0))))))) rfl (dt (ps (ps (ps (ps (ps (ps (ps p3)))))))) ?_
                    refine wn rfl (ds (ds (ds (ds (ds (ds (ds d0))))))) rfl (dt (ps (ps (ps (ps (ps (ps (ps p4)))))))) ?_
                    refine wn rfl (ds (ds (ds (ds (ds (ds (ds d0))))))) rfl (dt (ps (ps (ps (ps (ps (ps (ps p5)))))))) ?_
                    refine wl (s_pickf (et (ds (ds (ds (ds (ds (ds (ds d0)))))))) ec (dt (ps (ps (ps (ps (ps (ps (ps p6)))))))) ?_)
                    refine wnil ?_
                    refine xn ?_
                    refine ciff (et (ds (ds (ds (ds (ds (ds (ds d6)))))))) ?_
                    refine cexit ?_
                    refine (fun h => xe (xe (bh h))) ?_
                    refine xn ?_
                    refine cseq ?_
                    refine cseq ?_
                    refine creg ?_
                    refine wl (s_move (et d5) (dt (ps (ps (ps (ps (ps (ps (ps (ps (ps p1)))))))))) ?_)
                    refine wl (s_move (et d6) (dt (ps (ps (ps (ps (ps (ps (ps (ps (ps p2)))))))))) ?_)
                    refine wl (s_sub (et (ds (ds (ds (ds (ds (ds (ds (ds (ds d1)))))))))) (et (ds (ds (ds (ds (ds (ds (ds (ds (ds d2)))))))))) (wr (by omega)) (dt (ps (ps (ps (ps (ps (ps (ps (ps (ps p3)))))))))) ?_)
                    refine wl (s_gtr (et (ds (ds (ds (ds (ds (ds (ds (ds (ds d3)))))))))) ec (dt (ps (ps (ps (ps (ps (ps (ps (ps (ps p4)))))))))) ?_)
                    refine wnil ?_
                    refine xn ?_
                    refine cifd (et (ds (ds (ds (ds (ds (ds (ds (ds (ds d4)))))))))) (fun h10 => ?_) (fun h10 => ?_)
                    · have ht : tok1 i (l.drop i) = .error 3 := by rw [hd] at hjn ⊢; rw [tok1_num hlt hdg, if_pos (by omega)]
                      refine cseq ?_
                      refine creg ?_
                      refine wl (s_move (et d6) (dt (ps (ps (ps (ps (ps (ps (ps (ps (ps p5)))))))))) ?_)
                      refine wl (s_build ti26 pl26 (Fl.o rfl ec rfl rfl p0 (Fl.o rfl (et (ds (ds (ds (ds (ds (ds (ds (ds (ds d5)))))))))) rfl rfl p1 Fl.z)) (dt (ps (ps (ps (ps (ps (ps (ps (ps (ps p6)))))))))) ?_)
                      refine wl (s_assign ec (dt p2) ?_)
                      refine wl (s_store ti26 (et d3) (et (ds (ds (ds (ds (ds (ds (ds (ds (ds d6)))))))))) rfl rfl rfl hS d1 (Spl.s p0 (of_decide_eq_true rfl) (Spl.s p1 (of_decide_eq_true rfl) Spl.z)) rfl p1 dn ?_)
                      clear hS; intro w10_ hS
                      refine wnil ?_
                      refine xn ?_
                      refine cret ?_
                      refine (fun h => xr (br (xr (br (xr (br (xr h))))))) ?_
                      refine retN rfl (RVs.s (.t d2) (RVs.s (.a d3 ti26 (hS.blk d1).cells rfl) RVs.z)) ?_
                      first
                        | (rw [tokens_eq, if_pos (by omega)]; exact ⟨hS.keeps, rfl⟩)
                        | (rw [hr, hd, lx_bad hnb hnr (by rw [← hd]; exact ht)]; exact ⟨hS.keeps, rfl⟩)
                        | (rw [hr, List.drop_eq_nil_of_le (by omega)]; exact ⟨hS.keeps, _, rfl, by simp; omega, by simpa using hS.give d0 (B := Toks v ts) fun _ h => h⟩)
                    · have ht : tok1 i (l.drop i) = .ok ⟨2, (l.drop i).takeWhile digitB, val ((l.drop i).takeWhile digitB), i⟩ := by rw [hd] at hjn ⊢; rw [tok1_num hlt hdg, if_neg (by omega)]
                      have hzz : z = ((val ((l.drop i).takeWhile digitB) : Nat) : Int) := by rw [hz, show min (j - i) 15 = j - i by omega, ← hjn, tw_take]
                      refine cskip ?_
                      refine xn ?_
                      refine cseq ?_
                      refine creg ?_
                      refine wl (s_move (et d4) (dt (ps (ps (ps (ps (ps (ps (ps (ps (ps p7)))))))))) ?_)
                      refine wl (s_move (et d0) (dt (ps (ps (ps (ps (ps (ps (ps (ps (ps p8)))))))))) ?_)
                      refine wl (s_move (et d6) (dt (ps (ps (ps (ps (ps (ps (ps (ps (ps p9)))))))))) ?_)
                      refine wl (s_move (et d5) (dt (ps (ps (ps (ps (ps (ps (ps (ps (ps (ps p0))))))))))) ?_)
                      refine wl (s_cutsn Tryd.underlying9 (et (ds (ds (ds (ds (ds (ds (ds (ds (ds d8)))))))))) (et (ds (ds (ds (ds (ds (ds (ds (ds (ds d9)))))))))) (et (ds (ds (ds (ds (ds (ds (ds (ds (ds (ds d0))))))))))) (by omega) (dt (ps (ps (ps (ps (ps (ps (ps (ps (ps (ps p1))))))))))) ?_)
                      refine wl (s_move (et d7) (dt (ps (ps (ps (ps (ps (ps (ps (ps (ps (ps p2))))))))))) ?_)
                      refine wl (s_move (et d6) (dt (ps (ps (ps (ps (ps (ps (ps (ps (ps (ps p3))))))))))) ?_)
                      refine wl (s_build ti30 pl30 (Fl.o rfl ec rfl rfl p0 (Fl.o rfl (et (ds (ds (ds (ds (ds (ds (ds (ds (ds (ds d1))))))))))) rfl rfl p1 (Fl.o rfl (et (ds (ds (ds (ds (ds (ds (ds (ds (ds (ds d2))))))))))) rfl rfl p2 (Fl.o rfl (et (ds (ds (ds (ds (ds (ds (ds (ds (ds (ds d3))))))))))) rfl rfl p3 Fl.z)))) (dt (ps (ps (ps (ps (ps (ps (ps (ps (ps (ps p4))))))))))) ?_)
                      refine wl (s_bsl1 Tryd.underlying23 ti30 rfl (et (ds (ds (ds (ds (ds (ds (ds (ds (ds (ds d4))))))))))) rfl hS ?_)
                      clear hS; intro b11 w11_ hb11 hS
                      refine pu (dt (ps (ps (ps (ps (ps (ps (ps (ps (ps (ps p5))))))))))) ?_
                      refine wl (s_append Tryd.underlying23 ti30 rfl (et (ds (ds (ds (ds (ds (ds (ds (ds (ds d7)))))))))) (et (ds (ds (ds (ds (ds (ds (ds (ds (ds (ds d5))))))))))) hS d1 ((hS.blk d0).cells) rfl rfl (by omega) ?_)
                      clear hS; intro v12 w12_ rs_ hp_ hS; cases (show _ = rs_ from hp_)
                      replace hS := Sep.reput hS p1
                      refine pu (dt (ps (ps (ps (ps (ps (ps (ps (ps (ps (ps p6))))))))))) ?_
                      replace hS := hS.drop Rm.z
                      refine wl (s_assign (et (ds (ds (ds (ds (ds (ds (ds (ds (ds (ds d6))))))))))) (dt p4) ?_)
                      refine wnil ?_
                      refine xn ?_
                      refine cexit ?_
                      refine (fun h => bm rfl (xe (bh h))) ?_
                      refine xl ?_
                      first
                        | exact ⟨i + 1, ts, v, _, rfl, (Ag.k (Ag.k (Ag.o (Ag.k (Ag.i (Ag.i (Ag.o (Ag.o (Ag.o (Ag.k (Ag.k (Ag.k (Ag.k (Ag.o (Ag.o (Ag.o (Ag.o (Ag.o (Ag.o (Ag.o (Ag.o (Ag.o (Ag.o (Ag.o (Ag.o (Ag.o (Ag.o (Ag.o (Ag.o (Ag.o (Ag.o (Ag.o (Ag.o (Ag.o (Ag.o (Ag.o (Ag.o (Ag.o (Ag.o (Ag.o (Ag.o (Ag.o (Ag.o (Ag.o (Ag.o (Ag.o (Ag.o (Ag.o (Ag.o (Ag.o (Ag.o (Ag.o (Ag.o (Ag.o (Ag.o (Ag.o (Ag.o (Ag.o (Ag.o (Ag.o (Ag.o (Ag.o (Ag.o (Ag.o (Ag.o (Ag.o (Ag.o (Ag.o (Ag.o (Ag.o (Ag.o (Ag.o (Ag.o (Ag.o (Ag.o (Ag.o (Ag.o (Ag.o (Ag.o (Ag.o (Ag.o (Ag.o (Ag.o (Ag.o (Ag.o (Ag.o (Ag.o (Ag.o (Ag.o (Ag.o (Ag.o (Ag.o (Ag.o (Ag.o (Ag.o (Ag.o (Ag.o (Ag.o (Ag.o (Ag.o (Ag.o (Ag.o (Ag.o (Ag.o (Ag.o (Ag.o (Ag.o (Ag.o (Ag.o (Ag.o (Ag.o (Ag.o (Ag.o (Ag.o (Ag.o (Ag.o (Ag.o (Ag.o (Ag.o (Ag.o (Ag.o (Ag.o (Ag.o (Ag.o (Ag.o (Ag.o (Ag.o (Ag.o (Ag.o (Ag.o (Ag.o (Ag.o (Ag.o (Ag.o (Ag.o (Ag.o (Ag.o (Ag.o (Ag.o (Ag.o (Ag.o (Ag.o (Ag.o (Ag.o (Ag.o (Ag.o (Ag.o (Ag.o (Ag.o (Ag.o (Ag.o (Ag.o (Ag.o (Ag.o (Ag.o (Ag.o (Ag.o (Ag.o Ag.z)))))))))))))))))))))))))))))))))))))))))))))))))))))))))))))))))))))))))))))))))))))))))))))))))))))))))))))))))))))))))))))))))))))))))))))))))))))))))))))), ⟨by omega, by omega, by rw [hr, hd, lx_blank hbl], hS⟩, by omega⟩
                        | exact ⟨j, ts, v, _, rfl, (Ag.k (Ag.k (Ag.o (Ag.k (Ag.i (Ag.i (Ag.o (Ag.o (Ag.o (Ag.k (Ag.k (Ag.k (Ag.k (Ag.o (Ag.o (Ag.o (Ag.o (Ag.o (Ag.o (Ag.o (Ag.o (Ag.o (Ag.o (Ag.o (Ag.o (Ag.o (Ag.o (Ag.o (Ag.o (Ag.o (Ag.o (Ag.o (Ag.o (Ag.o (Ag.o (Ag.o (Ag.o (Ag.o (Ag.o (Ag.o (Ag.o (Ag.o (Ag.o (Ag.o (Ag.o (Ag.o (Ag.o (Ag.o (Ag.o (Ag.o (Ag.o (Ag.o (Ag.o (Ag.o (Ag.o (Ag.o (Ag.o (Ag.o (Ag.o (Ag.o (Ag.o (Ag.o (Ag.o (Ag.o (Ag.o (Ag.o (Ag.o (Ag.o (Ag.o (Ag.o (Ag.o (Ag.o (Ag.o (Ag.o (Ag.o (Ag.o (Ag.o (Ag.o (Ag.o (Ag.o (Ag.o (Ag.o (Ag.o (Ag.o (Ag.o (Ag.o (Ag.o (Ag.o (Ag.o (Ag.o (Ag.o (Ag.o (Ag.o (Ag.o (Ag.o (Ag.o (Ag.o (Ag.o (Ag.o (Ag.o (Ag.o (Ag.o (Ag.o (Ag.o (Ag.o (Ag.o (Ag.o (Ag.o (Ag.o (Ag.o (Ag.o (Ag.o (Ag.o (Ag.o (Ag.o (Ag.o (Ag.o (Ag.o (Ag.o (Ag.o (Ag.o (Ag.o (Ag.o (Ag.o (Ag.o (Ag.o (Ag.o (Ag.o (Ag.o (Ag.o (Ag.o (Ag.o (Ag.o (Ag.o (Ag.o (Ag.o (Ag.o (Ag.o (Ag.o (Ag.o (Ag.o (Ag.o (Ag.o (Ag.o (Ag.o (Ag.o (Ag.o (Ag.o (Ag.o (Ag.o (Ag.o (Ag.o (Ag.o (Ag.o (Ag.o (Ag.o (Ag.o (Ag.o Ag.z)))))))))))))))))))))))))))))))))))))))))))))))))))))))))))))))))))))))))))))))))))))))))))))))))))))))))))))))))))))))))))))))))))))))))))))))))))))))))))))), ⟨by omega, by omega, by rw [hr]; rw [hd, lx_rem hrm, ← hd, hjn, List.drop_drop, show i + (j - i) = j by omega], hS⟩, by omega⟩
                        | exact ⟨_, _, _, _, rfl, (Ag.k (Ag.k (Ag.o (Ag.k (Ag.i (Ag.i (Ag.o (Ag.o (Ag.o (Ag.k (Ag.k (Ag.k (Ag.k (Ag.o (Ag.o (Ag.o (Ag.o (Ag.o (Ag.o (Ag.o (Ag.o (Ag.o (Ag.o (Ag.o (Ag.o (Ag.o (Ag.o (Ag.o (Ag.o (Ag.o (Ag.o (Ag.o (Ag.o (Ag.o (Ag.o (Ag.o (Ag.o (Ag.o (Ag.o (Ag.o (Ag.o (Ag.o (Ag.o (Ag.o (Ag.o (Ag.o (Ag.o (Ag.o (Ag.o (Ag.o (Ag.o (Ag.o (Ag.o (Ag.o (Ag.o (Ag.o (Ag.o (Ag.o (Ag.o (Ag.o (Ag.o (Ag.o (Ag.o (Ag.o (Ag.o (Ag.o (Ag.o (Ag.o (Ag.o (Ag.o (Ag.o (Ag.o (Ag.o (Ag.o (Ag.o (Ag.o (Ag.o (Ag.o (Ag.o (Ag.o (Ag.o (Ag.o (Ag.o (Ag.o (Ag.o (Ag.o (Ag.o (Ag.o (Ag.o (Ag.o (Ag.o (Ag.o (Ag.o (Ag.o (Ag.o (Ag.o (Ag.o (Ag.o (Ag.o (Ag.o (Ag.o (Ag.o (Ag.o (Ag.o (Ag.o (Ag.o (Ag.o (Ag.o (Ag.o (Ag.o (Ag.o (Ag.o (Ag.o (Ag.o (Ag.o (Ag.o (Ag.o (Ag.o (Ag.o (Ag.o (Ag.o (Ag.o (Ag.o (Ag.o (Ag.o (Ag.o (Ag.o (Ag.o (Ag.o (Ag.o (Ag.o (Ag.o (Ag.o (Ag.o (Ag.o (Ag.o (Ag.o (Ag.o (Ag.o (Ag.o (Ag.o (Ag.o (Ag.o (Ag.o (Ag.o (Ag.o (Ag.o (Ag.o (Ag.o (Ag.o (Ag.o (Ag.o (Ag.o (Ag.o (Ag.o (Ag.o (Ag.o (Ag.o Ag.z)))))))))))))))))))))))))))))))))))))))))))))))))))))))))))))))))))))))))))))))))))))))))))))))))))))))))))))))))))))))))))))))))))))))))))))))))))))))))))))), fin _ _ _ _ _ ht (by simp only [hjn]; omega) (by rw [List.drop_take]; simp only [cells, ← hjn, tw_take]; first | rfl | (rw [hzz]; rfl)) hnb hnr hS⟩
                        | exact ⟨_, _, _, _, rfl, (Ag.k (Ag.k (Ag.o (Ag.k (Ag.i (Ag.i (Ag.o (Ag.o (Ag.o (Ag.k (Ag.k (Ag.k (Ag.k (Ag.o (Ag.o (Ag.o (Ag.o (Ag.o (Ag.o (Ag.o (Ag.o (Ag.o (Ag.o (Ag.o (Ag.o (Ag.o (Ag.o (Ag.o (Ag.o (Ag.o (Ag.o (Ag.o (Ag.o (Ag.o (Ag.o (Ag.o (Ag.o (Ag.o (Ag.o (Ag.o (Ag.o (Ag.o (Ag.o (Ag.o (Ag.o (Ag.o (Ag.o (Ag.o (Ag.o (Ag.o (Ag.o (Ag.o (Ag.o (Ag.o (Ag.o (Ag.o (Ag.o (Ag.o (Ag.o (Ag.o (Ag.o (Ag.o (Ag.o (Ag.o (Ag.o (Ag.o (Ag.o (Ag.o (Ag.o (Ag.o (Ag.o (Ag.o (Ag.o (Ag.o (Ag.o (Ag.o (Ag.o (Ag.o (Ag.o (Ag.o (Ag.o (Ag.o (Ag.o (Ag.o (Ag.o (Ag.o (Ag.o (Ag.o (Ag.o (Ag.o (Ag.o (Ag.o (Ag.o (Ag.o (Ag.o (Ag.o (Ag.o (Ag.o (Ag.o (Ag.o (Ag.o (Ag.o (Ag.o (Ag.o (Ag.o (Ag.o (Ag.o (Ag.o (Ag.o (Ag.o (Ag.o (Ag.o (Ag.o (Ag.o (Ag.o (Ag.o (Ag.o (Ag.o (Ag.o (Ag.o (Ag.o (Ag.o (Ag.o (Ag.o (Ag.o (Ag.o (Ag.o (Ag.o (Ag.o (Ag.o (Ag.o (Ag.o (Ag.o (Ag.o (Ag.o (Ag.o (Ag.o (Ag.o (Ag.o (Ag.o (Ag.o (Ag.o (Ag.o (Ag.o (Ag.o (Ag.o (Ag.o (Ag.o (Ag.o (Ag.o (Ag.o (Ag.o (Ag.o (Ag.o (Ag.o (Ag.o (Ag.o (Ag.o Ag.z)))))))))))))))))))))))))))))))))))))))))))))))))))))))))))))))))))))))))))))))))))))))))))))))))))))))))))))))))))))))))))))))))))))))))))))))))))))))))))))), fin _ _ _ _ _ ht (by rw [hsg]; rfl) (by simp only [cells, hsn]; rfl) hnb hnr hS⟩
              · obtain ⟨hlt, hdg, hnb, hnr⟩ := cls5 (c := c) (by omega) (by omega) (by omega) (by omega)
                refine cskip ?_
                refine (fun h => bn (xn h)) ?_
                refine cseq ?_
                refine creg ?_
                refine wl (s_move (et d0) (dt (ps (ps (ps (ps (ps (ps (ps (ps (ps (ps p7))))))))))) ?_)
                refine wl (s_move (et d5) (dt (ps (ps (ps (ps (ps (ps (ps (ps (ps (ps p8))))))))))) ?_)
                refine wl (s_idxsn Tryd.underlying9 (et (ds (ds (ds (ds (ds (ds (ds (ds (ds (ds d7))))))))))) (et (ds (ds (ds (ds (ds (ds (ds (ds (ds (ds d8))))))))))) hc (dt (ps (ps (ps (ps (ps (ps (ps (ps (ps (ps p9))))))))))) ?_)
                refine wl (s_assign (et (ds (ds (ds (ds (ds (ds (ds (ds (ds (ds d9))))))))))) (dt p8) ?_)
                refine wnil ?_
                refine xn ?_
                refine cseq ?_
                refine creg ?_
                refine wl (s_move (et d5) (dt (ps (ps (ps (ps (ps (ps (ps (ps (ps (ps (ps p0)))))))))))) ?_)
                refine wl (s_addn (b := 1) (et (ds (ds (ds (ds (ds (ds (ds (ds (ds (ds (ds d0)))))))))))) ec (by omega) (dt (ps (ps (ps (ps (ps (ps (ps (ps (ps (ps (ps p1)))))))))))) ?_)
                refine wl (s_assign (et (ds (ds (ds (ds (ds (ds (ds (ds (ds (ds (ds d1)))))))))))) (dt p5) ?_)
                refine wnil ?_
                refine xn ?_
                refine cseq ?_
                refine cseq ?_
                refine ccut [112, 113, 114, 115, 116, 117, 118, 119, 120, 121, 122, 123, 124, 125, 126, 127, 128, 129, 130, 131, 132, 133, 134, 135, 136] (by decide) (fun (b : Bool) => [.k, .k, .k, .k, .k, .k, .k, .k, .k, .k, .k, .k, .k, .k, .k, .k, .k, .k, .k, .k, .k, .k, .k, .k, .k, .k, .k, .k, .k, .k, .k, .k, .k, .k, .k, .k, .k, .k, .k, .k, .k, .k, .k, .k, .k, .k, .k, .k, .k, .k, .k, .k, .k, .k, .k, .k, .k, .k, .k, .k, .k, .k, .k, .k, .k, .k, .k, .k, .k, .k, .k, .k, .k, .k, .k, .k, .k, .k, .k, .k, .k, .k, .k, .k, .k, .k, .k, .k, .k, .k, .k, .k, .k, .k, .k, .k, .k, .k, .k, .k, .k, .k, .k, .k, .k, .k, .k, .k, .k, .k, .k, .k, .o 112, .o 113, .o 114, .o 115, .o 116, .o 117, .o 118, .o 119, .o 120, .o 121, .o 122, .o 123, .o 124, .o 125, .o 126, .o 127, .o 128, .o 129, .o 130, .o 131, .o 132, .o 133, .o 134, .o 135, .o 136, .i (.bool b)]) (fun _ => rfl) (fun (b : Bool) (w : World) => (b = true ↔ ((l.drop (i + 1)).head? = some 61 ∧ (c.toNat = 61 ∨ c.toNat = 33 ∨ c.toNat = 60 ∨ c.toNat = 62))) ∧ Sep (fun _ => True) (fun _ => False) w0 w [.row v 30 4 ts.length (ts.flatMap cells), .blk b1 26 [.int .i64 0, .int .i64 0]] (fun _ => True)) ?_ ?_
                · refine creg ?_
                  refine wl (s_move (et d5) (dt (ps (ps (ps (ps (ps (ps (ps (ps (ps (ps (ps p2)))))))))))) ?_)
                  refine wl (s_move (et d0) (dt (ps (ps (ps (ps (ps (ps (ps (ps (ps (ps (ps p3)))))))))))) ?_)
                  refine wl (s_lens Tryd.underlying9 (et (ds (ds (ds (ds (ds (ds (ds (ds (ds (ds (ds d3)))))))))))) (dt (ps (ps (ps (ps (ps (ps (ps (ps (ps (ps (ps p4)))))))))))) ?_)
                  refine wl (s_lss (et (ds (ds (ds (ds (ds (ds (ds (ds (ds (ds (ds d2)))))))))))) (et (ds (ds (ds (ds (ds (ds (ds (ds (ds (ds (ds d4)))))))))))) (dt (ps (ps (ps (ps (ps (ps (ps (ps (ps (ps (ps p5)))))))))))) ?_)
                  refine wl (s_move (et (ds (ds (ds (ds (ds (ds (ds (ds (ds (ds (ds d5)))))))))))) (dt (ps (ps (ps (ps (ps (ps (ps (ps (ps (ps (ps p6)))))))))))) ?_)
                  refine wspd (ds (ds (ds (ds (ds (ds (ds (ds (ds (ds (ds d6))))))))))) (ps (ps (ps (ps (ps (ps (ps (ps (ps (ps (ps p6))))))))))) (ps (ps (ps (ps (ps (ps (ps (ps (ps (ps (ps p6))))))))))) (fun g28_4 => ?_) (fun g28_4 => ?_)
                  · obtain ⟨d, hdd⟩ : ∃ d, l[(i + 1)]? = some d := ⟨_, List.getElem?_eq_getElem (by omega)⟩
                    refine wy rfl (ds (ds (ds (ds (ds (ds (ds (ds (ds (ds (ds d6))))))))))) (s_move (et d0) (dt (ps (ps (ps (ps (ps (ps (ps (ps (ps (ps (ps p7)))))))))))) ?_)
                    refine wy rfl (ds (ds (ds (ds (ds (ds (ds (ds (ds (ds (ds d6))))))))))) (s_move (et d5) (dt (ps (ps (ps (ps (ps (ps (ps (ps (ps (ps (ps p8)))))))))))) ?_)
                    refine wy rfl (ds (ds (ds (ds (ds (ds (ds (ds (ds (ds (ds d6))))))))))) (s_idxsn Tryd.underlying9 (et (ds (ds (ds (ds (ds (ds (ds (ds (ds (ds (ds d7)))))))))))) (et (ds (ds (ds (ds (ds (ds (ds (ds (ds (ds (ds d8)))))))))))) hdd (dt (ps (ps (ps (ps (ps (ps (ps (ps (ps (ps (ps p9)))))))))))) ?_)
                    refine wy rfl (ds (ds (ds (ds (ds (ds (ds (ds (ds (ds (ds d6))))))))))) (s_eqi (et (ds (ds (ds (ds (ds (ds (ds (ds (ds (ds (ds d9)))))))))))) ec (dt (ps (ps (ps (ps (ps (ps (ps (ps (ps (ps (ps (ps p0))))))))))))) ?_)
                    refine wl (s_pickt (et (ds (ds (ds (ds (ds (ds (ds (ds (ds (ds (ds d6)))))))))))) (et (ds (ds (ds (ds (ds (ds (ds (ds (ds (ds (ds (ds d0))))))))))))) (dt (ps (ps (ps (ps (ps (ps (ps (ps (ps (ps (ps (ps p1))))))))))))) ?_)
                    refine wl (s_move (et (ds (ds (ds (ds (ds (ds (ds (ds (ds (ds (ds (ds d1))))))))))))) (dt (ps (ps (ps (ps (ps (ps (ps (ps (ps (ps (ps (ps p2))))))))))))) ?_)
                    refine wspd (ds (ds (ds (ds (ds (ds (ds (ds (ds (ds (ds (ds d2)))))))))))) (ps (ps (ps (ps (ps (ps (ps (ps (ps (ps (ps (ps p2)))))))))))) (ps (ps (ps (ps (ps (ps (ps (ps (ps (ps (ps (ps p2)))))))))))) (fun g28_10 => ?_) (fun g28_10 => ?_)
                    · refine wy rfl (ds (ds (ds (ds (ds (ds (ds (ds (ds (ds (ds (ds d2)))))))))))) (s_move (et d8) (dt (ps (ps (ps (ps (ps (ps (ps (ps (ps (ps (ps (ps p3))))))))))))) ?_)
                      refine wy rfl (ds (ds (ds (ds (ds (ds (ds (ds (ds (ds (ds (ds d2)))))))))))) (s_eqi (et (ds (ds (ds (ds (ds (ds (ds (ds (ds (ds (ds (ds d3))))))))))))) ec (dt (ps (ps (ps (ps (ps (ps (ps (ps (ps (ps (ps (ps p4))))))))))))) ?_)
                      refine wy rfl (ds (ds (ds (ds (ds (ds (ds (ds (ds (ds (ds (ds d2)))))))))))) (s_move (et (ds (ds (ds (ds (ds (ds (ds (ds (ds (ds (ds (ds d4))))))))))))) (dt (ps (ps (ps (ps (ps (ps (ps (ps (ps (ps (ps (ps p5))))))))))))) ?_)
                      refine wspd (ds (ds (ds (ds (ds (ds (ds (ds (ds (ds (ds (ds d5)))))))))))) (ps (ps (ps (ps (ps (ps (ps (ps (ps (ps (ps (ps p5)))))))))))) (ps (ps (ps (ps (ps (ps (ps (ps (ps (ps (ps (ps p5)))))))))))) (fun g28_13 => ?_) (fun g28_13 => ?_)
                      · refine wn rfl (ds (ds (ds (ds (ds (ds (ds (ds (ds (ds (ds (ds d5)))))))))))) rfl (dt (ps (ps (ps (ps (ps (ps (ps (ps (ps (ps (ps (ps p6))))))))))))) ?_
                        refine wn rfl (ds (ds (ds (ds (ds (ds (ds (ds (ds (ds (ds (ds d5)))))))))))) rfl (dt (ps (ps (ps (ps (ps (ps (ps (ps (ps (ps (ps (ps p7))))))))))))) ?_
                        refine wy rfl (ds (ds (ds (ds (ds (ds (ds (ds (ds (ds (ds (ds d2)))))))))))) (s_pickt (et (ds (ds (ds (ds (ds (ds (ds (ds (ds (ds (ds (ds d5))))))))))))) ec (dt (ps (ps (ps (ps (ps (ps (ps (ps (ps (ps (ps (ps p8))))))))))))) ?_)
                        refine wy rfl (ds (ds (ds (ds (ds (ds (ds (ds (ds (ds (ds (ds d2)))))))))))) (s_move (et (ds (ds (ds (ds (ds (ds (ds (ds (ds (ds (ds (ds d8))))))))))))) (dt (ps (ps (ps (ps (ps (ps (ps (ps (ps (ps (ps (ps p9))))))))))))) ?_)
                        refine wn rfl (ds (ds (ds (ds (ds (ds (ds (ds (ds (ds (ds (ds d9)))))))))))) rfl (dt (ps (ps (ps (ps (ps (ps (ps (ps (ps (ps (ps (ps (ps p0)))))))))))))) ?_
                        refine wn rfl (ds (ds (ds (ds (ds (ds (ds (ds (ds (ds (ds (ds d9)))))))))))) rfl (dt (ps (ps (ps (ps (ps (ps (ps (ps (ps (ps (ps (ps (ps p1)))))))))))))) ?_
                        refine wy rfl (ds (ds (ds (ds (ds (ds (ds (ds (ds (ds (ds (ds d2)))))))))))) (s_pickt (et (ds (ds (ds (ds (ds (ds (ds (ds (ds (ds (ds (ds d9))))))))))))) ec (dt (ps (ps (ps (ps (ps (ps (ps (ps (ps (ps (ps (ps (ps p2)))))))))))))) ?_)
                        refine wy rfl (ds (ds (ds (ds (ds (ds (ds (ds (ds (ds (ds (ds d2)))))))))))) (s_move (et (ds (ds (ds (ds (ds (ds (ds (ds (ds (ds (ds (ds (ds d2)))))))))))))) (dt (ps (ps (ps (ps (ps (ps (ps (ps (ps (ps (ps (ps (ps p3)))))))))))))) ?_)
                        refine wn rfl (ds (ds (ds (ds (ds (ds (ds (ds (ds (ds (ds (ds (ds d3))))))))))))) rfl (dt (ps (ps (ps (ps (ps (ps (ps (ps (ps (ps (ps (ps (ps p4)))))))))))))) ?_
                        refine wn rfl (ds (ds (ds (ds (ds (ds (ds (ds (ds (ds (ds (ds (ds d3))))))))))))) rfl (dt (ps (ps (ps (ps (ps (ps (ps (ps (ps (ps (ps (ps (ps p5)))))))))))))) ?_
                        refine wy rfl (ds (ds (ds (ds (ds (ds (ds (ds (ds (ds (ds (ds d2)))))))))))) (s_pickt (et (ds (ds (ds (ds (ds (ds (ds (ds (ds (ds (ds (ds (ds d3)))))))))))))) ec (dt (ps (ps (ps (ps (ps (ps (ps (ps (ps (ps (ps (ps (ps p6)))))))))))))) ?_)
                        refine wl (s_pickt (et (ds (ds (ds (ds (ds (ds (ds (ds (ds (ds (ds (ds d2))))))))))))) (et (ds (ds (ds (ds (ds (ds (ds (ds (ds (ds (ds (ds (ds d6)))))))))))))) (dt (ps (ps (ps (ps (ps (ps (ps (ps (ps (ps (ps (ps (ps p7)))))))))))))) ?_)
                        refine wnil ?_
                        refine xl ?_
                        exact ⟨_, _, rfl, (Ag.k (Ag.k (Ag.k (Ag.k (Ag.k (Ag.k (Ag.k (Ag.k (Ag.k (Ag.k (Ag.k (Ag.k (Ag.k (Ag.k (Ag.k (Ag.k (Ag.k (Ag.k (Ag.k (Ag.k (Ag.k (Ag.k (Ag.k (Ag.k (Ag.k (Ag.k (Ag.k (Ag.k (Ag.k (Ag.k (Ag.k (Ag.k (Ag.k (Ag.k (Ag.k (Ag.k (Ag.k (Ag.k (Ag.k (Ag.k (Ag.k (Ag.k (Ag.k (Ag.k (Ag.k (Ag.k (Ag.k (Ag.k (Ag.k (Ag.k (Ag.k (Ag.k (Ag.k (Ag.k (Ag.k (Ag.k (Ag.k (Ag.k (Ag.k (Ag.k (Ag.k (Ag.k (Ag.k (Ag.k (Ag.k (Ag.k (Ag.k (Ag.k (Ag.k (Ag.k (Ag.k (Ag.k (Ag.k (Ag.k (Ag.k (Ag.k (Ag.k (Ag.k (Ag.k (Ag.k (Ag.k (Ag.k (Ag.k (Ag.k (Ag.k (Ag.k (Ag.k (Ag.k (Ag.k (Ag.k (Ag.k (Ag.k (Ag.k (Ag.k (Ag.k (Ag.k (Ag.k (Ag.k (Ag.k (Ag.k (Ag.k (Ag.k (Ag.k (Ag.k (Ag.k (Ag.k (Ag.k (Ag.k (Ag.k (Ag.k (Ag.k (Ag.k (Ag.o (Ag.o (Ag.o (Ag.o (Ag.o (Ag.o (Ag.o (Ag.o (Ag.o (Ag.o (Ag.o (Ag.o (Ag.o (Ag.o (Ag.o (Ag.o (Ag.o (Ag.o (Ag.o (Ag.o (Ag.o (Ag.o (Ag.o (Ag.o (Ag.o (Ag.i Ag.z)))))))))))))))))))))))))))))))))))))))))))))))))))))))))))))))))))))))))))))))))))))))))))))))))))))))))))))))))))))))))))))))))))))))))), by
                          rw [List.head?_drop]
                          first
                            | (rw [hdd]; simp only [Option.some.injEq, ← UInt8.toNat_inj]
                               first
                                 | (simp only [decide_eq_true_eq, true_iff, show (61 : UInt8).toNat = 61 from rfl]; omega)
                                 | (simp only [decide_eq_true_eq, show (61 : UInt8).toNat = 61 from rfl]; omega)
                                 | (simp only [Bool.false_eq_true, false_iff, show (61 : UInt8).toNat = 61 from rfl]; omega))
                            | (rw [List.getElem?_eq_none (by omega)]; simp), hS⟩
                      · refine wy rfl (ds (ds (ds (ds (ds (ds (ds (ds (ds (ds (ds (ds d5)))))))))))) (s_move (et d8) (dt (ps (ps (ps (ps (ps (ps (ps (ps (ps (ps (ps (ps p6))))))))))))) ?_)
                        refine wy rfl (ds (ds (ds (ds (ds (ds (ds (ds (ds (ds (ds (ds d5)))))))))))) (s_eqi (et (ds (ds (ds (ds (ds (ds (ds (ds (ds (ds (ds (ds d6))))))))))))) ec (dt (ps (ps (ps (ps (ps (ps (ps (ps (ps (ps (ps (ps p7))))))))))))) ?_)
                        refine wy rfl (ds (ds (ds (ds (ds (ds (ds (ds (ds (ds (ds (ds d2)))))))))))) (s_pickf (et (ds (ds (ds (ds (ds (ds (ds (ds (ds (ds (ds (ds d5))))))))))))) (et (ds (ds (ds (ds (ds (ds (ds (ds (ds (ds (ds (ds d7))))))))))))) (dt (ps (ps (ps (ps (ps (ps (ps (ps (ps (ps (ps (ps p8))))))))))))) ?_)
                        refine wy rfl (ds (ds (ds (ds (ds (ds (ds (ds (ds (ds (ds (ds d2)))))))))))) (s_move (et (ds (ds (ds (ds (ds (ds (ds (ds (ds (ds (ds (ds d8))))))))))))) (dt (ps (ps (ps (ps (ps (ps (ps (ps (ps (ps (ps (ps p9))))))))))))) ?_)
                        refine wspd (ds (ds (ds (ds (ds (ds (ds (ds (ds (ds (ds (ds d9)))))))))))) (ps (ps (ps (ps (ps (ps (ps (ps (ps (ps (ps (ps p9)))))))))))) (ps (ps (ps (ps (ps (ps (ps (ps (ps (ps (ps (ps p9)))))))))))) (fun g28_17 => ?_) (fun g28_17 => ?_)
                        · refine wn rfl (ds (ds (ds (ds (ds (ds (ds (ds (ds (ds (ds (ds d9)))))))))))) rfl (dt (ps (ps (ps (ps (ps (ps (ps (ps (ps (ps (ps (ps (ps p0)))))))))))))) ?_
                          refine wn rfl (ds (ds (ds (ds (ds (ds (ds (ds (ds (ds (ds (ds d9)))))))))))) rfl (dt (ps (ps (ps (ps (ps (ps (ps (ps (ps (ps (ps (ps (ps p1)))))))))))))) ?_
                          refine wy rfl (ds (ds (ds (ds (ds (ds (ds (ds (ds (ds (ds (ds d2)))))))))))) (s_pickt (et (ds (ds (ds (ds (ds (ds (ds (ds (ds (ds (ds (ds d9))))))))))))) ec (dt (ps (ps (ps (ps (ps (ps (ps (ps (ps (ps (ps (ps (ps p2)))))))))))))) ?_)
                          refine wy rfl (ds (ds (ds (ds (ds (ds (ds (ds (ds (ds (ds (ds d2)))))))))))) (s_move (et (ds (ds (ds (ds (ds (ds (ds (ds (ds (ds (ds (ds (ds d2)))))))))))))) (dt (ps (ps (ps (ps (ps (ps (ps (ps (ps (ps (ps (ps (ps p3)))))))))))))) ?_)
                          refine wn rfl (ds (ds (ds (ds (ds (ds (ds (ds (ds (ds (ds (ds (ds d3))))))))))))) rfl (dt (ps (ps (ps (ps (ps (ps (ps (ps (ps (ps (ps (ps (ps p4)))))))))))))) ?_
                          refine wn rfl (ds (ds (ds (ds (ds (ds (ds (ds (ds (ds (ds (ds (ds d3))))))))))))) rfl (dt (ps (ps (ps (ps (ps (ps (ps (ps (ps (ps (ps (ps (ps p5)))))))))))))) ?_
                          refine wy rfl (ds (ds (ds (ds (ds (ds (ds (ds (ds (ds (ds (ds d2)))))))))))) (s_pickt (et (ds (ds (ds (ds (ds (ds (ds (ds (ds (ds (ds (ds (ds d3)))))))))))))) ec (dt (ps (ps (ps (ps (ps (ps (ps (ps (ps (ps (ps (ps (ps p6)))))))))))))) ?_)
                          refine wl (s_pickt (et (ds (ds (ds (ds (ds (ds (ds (ds (ds (ds (ds (ds d2))))))))))))) (et (ds (ds (ds (ds (ds (ds (ds (ds (ds (ds (ds (ds (ds d6)))))))))))))) (dt (ps (ps (ps (ps (ps (ps (ps (ps (ps (ps (ps (ps (ps p7)))))))))))))) ?_)
                          refine wnil ?_
                          refine xl ?_
                          exact ⟨_, _, rfl, (Ag.k (Ag.k (Ag.k (Ag.k (Ag.k (Ag.k (Ag.k (Ag.k (Ag.k (Ag.k (Ag.k (Ag.k (Ag.k (Ag.k (Ag.k (Ag.k (Ag.k (Ag.k (Ag.k (Ag.k (Ag.k (Ag.k (Ag.k (Ag.k (Ag.k (Ag.k (Ag.k (Ag.k (Ag.k (Ag.k (Ag.k (Ag.k (Ag.k (Ag.k (Ag.k (Ag.k (Ag.k (Ag.k (Ag.k (Ag.k (Ag.k (Ag.k (Ag.k (Ag.k (Ag.k (Ag.k (Ag.k (Ag.k (Ag.k (Ag.k (Ag.k (Ag.k (Ag.k (Ag.k (Ag.k (Ag.k (Ag.k (Ag.k (Ag.k (Ag.k (Ag.k (Ag.k (Ag.k (Ag.k (Ag.k (Ag.k (Ag.k (Ag.k (Ag.k (Ag.k (Ag.k (Ag.k (Ag.k (Ag.k (Ag.k (Ag.k (Ag.k (Ag.k (Ag.k (Ag.k (Ag.k (Ag.k (Ag.k (Ag.k (Ag.k (Ag.k (Ag.k (Ag.k (Ag.k (Ag.k (Ag.k (Ag.k (Ag.k (Ag.k (Ag.k (Ag.k (Ag.k (Ag.k (Ag.k (Ag.k (Ag.k (Ag.k (Ag.k (Ag.k (Ag.k (Ag.k (Ag.k (Ag.k (Ag.k (Ag.k (Ag.k (Ag.k (Ag.o (Ag.o (Ag.o (Ag.o (Ag.o (Ag.o (Ag.o (Ag.o (Ag.o (Ag.o (Ag.o (Ag.o (Ag.o (Ag.o (Ag.o (Ag.o (Ag.o (Ag.o (Ag.o (Ag.o (Ag.o (Ag.o (Ag.o (Ag.o (Ag.o (Ag.i Ag.z)))))))))))))))))))))))))))))))))))))))))))))))))))))))))))))))))))))))))))))))))))))))))))))))))))))))))))))))))))))))))))))))))))))))))), by
                            rw [List.head?_drop]
                            first
                              | (rw [hdd]; simp only [Option.some.injEq, ← UInt8.toNat_inj]
                                 first
                                   | (simp only [decide_eq_true_eq, true_iff, show (61 : UInt8).toNat = 61 from rfl]; omega)
                                   | (simp only [decide_eq_true_eq, show (61 : UInt8).toNat = 61 from rfl]; omega)
                                   | (simp only [Bool.false_eq_true, false_iff, show (61 : UInt8).toNat = 61 from rfl]; omega))
                              | (rw [List.getElem?_eq_none (by omega)]; simp), hS⟩
                        · refine wy rfl (ds (ds (ds (ds (ds (ds (ds (ds (ds (ds (ds (ds d9)))))))))))) (s_move (et d8) (dt (ps (ps (ps (ps (ps (ps (ps (ps (ps (ps (ps (ps (ps p0)))))))))))))) ?_)
                          refine wy rfl (ds (ds (ds (ds (ds (ds (ds (ds (ds (ds (ds (ds d9)))))))))))) (s_eqi (et (ds (ds (ds (ds (ds (ds (ds (ds (ds (ds (ds (ds (ds d0)))))))))))))) ec (dt (ps (ps (ps (ps (ps (ps (ps (ps (ps (ps (ps (ps (ps p1)))))))))))))) ?_)
                          refine wy rfl (ds (ds (ds (ds (ds (ds (ds (ds (ds (ds (ds (ds d2)))))))))))) (s_pickf (et (ds (ds (ds (ds (ds (ds (ds (ds (ds (ds (ds (ds d9))))))))))))) (et (ds (ds (ds (ds (ds (ds (ds (ds (ds (ds (ds (ds (ds d1)))))))))))))) (dt (ps (ps (ps (ps (ps (ps (ps (ps (ps (ps (ps (ps (ps p2)))))))))))))) ?_)
                          refine wy rfl (ds (ds (ds (ds (ds (ds (ds (ds (ds (ds (ds (ds d2)))))))))))) (s_move (et (ds (ds (ds (ds (ds (ds (ds (ds (ds (ds (ds (ds (ds d2)))))))))))))) (dt (ps (ps (ps (ps (ps (ps (ps (ps (ps (ps (ps (ps (ps p3)))))))))))))) ?_)
                          refine wspd (ds (ds (ds (ds (ds (ds (ds (ds (ds (ds (ds (ds (ds d3))))))))))))) (ps (ps (ps (ps (ps (ps (ps (ps (ps (ps (ps (ps (ps p3))))))))))))) (ps (ps (ps (ps (ps (ps (ps (ps (ps (ps (ps (ps (ps p3))))))))))))) (fun g28_21 => ?_) (fun g28_21 => ?_)
                          · refine wn rfl (ds (ds (ds (ds (ds (ds (ds (ds (ds (ds (ds (ds (ds d3))))))))))))) rfl (dt (ps (ps (ps (ps (ps (ps (ps (ps (ps (ps (ps (ps (ps p4)))))))))))))) ?_
                            refine wn rfl (ds (ds (ds (ds (ds (ds (ds (ds (ds (ds (ds (ds (ds d3))))))))))))) rfl (dt (ps (ps (ps (ps (ps (ps (ps (ps (ps (ps (ps (ps (ps p5)))))))))))))) ?_
                            refine wy rfl (ds (ds (ds (ds (ds (ds (ds (ds (ds (ds (ds (ds d2)))))))))))) (s_pickt (et (ds (ds (ds (ds (ds (ds (ds (ds (ds (ds (ds (ds (ds d3)))))))))))))) ec (dt (ps (ps (ps (ps (ps (ps (ps (ps (ps (ps (ps (ps (ps p6)))))))))))))) ?_)
                            refine wl (s_pickt (et (ds (ds (ds (ds (ds (ds (ds (ds (ds (ds (ds (ds d2))))))))))))) (et (ds (ds (ds (ds (ds (ds (ds (ds (ds (ds (ds (ds (ds d6)))))))))))))) (dt (ps (ps (ps (ps (ps (ps (ps (ps (ps (ps (ps (ps (ps p7)))))))))))))) ?_)
                            refine wnil ?_
                            refine xl ?_
                            exact ⟨_, _, rfl, (Ag.k (Ag.k (Ag.k (Ag.k (Ag.k (Ag.k (Ag.k (Ag.k (Ag.k (Ag.k (Ag.k (Ag.k (Ag.k (Ag.k (Ag.k (Ag.k (Ag.k (Ag.k (Ag.k (Ag.k (Ag.k (Ag.k (Ag.k (Ag.k (Ag.k (Ag.k (Ag.k (Ag.k (Ag.k (Ag.k (Ag.k (Ag.k (Ag.k (Ag.k (Ag.k (Ag.k (Ag.k (Ag.k (Ag.k (Ag.k (Ag.k (Ag.k (Ag.k (Ag.k (Ag.k (Ag.k (Ag.k (Ag.k (Ag.k (Ag.k (Ag.k (Ag.k (Ag.k (Ag.k (Ag.k (Ag.k (Ag.k (Ag.k (Ag.k (Ag.k (Ag.k (Ag.k (Ag.k (Ag.k (Ag.k (Ag.k (Ag.k (Ag.k (Ag.k (Ag.k (Ag.k (Ag.k (Ag.k (Ag.k (Ag.k (Ag.k (Ag.k (Ag.k (Ag.k (Ag.k (Ag.k (Ag.k (Ag.k (Ag.k (Ag.k (Ag.k (Ag.k (Ag.k (Ag.k (Ag.k (Ag.k (Ag.k (Ag.k (Ag.k (Ag.k (Ag.k (Ag.k (Ag.k (Ag.k (Ag.k (Ag.k (Ag.k (Ag.k (Ag.k (Ag.k (Ag.k (Ag.k (Ag.k (Ag.k (Ag.k (Ag.k (Ag.k (Ag.o (Ag.o (Ag.o (Ag.o (Ag.o (Ag.o (Ag.o (Ag.o (Ag.o (Ag.o (Ag.o (Ag.o (Ag.o (Ag.o (Ag.o (Ag.o (Ag.o (Ag.o (Ag.o (Ag.o (Ag.o (Ag.o (Ag.o (Ag.o (Ag.o (Ag.i Ag.z)))))))))))))))))))))))))))))))))))))))))))))))))))))))))))))))))))))))))))))))))))))))))))))))))))))))))))))))))))))))))))))))))))))))))), by
                              rw [List.head?_drop]
                              first
                                | (rw [hdd]; simp only [Option.some.injEq, ← UInt8.toNat_inj]
                                   first
                                     | (simp only [decide_eq_true_eq, true_iff, show (61 : UInt8).toNat = 61 from rfl]; omega)
                                     | (simp only [decide_eq_true_eq, show (61 : UInt8).toNat = 61 from rfl]; omega)
                                     | (simp only [Bool.false_eq_true, false_iff, show (61 : UInt8).toNat = 61 from rfl]; omega))
                                | (rw [List.getElem?_eq_none (by omega)]; simp), hS⟩
                          · refine wy rfl (ds (ds (ds (ds (ds (ds (ds (ds (ds (ds (ds (ds (ds d3))))))))))))) (s_move (et d8) (dt (ps (ps (ps (ps (ps (ps (ps (ps (ps (ps (ps (ps (ps p4)))))))))))))) ?_)
                            refine wy rfl (ds (ds (ds (ds (ds (ds (ds (ds (ds (ds (ds (ds (ds d3))))))))))))) (s_eqi (et (ds (ds (ds (ds (ds (ds (ds (ds (ds (ds (ds (ds (ds d4)))))))))))))) ec (dt (ps (ps (ps (ps (ps (ps (ps (ps (ps (ps (ps (ps (ps p5)))))))))))))) ?_)
                            refine wy rfl (ds (ds (ds (ds (ds (ds (ds (ds (ds (ds (ds (ds d2)))))))))))) (s_pickf (et (ds (ds (ds (ds (ds (ds (ds (ds (ds (ds (ds (ds (ds d3)))))))))))))) (et (ds (ds (ds (ds (ds (ds (ds (ds (ds (ds (ds (ds (ds d5)))))))))))))) (dt (ps (ps (ps (ps (ps (ps (ps (ps (ps (ps (ps (ps (ps p6)))))))))))))) ?_)
                            refine wl (s_pickt (et (ds (ds (ds (ds (ds (ds (ds (ds (ds (ds (ds (ds d2))))))))))))) (et (ds (ds (ds (ds (ds (ds (ds (ds (ds (ds (ds (ds (ds d6)))))))))))))) (dt (ps (ps (ps (ps (ps (ps (ps (ps (ps (ps (ps (ps (ps p7)))))))))))))) ?_)
                            refine wnil ?_
                            refine xl ?_
                            exact ⟨_, _, rfl, (Ag.k (Ag.k (Ag.k (Ag.k (Ag.k (Ag.k (Ag.k (Ag.k (Ag.k (Ag.k (Ag.k (Ag.k (Ag.k (Ag.k (Ag.k (Ag.k (Ag.k (Ag.k (Ag.k (Ag.k (Ag.k (Ag.k (Ag.k (Ag.k (Ag.k (Ag.k (Ag.k (Ag.k (Ag.k (Ag.k (Ag.k (Ag.k (Ag.k (Ag.k (Ag.k (Ag.k (Ag.k (Ag.k (Ag.k (Ag.k (Ag.k (Ag.k (Ag.k (Ag.k (Ag.k (Ag.k (Ag.k (Ag.k (Ag.k (Ag.k (Ag.k (Ag.k (Ag.k (Ag.k (Ag.k (Ag.k (Ag.k (Ag.k (Ag.k (Ag.k (Ag.k (Ag.k (Ag.k (Ag.k (Ag.k (Ag.k (Ag.k (Ag.k (Ag.k (Ag.k (Ag.k (Ag.k (Ag.k (Ag.k (Ag.k (Ag.k (Ag.k (Ag.k (Ag.k (Ag.k (Ag.k (Ag.k (Ag.k (Ag.k (Ag.k (Ag.k (Ag.k (Ag.k (Ag.k (Ag.k (Ag.k (Ag.k (Ag.k (Ag.k (Ag.k (Ag.k (Ag.k (Ag.k (Ag.k (Ag.k (Ag.k (Ag.k (Ag.k (Ag.k (Ag.k (Ag.k (Ag.k (Ag.k (Ag.k (Ag.k (Ag.k (Ag.k (Ag.o (Ag.o (Ag.o (Ag.o (Ag.o (Ag.o (Ag.o (Ag.o (Ag.o (Ag.o (Ag.o (Ag.o (Ag.o (Ag.o (Ag.o (Ag.o (Ag.o (Ag.o (Ag.o (Ag.o (Ag.o (Ag.o (Ag.o (Ag.o (Ag.o (Ag.i Ag.z)))))))))))))))))))))))))))))))))))))))))))))))))))))))))))))))))))))))))))))))))))))))))))))))))))))))))))))))))))))))))))))))))))))))))), by
                              rw [List.head?_drop]
                              first
                                | (rw [hdd]; simp only [Option.some.injEq, ← UInt8.toNat_inj]
                                   first
                                     | (simp only [decide_eq_true_eq, true_iff, show (61 : UInt8).toNat = 61 from rfl]; omega)
                                     | (simp only [decide_eq_true_eq, show (61 : UInt8).toNat = 61 from rfl]; omega)
                                     | (simp only [Bool.false_eq_true, false_iff, show (61 : UInt8).toNat = 61 from rfl]; omega))
                                | (rw [List.getElem?_eq_none (by omega)]; simp), hS⟩
                    · refine wn rfl (ds (ds (ds (ds (ds (ds (ds (ds (ds (ds (ds (ds d2)))))))))))) rfl (dt (ps (ps (ps (ps (ps (ps (ps (ps (ps (ps (ps (ps p3))))))))))))) ?_
                      refine wn rfl (ds (ds (ds (ds (ds (ds (ds (ds (ds (ds (ds (ds d2)))))))))))) rfl (dt (ps (ps (ps (ps (ps (ps (ps (ps (ps (ps (ps (ps p4))))))))))))) ?_
                      refine wn rfl (ds (ds (ds (ds (ds (ds (ds (ds (ds (ds (ds (ds d2)))))))))))) rfl (dt (ps (ps (ps (ps (ps (ps (ps (ps (ps (ps (ps (ps p5))))))))))))) ?_
                      refine wu rfl (ds (ds (ds (ds (ds (ds (ds (ds (ds (ds (ds (ds d5)))))))))))) (dt (ps (ps (ps (ps (ps (ps (ps (ps (ps (ps (ps (ps p6))))))))))))) ?_
                      refine wu rfl (ds (ds (ds (ds (ds (ds (ds (ds (ds (ds (ds (ds d5)))))))))))) (dt (ps (ps (ps (ps (ps (ps (ps (ps (ps (ps (ps (ps p7))))))))))))) ?_
                      refine wn rfl (ds (ds (ds (ds (ds (ds (ds (ds (ds (ds (ds (ds d2)))))))))))) rfl (dt (ps (ps (ps (ps (ps (ps (ps (ps (ps (ps (ps (ps p8))))))))))))) ?_
                      refine wn rfl (ds (ds (ds (ds (ds (ds (ds (ds (ds (ds (ds (ds d2)))))))))))) rfl (dt (ps (ps (ps (ps (ps (ps (ps (ps (ps (ps (ps (ps p9))))))))))))) ?_
                      refine wu rfl (ds (ds (ds (ds (ds (ds (ds (ds (ds (ds (ds (ds d9)))))))))))) (dt (ps (ps (ps (ps (ps (ps (ps (ps (ps (ps (ps (ps (ps p0)))))))))))))) ?_
                      refine wu rfl (ds (ds (ds (ds (ds (ds (ds (ds (ds (ds (ds (ds d9)))))))))))) (dt (ps (ps (ps (ps (ps (ps (ps (ps (ps (ps (ps (ps (ps p1)))))))))))))) ?_
                      refine wn rfl (ds (ds (ds (ds (ds (ds (ds (ds (ds (ds (ds (ds d2)))))))))))) rfl (dt (ps (ps (ps (ps (ps (ps (ps (ps (ps (ps (ps (ps (ps p2)))))))))))))) ?_
                      refine wn rfl (ds (ds (ds (ds (ds (ds (ds (ds (ds (ds (ds (ds d2)))))))))))) rfl (dt (ps (ps (ps (ps (ps (ps (ps (ps (ps (ps (ps (ps (ps p3)))))))))))))) ?_
                      refine wu rfl (ds (ds (ds (ds (ds (ds (ds (ds (ds (ds (ds (ds (ds d3))))))))))))) (dt (ps (ps (ps (ps (ps (ps (ps (ps (ps (ps (ps (ps (ps p4)))))))))))))) ?_
                      refine wu rfl (ds (ds (ds (ds (ds (ds (ds (ds (ds (ds (ds (ds (ds d3))))))))))))) (dt (ps (ps (ps (ps (ps (ps (ps (ps (ps (ps (ps (ps (ps p5)))))))))))))) ?_
                      refine wn rfl (ds (ds (ds (ds (ds (ds (ds (ds (ds (ds (ds (ds d2)))))))))))) rfl (dt (ps (ps (ps (ps (ps (ps (ps (ps (ps (ps (ps (ps (ps p6)))))))))))))) ?_
                      refine wl (s_pickf (et (ds (ds (ds (ds (ds (ds (ds (ds (ds (ds (ds (ds d2))))))))))))) ec (dt (ps (ps (ps (ps (ps (ps (ps (ps (ps (ps (ps (ps (ps p7)))))))))))))) ?_)
                      refine wnil ?_
                      refine xl ?_
                      exact ⟨_, _, rfl, (Ag.k (Ag.k (Ag.k (Ag.k (Ag.k (Ag.k (Ag.k (Ag.k (Ag.k (Ag.k (Ag.k (Ag.k (Ag.k (Ag.k (Ag.k (Ag.k (Ag.k (Ag.k (Ag.k (Ag.k (Ag.k (Ag.k (Ag.k (Ag.k (Ag.k (Ag.k (Ag.k (Ag.k (Ag.k (Ag.k (Ag.k (Ag.k (Ag.k (Ag.k (Ag.k (Ag.k (Ag.k (Ag.k (Ag.k (Ag.k (Ag.k (Ag.k (Ag.k (Ag.k (Ag.k (Ag.k (Ag.k (Ag.k (Ag.k (Ag.k (Ag.k (Ag.k (Ag.k (Ag.k (Ag.k (Ag.k (Ag.k (Ag.k (Ag.k (Ag.k (Ag.k (Ag.k (Ag.k (Ag.k (Ag.k (Ag.k (Ag.k (Ag.k (Ag.k (Ag.k (Ag.k (Ag.k (Ag.k (Ag.k (Ag.k (Ag.k (Ag.k (Ag.k (Ag.k (Ag.k (Ag.k (Ag.k (Ag.k (Ag.k (Ag.k (Ag.k (Ag.k (Ag.k (Ag.k (Ag.k (Ag.k (Ag.k (Ag.k (Ag.k (Ag.k (Ag.k (Ag.k (Ag.k (Ag.k (Ag.k (Ag.k (Ag.k (Ag.k (Ag.k (Ag.k (Ag.k (Ag.k (Ag.k (Ag.k (Ag.k (Ag.k (Ag.k (Ag.o (Ag.o (Ag.o (Ag.o (Ag.o (Ag.o (Ag.o (Ag.o (Ag.o (Ag.o (Ag.o (Ag.o (Ag.o (Ag.o (Ag.o (Ag.o (Ag.o (Ag.o (Ag.o (Ag.o (Ag.o (Ag.o (Ag.o (Ag.o (Ag.o (Ag.i Ag.z)))))))))))))))))))))))))))))))))))))))))))))))))))))))))))))))))))))))))))))))))))))))))))))))))))))))))))))))))))))))))))))))))))))))))), by
                        rw [List.head?_drop]
                        first
                          | (rw [hdd]; simp only [Option.some.injEq, ← UInt8.toNat_inj]
                             first
                               | (simp only [decide_eq_true_eq, true_iff, show (61 : UInt8).toNat = 61 from rfl]; omega)
                               | (simp only [decide_eq_true_eq, show (61 : UInt8).toNat = 61 from rfl]; omega)
                               | (simp only [Bool.false_eq_true, false_iff, show (61 : UInt8).toNat = 61 from rfl]; omega))
                          | (rw [List.getElem?_eq_none (by omega)]; simp), hS⟩
                  · refine wn rfl (ds (ds (ds (ds (ds (ds (ds (ds (ds (ds (ds d6))))))))))) rfl (dt (ps (ps (ps (ps (ps (ps (ps (ps (ps (ps (ps p7)))))))))))) ?_
                    refine wn rfl (ds (ds (ds (ds (ds (ds (ds (ds (ds (ds (ds d6))))))))))) rfl (dt (ps (ps (ps (ps (ps (ps (ps (ps (ps (ps (ps p8)))))))))))) ?_
                    refine wn rfl (ds (ds (ds (ds (ds (ds (ds (ds (ds (ds (ds d6))))))))))) rfl (dt (ps (ps (ps (ps (ps (ps (ps (ps (ps (ps (ps p9)))))))))))) ?_
                    refine wn rfl (ds (ds (ds (ds (ds (ds (ds (ds (ds (ds (ds d6))))))))))) rfl (dt (ps (ps (ps (ps (ps (ps (ps (ps (ps (ps (ps (ps p0))))))))))))) ?_
                    refine wl (s_pickf (et (ds (ds (ds (ds (ds (ds (ds (ds (ds (ds (ds d6)))))))))))) ec (dt (ps (ps (ps (ps (ps (ps (ps (ps (ps (ps (ps (ps p1))))))))))))) ?_)
                    refine wl (s_move (et (ds (ds (ds (ds (ds (ds (ds (ds (ds (ds (ds (ds d1))))))))))))) (dt (ps (ps (ps (ps (ps (ps (ps (ps (ps (ps (ps (ps p2))))))))))))) ?_)
                    refine wn rfl (ds (ds (ds (ds (ds (ds (ds (ds (ds (ds (ds (ds d2)))))))))))) rfl (dt (ps (ps (ps (ps (ps (ps (ps (ps (ps (ps (ps (ps p3))))))))))))) ?_
                    refine wn rfl (ds (ds (ds (ds (ds (ds (ds (ds (ds (ds (ds (ds d2)))))))))))) rfl (dt (ps (ps (ps (ps (ps (ps (ps (ps (ps (ps (ps (ps p4))))))))))))) ?_
                    refine wn rfl (ds (ds (ds (ds (ds (ds (ds (ds (ds (ds (ds (ds d2)))))))))))) rfl (dt (ps (ps (ps (ps (ps (ps (ps (ps (ps (ps (ps (ps p5))))))))))))) ?_
                    refine wu rfl (ds (ds (ds (ds (ds (ds (ds (ds (ds (ds (ds (ds d5)))))))))))) (dt (ps (ps (ps (ps (ps (ps (ps (ps (ps (ps (ps (ps p6))))))))))))) ?_
                    refine wu rfl (ds (ds (ds (ds (ds (ds (ds (ds (ds (ds (ds (ds d5)))))))))))) (dt (ps (ps (ps (ps (ps (ps (ps (ps (ps (ps (ps (ps p7))))))))))))) ?_
                    refine wn rfl (ds (ds (ds (ds (ds (ds (ds (ds (ds (ds (ds (ds d2)))))))))))) rfl (dt (ps (ps (ps (ps (ps (ps (ps (ps (ps (ps (ps (ps p8))))))))))))) ?_
                    refine wn rfl (ds (ds (ds (ds (ds (ds (ds (ds (ds (ds (ds (ds d2)))))))))))) rfl (dt (ps (ps (ps (ps (ps (ps (ps (ps (ps (ps (ps (ps p9))))))))))))) ?_
                    refine wu rfl (ds (ds (ds (ds (ds (ds (ds (ds (ds (ds (ds (ds d9)))))))))))) (dt (ps (ps (ps (ps (ps (ps (ps (ps (ps (ps (ps (ps (ps p0)))))))))))))) ?_
                    refine wu rfl (ds (ds (ds (ds (ds (ds (ds (ds (ds (ds (ds (ds d9)))))))))))) (dt (ps (ps (ps (ps (ps (ps (ps (ps (ps (ps (ps (ps (ps p1)))))))))))))) ?_
                    refine wn rfl (ds (ds (ds (ds (ds (ds (ds (ds (ds (ds (ds (ds d2)))))))))))) rfl (dt (ps (ps (ps (ps (ps (ps (ps (ps (ps (ps (ps (ps (ps p2)))))))))))))) ?_
                    refine wn rfl (ds (ds (ds (ds (ds (ds (ds (ds (ds (ds (ds (ds d2)))))))))))) rfl (dt (ps (ps (ps (ps (ps (ps (ps (ps (ps (ps (ps (ps (ps p3)))))))))))))) ?_
                    refine wu rfl (ds (ds (ds (ds (ds (ds (ds (ds (ds (ds (ds (ds (ds d3))))))))))))) (dt (ps (ps (ps (ps (ps (ps (ps (ps (ps (ps (ps (ps (ps p4)))))))))))))) ?_
                    refine wu rfl (ds (ds (ds (ds (ds (ds (ds (ds (ds (ds (ds (ds (ds d3))))))))))))) (dt (ps (ps (ps (ps (ps (ps (ps (ps (ps (ps (ps (ps (ps p5)))))))))))))) ?_
                    refine wn rfl (ds (ds (ds (ds (ds (ds (ds (ds (ds (ds (ds (ds d2)))))))))))) rfl (dt (ps (ps (ps (ps (ps (ps (ps (ps (ps (ps (ps (ps (ps p6)))))))))))))) ?_
                    refine wl (s_pickf (et (ds (ds (ds (ds (ds (ds (ds (ds (ds (ds (ds (ds d2))))))))))))) ec (dt (ps (ps (ps (ps (ps (ps (ps (ps (ps (ps (ps (ps (ps p7)))))))))))))) ?_)
                    refine wnil ?_
                    refine xl ?_
                    exact ⟨_, _, rfl, (Ag.k (Ag.k (Ag.k (Ag.k (Ag.k (Ag.k (Ag.k (Ag.k (Ag.k (Ag.k (Ag.k (Ag.k (Ag.k (Ag.k (Ag.k (Ag.k (Ag.k (Ag.k (Ag.k (Ag.k (Ag.k (Ag.k (Ag.k (Ag.k (Ag.k (Ag.k (Ag.k (Ag.k (Ag.k (Ag.k (Ag.k (Ag.k (Ag.k (Ag.k (Ag.k (Ag.k (Ag.k (Ag.k (Ag.k (Ag.k (Ag.k (Ag.k (Ag.k (Ag.k (Ag.k (Ag.k (Ag.k (Ag.k (Ag.k (Ag.k (Ag.k (Ag.k (Ag.k (Ag.k (Ag.k (Ag.k (Ag.k (Ag.k (Ag.k (Ag.k (Ag.k (Ag.k (Ag.k (Ag.k (Ag.k (Ag.k (Ag.k (Ag.k (Ag.k (Ag.k (Ag.k (Ag.k (Ag.k (Ag.k (Ag.k (Ag.k (Ag.k (Ag.k (Ag.k (Ag.k (Ag.k (Ag.k (Ag.k (Ag.k (Ag.k (Ag.k (Ag.k (Ag.k (Ag.k (Ag.k (Ag.k (Ag.k (Ag.k (Ag.k (Ag.k (Ag.k (Ag.k (Ag.k (Ag.k (Ag.k (Ag.k (Ag.k (Ag.k (Ag.k (Ag.k (Ag.k (Ag.k (Ag.k (Ag.k (Ag.k (Ag.k (Ag.k (Ag.o (Ag.o (Ag.o (Ag.o (Ag.o (Ag.o (Ag.o (Ag.o (Ag.o (Ag.o (Ag.o (Ag.o (Ag.o (Ag.o (Ag.o (Ag.o (Ag.o (Ag.o (Ag.o (Ag.o (Ag.o (Ag.o (Ag.o (Ag.o (Ag.o (Ag.i Ag.z)))))))))))))))))))))))))))))))))))))))))))))))))))))))))))))))))))))))))))))))))))))))))))))))))))))))))))))))))))))))))))))))))))))))))), by
                      rw [List.head?_drop]
                      first
                        | (rw [hdd]; simp only [Option.some.injEq, ← UInt8.toNat_inj]
                           first
                             | (simp only [decide_eq_true_eq, true_iff, show (61 : UInt8).toNat = 61 from rfl]; omega)
                             | (simp only [decide_eq_true_eq, show (61 : UInt8).toNat = 61 from rfl]; omega)
                             | (simp only [Bool.false_eq_true, false_iff, show (61 : UInt8).toNat = 61 from rfl]; omega))
                        | (rw [List.getElem?_eq_none (by omega)]; simp), hS⟩
                · rintro b t w hJ
                  obtain ⟨hb, hS⟩ := hJ
                  refine nrm (mk (mk (mk (mk (mk (mk (mk (mk (mk (mk (mk (mk (mk (mk (mk (mk (mk (mk (mk (mk (mk (mk (mk (mk (mk (mk (mk (mk (mk (mk (mk (mk (mk (mk (mk (mk (mk (mk (mk (mk (mk (mk (mk (mk (mk (mk (mk (mk (mk (mk (mk (mk (mk (mk (mk (mk (mk (mk (mk (mk (mk (mk (mk (mk (mk (mk (mk (mk (mk (mk (mk (mk (mk (mk (mk (mk (mk (mk (mk (mk (mk (mk (mk (mk (mk (mk (mk (mk (mk (mk (mk (mk (mk (mk (mk (mk (mk (mk (mk (mk (mk (mk (mk (mk (mk (mk (mk (mk (mk (mk (mk (mk (mo (mo (mo (mo (mo (mo (mo (mo (mo (mo (mo (mo (mo (mo (mo (mo (mo (mo (mo (mo (mo (mo (mo (mo (mo (mi mz)))))))))))))))))))))))))))))))))))))))))))))))))))))))))))))))))))))))))))))))))))))))))))))))))))))))))))))))))))))))))))))))))))))))))) ?_
                  refine xn ?_
                  refine cif (et (ds (ds (ds (ds (ds (ds (ds (ds (ds (ds (ds (ds (ds d7)))))))))))))) (fun h11 => ?_) (fun h11 => ?_)
                  · have ht : tok1 i (l.drop i) = .ok ⟨3, sign (l.drop i), 0, i⟩ := by rw [hd, tok1_sign hlt hdg, if_neg]; rw [sign_eq, if_pos (hb.1 h11)]; simp
                    have hsg : sign (l.drop i) = [c, 61] := by rw [hd, sign_eq, if_pos (hb.1 h11)]
                    have hi2 : i + 1 < l.length := by
                      have h := (hb.1 h11).1
                      rw [List.head?_drop] at h
                      exact (List.getElem?_eq_some_iff.1 h).1
                    have hsn : (l.take (i + 1 + 1)).drop i = sign (l.drop i) := by
                      have h3 := (tok1_len ht).2.2.1
                      simp only at h3
                      rw [hsg] at h3 ⊢
                      rw [List.drop_take, show i + 1 + 1 - i = 2 by omega]
                      exact h3.symm
                    refine creg ?_
                    refine wl (s_move (et d5) (dt (ps (ps (ps (ps (ps (ps (ps (ps (ps (ps (ps (ps (ps p8)))))))))))))) ?_)
                    refine wl (s_addn (b := 1) (et (ds (ds (ds (ds (ds (ds (ds (ds (ds (ds (ds (ds (ds d8)))))))))))))) ec (by omega) (dt (ps (ps (ps (ps (ps (ps (ps (ps (ps (ps (ps (ps (ps p9)))))))))))))) ?_)
                    refine wl (s_assign (et (ds (ds (ds (ds (ds (ds (ds (ds (ds (ds (ds (ds (ds d9)))))))))))))) (dt p5) ?_)
                    refine wnil ?_
                    refine xn ?_
                    refine creg ?_
                    refine wl (s_move (et d4) (dt (ps (ps (ps (ps (ps (ps (ps (ps (ps (ps (ps (ps (ps (ps p9))))))))))))))) ?_)
                    refine wl (s_move (et d0) (dt (ps (ps (ps (ps (ps (ps (ps (ps (ps (ps (ps (ps (ps (ps (ps p0)))))))))))))))) ?_)
                    refine wl (s_move (et d6) (dt (ps (ps (ps (ps (ps (ps (ps (ps (ps (ps (ps (ps (ps (ps (ps p1)))))))))))))))) ?_)
                    refine wl (s_move (et d5) (dt (ps (ps (ps (ps (ps (ps (ps (ps (ps (ps (ps (ps (ps (ps (ps p2)))))))))))))))) ?_)
                    refine wl (s_cutsn Tryd.underlying9 (et (ds (ds (ds (ds (ds (ds (ds (ds (ds (ds (ds (ds (ds (ds (ds d0)))))))))))))))) (et (ds (ds (ds (ds (ds (ds (ds (ds (ds (ds (ds (ds (ds (ds (ds d1)))))))))))))))) (et (ds (ds (ds (ds (ds (ds (ds (ds (ds (ds (ds (ds (ds (ds (ds d2)))))))))))))))) (by omega) (dt (ps (ps (ps (ps (ps (ps (ps (ps (ps (ps (ps (ps (ps (ps (ps p3)))))))))))))))) ?_)
                    refine wl (s_move (et d6) (dt (ps (ps (ps (ps (ps (ps (ps (ps (ps (ps (ps (ps (ps (ps (ps p4)))))))))))))))) ?_)
                    refine wl (s_build ti30 pl30 (Fl.o rfl ec rfl rfl p0 (Fl.o rfl (et (ds (ds (ds (ds (ds (ds (ds (ds (ds (ds (ds (ds (ds (ds (ds d3)))))))))))))))) rfl rfl p1 (Fl.o rfl (et (ds (ds (ds (ds (ds (ds (ds (ds (ds (ds (ds (ds (ds (ds (ds d4)))))))))))))))) rfl rfl p3 Fl.z))) (dt (ps (ps (ps (ps (ps (ps (ps (ps (ps (ps (ps (ps (ps (ps (ps p5)))))))))))))))) ?_)
                    refine wl (s_bsl1 Tryd.underlying23 ti30 rfl (et (ds (ds (ds (ds (ds (ds (ds (ds (ds (ds (ds (ds (ds (ds (ds d5)))))))))))))))) rfl hS ?_)
                    clear hS; intro b13 w13_ hb13 hS
                    refine pu (dt (ps (ps (ps (ps (ps (ps (ps (ps (ps (ps (ps (ps (ps (ps (ps p6)))))))))))))))) ?_
                    refine wl (s_append Tryd.underlying23 ti30 rfl (et (ds (ds (ds (ds (ds (ds (ds (ds (ds (ds (ds (ds (ds (ds d9))))))))))))))) (et (ds (ds (ds (ds (ds (ds (ds (ds (ds (ds (ds (ds (ds (ds (ds d6)))))))))))))))) hS d1 ((hS.blk d0).cells) rfl rfl (by omega) ?_)
                    clear hS; intro v14 w14_ rs_ hp_ hS; cases (show _ = rs_ from hp_)
                    replace hS := Sep.reput hS p1
                    refine pu (dt (ps (ps (ps (ps (ps (ps (ps (ps (ps (ps (ps (ps (ps (ps (ps p7)))))))))))))))) ?_
                    replace hS := hS.drop Rm.z
                    refine wl (s_assign (et (ds (ds (ds (ds (ds (ds (ds (ds (ds (ds (ds (ds (ds (ds (ds d7)))))))))))))))) (dt p4) ?_)
                    refine wnil ?_
                    refine (fun h => bn (xl h)) ?_
                    first
                      | exact ⟨i + 1, ts, v, _, rfl, (Ag.k (Ag.k (Ag.o (Ag.k (Ag.i (Ag.i (Ag.o (Ag.o (Ag.o (Ag.k (Ag.k (Ag.k (Ag.k (Ag.o (Ag.o (Ag.o (Ag.o (Ag.o (Ag.o (Ag.o (Ag.o (Ag.o (Ag.o (Ag.o (Ag.o (Ag.o (Ag.o (Ag.o (Ag.o (Ag.o (Ag.o (Ag.o (Ag.o (Ag.o (Ag.o (Ag.o (Ag.o (Ag.o (Ag.o (Ag.o (Ag.o (Ag.o (Ag.o (Ag.o (Ag.o (Ag.o (Ag.o (Ag.o (Ag.o (Ag.o (Ag.o (Ag.o (Ag.o (Ag.o (Ag.o (Ag.o (Ag.o (Ag.o (Ag.o (Ag.o (Ag.o (Ag.o (Ag.o (Ag.o (Ag.o (Ag.o (Ag.o (Ag.o (Ag.o (Ag.o (Ag.o (Ag.o (Ag.o (Ag.o (Ag.o (Ag.o (Ag.o (Ag.o (Ag.o (Ag.o (Ag.o (Ag.o (Ag.o (Ag.o (Ag.o (Ag.o (Ag.o (Ag.o (Ag.o (Ag.o (Ag.o (Ag.o (Ag.o (Ag.o (Ag.o (Ag.o (Ag.o (Ag.o (Ag.o (Ag.o (Ag.o (Ag.o (Ag.o (Ag.o (Ag.o (Ag.o (Ag.o (Ag.o (Ag.o (Ag.o (Ag.o (Ag.o (Ag.o (Ag.o (Ag.o (Ag.o (Ag.o (Ag.o (Ag.o (Ag.o (Ag.o (Ag.o (Ag.o (Ag.o (Ag.o (Ag.o (Ag.o (Ag.o (Ag.o (Ag.o (Ag.o (Ag.o (Ag.o (Ag.o (Ag.o (Ag.o (Ag.o (Ag.o (Ag.o (Ag.o (Ag.o (Ag.o (Ag.o (Ag.o (Ag.o (Ag.o (Ag.o (Ag.o (Ag.o (Ag.o (Ag.o (Ag.o (Ag.o (Ag.o (Ag.o (Ag.o (Ag.o (Ag.o Ag.z)))))))))))))))))))))))))))))))))))))))))))))))))))))))))))))))))))))))))))))))))))))))))))))))))))))))))))))))))))))))))))))))))))))))))))))))))))))))))))))), ⟨by omega, by omega, by rw [hr, hd, lx_blank hbl], hS⟩, by omega⟩
                      | exact ⟨j, ts, v, _, rfl, (Ag.k (Ag.k (Ag.o (Ag.k (Ag.i (Ag.i (Ag.o (Ag.o (Ag.o (Ag.k (Ag.k (Ag.k (Ag.k (Ag.o (Ag.o (Ag.o (Ag.o (Ag.o (Ag.o (Ag.o (Ag.o (Ag.o (Ag.o (Ag.o (Ag.o (Ag.o (Ag.o (Ag.o (Ag.o (Ag.o (Ag.o (Ag.o (Ag.o (Ag.o (Ag.o (Ag.o (Ag.o (Ag.o (Ag.o (Ag.o (Ag.o (Ag.o (Ag.o (Ag.o (Ag.o (Ag.o (Ag.o (Ag.o (Ag.o (Ag.o (Ag.o (Ag.o (Ag.o (Ag.o (Ag.o (Ag.o (Ag.o (Ag.o (Ag.o (Ag.o (Ag.o (Ag.o (Ag.o (Ag.o (Ag.o (Ag.o (Ag.o (Ag.o (Ag.o (Ag.o (Ag.o (Ag.o (Ag.o (Ag.o (Ag.o (Ag.o (Ag.o (Ag.o (Ag.o (Ag.o (Ag.o (Ag.o (Ag.o (Ag.o (Ag.o (Ag.o (Ag.o (Ag.o (Ag.o (Ag.o (Ag.o (Ag.o (Ag.o (Ag.o (Ag.o (Ag.o (Ag.o (Ag.o (Ag.o (Ag.o (Ag.o (Ag.o (Ag.o (Ag.o (Ag.o (Ag.o (Ag.o (Ag.o (Ag.o (Ag.o (Ag.o (Ag.o (Ag.o (Ag.o (Ag.o (Ag.o (Ag.o (Ag.o (Ag.o (Ag.o (Ag.o (Ag.o (Ag.o (Ag.o (Ag.o (Ag.o (Ag.o (Ag.o (Ag.o (Ag.o (Ag.o (Ag.o (Ag.o (Ag.o (Ag.o (Ag.o (Ag.o (Ag.o (Ag.o (Ag.o (Ag.o (Ag.o (Ag.o (Ag.o (Ag.o (Ag.o (Ag.o (Ag.o (Ag.o (Ag.o (Ag.o (Ag.o (Ag.o (Ag.o (Ag.o (Ag.o (Ag.o (Ag.o Ag.z)))))))))))))))))))))))))))))))))))))))))))))))))))))))))))))))))))))))))))))))))))))))))))))))))))))))))))))))))))))))))))))))))))))))))))))))))))))))))))))), ⟨by omega, by omega, by rw [hr]; rw [hd, lx_rem hrm, ← hd, hjn, List.drop_drop, show i + (j - i) = j by omega], hS⟩, by omega⟩
                      | exact ⟨_, _, _, _, rfl, (Ag.k (Ag.k (Ag.o (Ag.k (Ag.i (Ag.i (Ag.o (Ag.o (Ag.o (Ag.k (Ag.k (Ag.k (Ag.k (Ag.o (Ag.o (Ag.o (Ag.o (Ag.o (Ag.o (Ag.o (Ag.o (Ag.o (Ag.o (Ag.o (Ag.o (Ag.o (Ag.o (Ag.o (Ag.o (Ag.o (Ag.o (Ag.o (Ag.o (Ag.o (Ag.o (Ag.o (Ag.o (Ag.o (Ag.o (Ag.o (Ag.o (Ag.o (Ag.o (Ag.o (Ag.o (Ag.o (Ag.o (Ag.o (Ag.o (Ag.o (Ag.o (Ag.o (Ag.o (Ag.o (Ag.o (Ag.o (Ag.o (Ag.o (Ag.o (Ag.o (Ag.o (Ag.o (Ag.o (Ag.o (Ag.o (Ag.o (Ag.o (Ag.o (Ag.o (Ag.o (Ag.o (Ag.o (Ag.o (Ag.o (Ag.o (Ag.o (Ag.o (Ag.o (Ag.o (Ag.o (Ag.o (Ag.o (Ag.o (Ag.o (Ag.o (Ag.o (Ag.o (Ag.o (Ag.o (Ag.o (Ag.o (Ag.o (Ag.o (Ag.o (Ag.o (Ag.o (Ag.o (Ag.o (Ag.o (Ag.o (Ag.o (Ag.o (Ag.o (Ag.o (Ag.o (Ag.o (Ag.o (Ag.o (Ag.o (Ag.o (Ag.o (Ag.o (Ag.o (Ag.o (Ag.o (Ag.o (Ag.o (Ag.o (Ag.o (Ag.o (Ag.o (Ag.o (Ag.o (Ag.o (Ag.o (Ag.o (Ag.o (Ag.o (Ag.o (Ag.o (Ag.o (Ag.o (Ag.o (Ag.o (Ag.o (Ag.o (Ag.o (Ag.o (Ag.o (Ag.o (Ag.o (Ag.o (Ag.o (Ag.o (Ag.o (Ag.o (Ag.o (Ag.o (Ag.o (Ag.o (Ag.o (Ag.o (Ag.o (Ag.o (Ag.o (Ag.o (Ag.o (Ag.o Ag.z)))))))))))))))))))))))))))))))))))))))))))))))))))))))))))))))))))))))))))))))))))))))))))))))))))))))))))))))))))))))))))))))))))))))))))))))))))))))))))))), fin _ _ _ _ _ ht (by simp only [hjn]; omega) (by rw [List.drop_take]; simp only [cells, ← hjn, tw_take]; first | rfl | (rw [hzz]; rfl)) hnb hnr hS⟩
                      | exact ⟨_, _, _, _, rfl, (Ag.k (Ag.k (Ag.o (Ag.k (Ag.i (Ag.i (Ag.o (Ag.o (Ag.o (Ag.k (Ag.k (Ag.k (Ag.k (Ag.o (Ag.o (Ag.o (Ag.o (Ag.o (Ag.o (Ag.o (Ag.o (Ag.o (Ag.o (Ag.o (Ag.o (Ag.o (Ag.o (Ag.o (Ag.o (Ag.o (Ag.o (Ag.o (Ag.o (Ag.o (Ag.o (Ag.o (Ag.o (Ag.o (Ag.o (Ag.o (Ag.o (Ag.o (Ag.o (Ag.o (Ag.o (Ag.o (Ag.o (Ag.o (Ag.o (Ag.o (Ag.o (Ag.o (Ag.o (Ag.o (Ag.o (Ag.o (Ag.o (Ag.o (Ag.o (Ag.o (Ag.o (Ag.o (Ag.o (Ag.o (Ag.o (Ag.o (Ag.o (Ag.o (Ag.o (Ag.o (Ag.o (Ag.o (Ag.o (Ag.o (Ag.o (Ag.o (Ag.o (Ag.o (Ag.o (Ag.o (Ag.o (Ag.o (Ag.o (Ag.o (Ag.o (Ag.o (Ag.o (Ag.o (Ag.o (Ag.o (Ag.o (Ag.o (Ag.o (Ag.o (Ag.o (Ag.o (Ag.o (Ag.o (Ag.o (Ag.o (Ag.o (Ag.o (Ag.o (Ag.o (Ag.o (Ag.o (Ag.o (Ag.o (Ag.o (Ag.o (Ag.o (Ag.o (Ag.o (Ag.o (Ag.o (Ag.o (Ag.o (Ag.o (Ag.o (Ag.o (Ag.o (Ag.o (Ag.o (Ag.o (Ag.o (Ag.o (Ag.o (Ag.o (Ag.o (Ag.o (Ag.o (Ag.o (Ag.o (Ag.o (Ag.o (Ag.o (Ag.o (Ag.o (Ag.o (Ag.o (Ag.o (Ag.o (Ag.o (Ag.o (Ag.o (Ag.o (Ag.o (Ag.o (Ag.o (Ag.o (Ag.o (Ag.o (Ag.o (Ag.o (Ag.o (Ag.o (Ag.o (Ag.o Ag.z)))))))))))))))))))))))))))))))))))))))))))))))))))))))))))))))))))))))))))))))))))))))))))))))))))))))))))))))))))))))))))))))))))))))))))))))))))))))))))))), fin _ _ _ _ _ ht (by rw [hsg]; rfl) (by simp only [cells, hsn]; rfl) hnb hnr hS⟩
                  · refine cseq ?_
                    refine ccut [140, 141, 142, 143, 144, 145] (by decide) (fun (b2 : Bool) => [.k, .k, .k, .k, .k, .k, .k, .k, .k, .k, .k, .k, .k, .k, .k, .k, .k, .k, .k, .k, .k, .k, .k, .k, .k, .k, .k, .k, .k, .k, .k, .k, .k, .k, .k, .k, .k, .k, .k, .k, .k, .k, .k, .k, .k, .k, .k, .k, .k, .k, .k, .k, .k, .k, .k, .k, .k, .k, .k, .k, .k, .k, .k, .k, .k, .k, .k, .k, .k, .k, .k, .k, .k, .k, .k, .k, .k, .k, .k, .k, .k, .k, .k, .k, .k, .k, .k, .k, .k, .k, .k, .k, .k, .k, .k, .k, .k, .k, .k, .k, .k, .k, .k, .k, .k, .k, .k, .k, .k, .k, .k, .k, .k, .k, .k, .k, .k, .k, .k, .k, .k, .k, .k, .k, .k, .k, .k, .k, .k, .k, .k, .k, .k, .k, .k, .k, .k, .k, .k, .k, .o 140, .o 141, .o 142, .o 143, .o 144, .o 145, .i (.bool b2)]) (fun _ => rfl) (fun (b2 : Bool) (w : World) => (b2 = true ↔ (c.toNat = 33 ∨ ones.contains c = false)) ∧ Sep (fun _ => True) (fun _ => False) w0 w [.row v 30 4 ts.length (ts.flatMap cells), .blk b1 26 [.int .i64 0, .int .i64 0]] (fun _ => True)) ?_ ?_
                    · refine creg ?_
                      refine wl (s_move (et d8) (dt (ps (ps (ps (ps (ps (ps (ps (ps (ps (ps (ps (ps (ps (ps p0))))))))))))))) ?_)
                      refine wl (s_eqi (et (ds (ds (ds (ds (ds (ds (ds (ds (ds (ds (ds (ds (ds (ds d0))))))))))))))) ec (dt (ps (ps (ps (ps (ps (ps (ps (ps (ps (ps (ps (ps (ps (ps p1))))))))))))))) ?_)
                      refine wl (s_move (et (ds (ds (ds (ds (ds (ds (ds (ds (ds (ds (ds (ds (ds (ds d1))))))))))))))) (dt (ps (ps (ps (ps (ps (ps (ps (ps (ps (ps (ps (ps (ps (ps p2))))))))))))))) ?_)
                      refine wspd (ds (ds (ds (ds (ds (ds (ds (ds (ds (ds (ds (ds (ds (ds d2)))))))))))))) (ps (ps (ps (ps (ps (ps (ps (ps (ps (ps (ps (ps (ps (ps p2)))))))))))))) (ps (ps (ps (ps (ps (ps (ps (ps (ps (ps (ps (ps (ps (ps p2)))))))))))))) (fun g30_2 => ?_) (fun g30_2 => ?_)
                      · refine wn rfl (ds (ds (ds (ds (ds (ds (ds (ds (ds (ds (ds (ds (ds (ds d2)))))))))))))) rfl (dt (ps (ps (ps (ps (ps (ps (ps (ps (ps (ps (ps (ps (ps (ps p3))))))))))))))) ?_
                        refine wn rfl (ds (ds (ds (ds (ds (ds (ds (ds (ds (ds (ds (ds (ds (ds d2)))))))))))))) rfl (dt (ps (ps (ps (ps (ps (ps (ps (ps (ps (ps (ps (ps (ps (ps p4))))))))))))))) ?_
                        refine wn rfl (ds (ds (ds (ds (ds (ds (ds (ds (ds (ds (ds (ds (ds (ds d2)))))))))))))) rfl (dt (ps (ps (ps (ps (ps (ps (ps (ps (ps (ps (ps (ps (ps (ps p5))))))))))))))) ?_
                        refine wl (s_pickt (et (ds (ds (ds (ds (ds (ds (ds (ds (ds (ds (ds (ds (ds (ds d2))))))))))))))) ec (dt (ps (ps (ps (ps (ps (ps (ps (ps (ps (ps (ps (ps (ps (ps p6))))))))))))))) ?_)
                        refine wnil ?_
                        refine xl ?_
                        exact ⟨_, _, rfl, (Ag.k (Ag.k (Ag.k (Ag.k (Ag.k (Ag.k (Ag.k (Ag.k (Ag.k (Ag.k (Ag.k (Ag.k (Ag.k (Ag.k (Ag.k (Ag.k (Ag.k (Ag.k (Ag.k (Ag.k (Ag.k (Ag.k (Ag.k (Ag.k (Ag.k (Ag.k (Ag.k (Ag.k (Ag.k (Ag.k (Ag.k (Ag.k (Ag.k (Ag.k (Ag.k (Ag.k (Ag.k (Ag.k (Ag.k (Ag.k (Ag.k (Ag.k (Ag.k (Ag.k (Ag.k (Ag.k (Ag.k (Ag.k (Ag.k (Ag.k (Ag.k (Ag.k (Ag.k (Ag.k (Ag.k (Ag.k (Ag.k (Ag.k (Ag.k (Ag.k (Ag.k (Ag.k (Ag.k (Ag.k (Ag.k (Ag.k (Ag.k (Ag.k (Ag.k (Ag.k (Ag.k (Ag.k (Ag.k (Ag.k (Ag.k (Ag.k (Ag.k (Ag.k (Ag.k (Ag.k (Ag.k (Ag.k (Ag.k (Ag.k (Ag.k (Ag.k (Ag.k (Ag.k (Ag.k (Ag.k (Ag.k (Ag.k (Ag.k (Ag.k (Ag.k (Ag.k (Ag.k (Ag.k (Ag.k (Ag.k (Ag.k (Ag.k (Ag.k (Ag.k (Ag.k (Ag.k (Ag.k (Ag.k (Ag.k (Ag.k (Ag.k (Ag.k (Ag.k (Ag.k (Ag.k (Ag.k (Ag.k (Ag.k (Ag.k (Ag.k (Ag.k (Ag.k (Ag.k (Ag.k (Ag.k (Ag.k (Ag.k (Ag.k (Ag.k (Ag.k (Ag.k (Ag.k (Ag.k (Ag.k (Ag.k (Ag.k (Ag.k (Ag.k (Ag.k (Ag.k (Ag.o (Ag.o (Ag.o (Ag.o (Ag.o (Ag.o (Ag.i Ag.z))))))))))))))))))))))))))))))))))))))))))))))))))))))))))))))))))))))))))))))))))))))))))))))))))))))))))))))))))))))))))))))))))))))))))))))))))), by
                          first
                            | (simp only [true_iff]; left; omega)
                            | (have h33 : ¬ c.toNat = 33 := by omega
                               simp [h33]), hS⟩
                      · refine wy rfl (ds (ds (ds (ds (ds (ds (ds (ds (ds (ds (ds (ds (ds (ds d2)))))))))))))) (s_move (et d8) (dt (ps (ps (ps (ps (ps (ps (ps (ps (ps (ps (ps (ps (ps (ps p3))))))))))))))) ?_)
                        refine wy rfl (ds (ds (ds (ds (ds (ds (ds (ds (ds (ds (ds (ds (ds (ds d2)))))))))))))) (s_callv isfn20 ef (e1 (et (ds (ds (ds (ds (ds (ds (ds (ds (ds (ds (ds (ds (ds (ds d3))))))))))))))) e0) (one_c _ _) ?_)
                        rintro _ w ⟨rfl, hg⟩; replace hS := hS.grow hg
                        refine pu (dt (ps (ps (ps (ps (ps (ps (ps (ps (ps (ps (ps (ps (ps (ps p4))))))))))))))) ?_
                        refine wy rfl (ds (ds (ds (ds (ds (ds (ds (ds (ds (ds (ds (ds (ds (ds d2)))))))))))))) (s_not (et (ds (ds (ds (ds (ds (ds (ds (ds (ds (ds (ds (ds (ds (ds d4))))))))))))))) (dt (ps (ps (ps (ps (ps (ps (ps (ps (ps (ps (ps (ps (ps (ps p5))))))))))))))) ?_)
                        refine wl (s_pickf (et (ds (ds (ds (ds (ds (ds (ds (ds (ds (ds (ds (ds (ds (ds d2))))))))))))))) (et (ds (ds (ds (ds (ds (ds (ds (ds (ds (ds (ds (ds (ds (ds d5))))))))))))))) (dt (ps (ps (ps (ps (ps (ps (ps (ps (ps (ps (ps (ps (ps (ps p6))))))))))))))) ?_)
                        refine wnil ?_
                        refine xl ?_
                        exact ⟨_, _, rfl, (Ag.k (Ag.k (Ag.k (Ag.k (Ag.k (Ag.k (Ag.k (Ag.k (Ag.k (Ag.k (Ag.k (Ag.k (Ag.k (Ag.k (Ag.k (Ag.k (Ag.k (Ag.k (Ag.k (Ag.k (Ag.k (Ag.k (Ag.k (Ag.k (Ag.k (Ag.k (Ag.k (Ag.k (Ag.k (Ag.k (Ag.k (Ag.k (Ag.k (Ag.k (Ag.k (Ag.k (Ag.k (Ag.k (Ag.k (Ag.k (Ag.k (Ag.k (Ag.k (Ag.k (Ag.k (Ag.k (Ag.k (Ag.k (Ag.k (Ag.k (Ag.k (Ag.k (Ag.k (Ag.k (Ag.k (Ag.k (Ag.k (Ag.k (Ag.k (Ag.k (Ag.k (Ag.k (Ag.k (Ag.k (Ag.k (Ag.k (Ag.k (Ag.k (Ag.k (Ag.k (Ag.k (Ag.k (Ag.k (Ag.k (Ag.k (Ag.k (Ag.k (Ag.k (Ag.k (Ag.k (Ag.k (Ag.k (Ag.k (Ag.k (Ag.k (Ag.k (Ag.k (Ag.k (Ag.k (Ag.k (Ag.k (Ag.k (Ag.k (Ag.k (Ag.k (Ag.k (Ag.k (Ag.k (Ag.k (Ag.k (Ag.k (Ag.k (Ag.k (Ag.k (Ag.k (Ag.k (Ag.k (Ag.k (Ag.k (Ag.k (Ag.k (Ag.k (Ag.k (Ag.k (Ag.k (Ag.k (Ag.k (Ag.k (Ag.k (Ag.k (Ag.k (Ag.k (Ag.k (Ag.k (Ag.k (Ag.k (Ag.k (Ag.k (Ag.k (Ag.k (Ag.k (Ag.k (Ag.k (Ag.k (Ag.k (Ag.k (Ag.k (Ag.k (Ag.k (Ag.k (Ag.o (Ag.o (Ag.o (Ag.o (Ag.o (Ag.o (Ag.i Ag.z))))))))))))))))))))))))))))))))))))))))))))))))))))))))))))))))))))))))))))))))))))))))))))))))))))))))))))))))))))))))))))))))))))))))))))))))))), by
                          first
                            | (simp only [true_iff]; left; omega)
                            | (have h33 : ¬ c.toNat = 33 := by omega
                               simp [h33]), hS⟩
                    · rintro b2 t w hJ
                      obtain ⟨hb2, hS⟩ := hJ
                      refine nrm (mk (mk (mk (mk (mk (mk (mk (mk (mk (mk (mk (mk (mk (mk (mk (mk (mk (mk (mk (mk (mk (mk (mk (mk (mk (mk (mk (mk (mk (mk (mk (mk (mk (mk (mk (mk (mk (mk (mk (mk (mk (mk (mk (mk (mk (mk (mk (mk (mk (mk (mk (mk (mk (mk (mk (mk (mk (mk (mk (mk (mk (mk (mk (mk (mk (mk (mk (mk (mk (mk (mk (mk (mk (mk (mk (mk (mk (mk (mk (mk (mk (mk (mk (mk (mk (mk (mk (mk (mk (mk (mk (mk (mk (mk (mk (mk (mk (mk (mk (mk (mk (mk (mk (mk (mk (mk (mk (mk (mk (mk (mk (mk (mk (mk (mk (mk (mk (mk (mk (mk (mk (mk (mk (mk (mk (mk (mk (mk (mk (mk (mk (mk (mk (mk (mk (mk (mk (mk (mk (mk (mo (mo (mo (mo (mo (mo (mi mz))))))))))))))))))))))))))))))))))))))))))))))))))))))))))))))))))))))))))))))))))))))))))))))))))))))))))))))))))))))))))))))))))))))))))))))))))) ?_
                      refine xn ?_
                      refine cif (et (ds (ds (ds (ds (ds (ds (ds (ds (ds (ds (ds (ds (ds (ds d6))))))))))))))) (fun h12 => ?_) (fun h12 => ?_)
                      · have ht : tok1 i (l.drop i) = .error 2 := by rw [hd, tok1_sign hlt hdg, if_pos]; rw [sign_eq, if_neg (fun h => by rw [hb.2 h] at h11; cases h11), if_pos (hb2.1 h12)]
                        refine cseq ?_
                        refine creg ?_
                        refine wl (s_move (et d6) (dt (ps (ps (ps (ps (ps (ps (ps (ps (ps (ps (ps (ps (ps (ps p7))))))))))))))) ?_)
                        refine wl (s_build ti26 pl26 (Fl.o rfl ec rfl rfl p0 (Fl.o rfl (et (ds (ds (ds (ds (ds (ds (ds (ds (ds (ds (ds (ds (ds (ds d7))))))))))))))) rfl rfl p1 Fl.z)) (dt (ps (ps (ps (ps (ps (ps (ps (ps (ps (ps (ps (ps (ps (ps p8))))))))))))))) ?_)
                        refine wl (s_assign ec (dt p2) ?_)
                        refine wl (s_store ti26 (et d3) (et (ds (ds (ds (ds (ds (ds (ds (ds (ds (ds (ds (ds (ds (ds d8))))))))))))))) rfl rfl rfl hS d1 (Spl.s p0 (of_decide_eq_true rfl) (Spl.s p1 (of_decide_eq_true rfl) Spl.z)) rfl p1 dn ?_)
                        clear hS; intro w15_ hS
                        refine wnil ?_
                        refine xn ?_
                        refine cret ?_
                        refine (fun h => xr (br (xr (br (xr h))))) ?_
                        refine retN rfl (RVs.s (.t d2) (RVs.s (.a d3 ti26 (hS.blk d1).cells rfl) RVs.z)) ?_
                        first
                          | (rw [tokens_eq, if_pos (by omega)]; exact ⟨hS.keeps, rfl⟩)
                          | (rw [hr, hd, lx_bad hnb hnr (by rw [← hd]; exact ht)]; exact ⟨hS.keeps, rfl⟩)
                          | (rw [hr, List.drop_eq_nil_of_le (by omega)]; exact ⟨hS.keeps, _, rfl, by simp; omega, by simpa using hS.give d0 (B := Toks v ts) fun _ h => h⟩)
                      · have hsg : sign (l.drop i) = [c] := by rw [hd, sign_eq, if_neg (fun h => by rw [hb.2 h] at h11; cases h11), if_neg (fun h => by rw [hb2.2 h] at h12; cases h12)]
                        have ht : tok1 i (l.drop i) = .ok ⟨3, sign (l.drop i), 0, i⟩ := by rw [hd, tok1_sign hlt hdg, if_neg]; rw [← hd, hsg]; simp
                        have hsn : (l.take (i + 1)).drop i = sign (l.drop i) := by
                          have h3 := (tok1_len ht).2.2.1
                          simp only at h3
                          rw [hsg] at h3 ⊢
                          rw [List.drop_take, show i + 1 - i = 1 by omega]
                          exact h3.symm
                        refine cskip ?_
                        refine xn ?_
                        refine creg ?_
                        refine wl (s_move (et d4) (dt (ps (ps (ps (ps (ps (ps (ps (ps (ps (ps (ps (ps (ps (ps p9))))))))))))))) ?_)
                        refine wl (s_move (et d0) (dt (ps (ps (ps (ps (ps (ps (ps (ps (ps (ps (ps (ps (ps (ps (ps p0)))))))))))))))) ?_)
                        refine wl (s_move (et d6) (dt (ps (ps (ps (ps (ps (ps (ps (ps (ps (ps (ps (ps (ps (ps (ps p1)))))))))))))))) ?_)
                        refine wl (s_move (et d5) (dt (ps (ps (ps (ps (ps (ps (ps (ps (ps (ps (ps (ps (ps (ps (ps p2)))))))))))))))) ?_)
                        refine wl (s_cutsn Tryd.underlying9 (et (ds (ds (ds (ds (ds (ds (ds (ds (ds (ds (ds (ds (ds (ds (ds d0)))))))))))))))) (et (ds (ds (ds (ds (ds (ds (ds (ds (ds (ds (ds (ds (ds (ds (ds d1)))))))))))))))) (et (ds (ds (ds (ds (ds (ds (ds (ds (ds (ds (ds (ds (ds (ds (ds d2)))))))))))))))) (by omega) (dt (ps (ps (ps (ps (ps (ps (ps (ps (ps (ps (ps (ps (ps (ps (ps p3)))))))))))))))) ?_)
                        refine wl (s_move (et d6) (dt (ps (ps (ps (ps (ps (ps (ps (ps (ps (ps (ps (ps (ps (ps (ps p4)))))))))))))))) ?_)
                        refine wl (s_build ti30 pl30 (Fl.o rfl ec rfl rfl p0 (Fl.o rfl (et (ds (ds (ds (ds (ds (ds (ds (ds (ds (ds (ds (ds (ds (ds (ds d3)))))))))))))))) rfl rfl p1 (Fl.o rfl (et (ds (ds (ds (ds (ds (ds (ds (ds (ds (ds (ds (ds (ds (ds (ds d4)))))))))))))))) rfl rfl p3 Fl.z))) (dt (ps (ps (ps (ps (ps (ps (ps (ps (ps (ps (ps (ps (ps (ps (ps p5)))))))))))))))) ?_)
                        refine wl (s_bsl1 Tryd.underlying23 ti30 rfl (et (ds (ds (ds (ds (ds (ds (ds (ds (ds (ds (ds (ds (ds (ds (ds d5)))))))))))))))) rfl hS ?_)
                        clear hS; intro b16 w16_ hb16 hS
                        refine pu (dt (ps (ps (ps (ps (ps (ps (ps (ps (ps (ps (ps (ps (ps (ps (ps p6)))))))))))))))) ?_
                        refine wl (s_append Tryd.underlying23 ti30 rfl (et (ds (ds (ds (ds (ds (ds (ds (ds (ds (ds (ds (ds (ds (ds d9))))))))))))))) (et (ds (ds (ds (ds (ds (ds (ds (ds (ds (ds (ds (ds (ds (ds (ds d6)))))))))))))))) hS d1 ((hS.blk d0).cells) rfl rfl (by omega) ?_)
                        clear hS; intro v17 w17_ rs_ hp_ hS; cases (show _ = rs_ from hp_)
                        replace hS := Sep.reput hS p1
                        refine pu (dt (ps (ps (ps (ps (ps (ps (ps (ps (ps (ps (ps (ps (ps (ps (ps p7)))))))))))))))) ?_
                        replace hS := hS.drop Rm.z
                        refine wl (s_assign (et (ds (ds (ds (ds (ds (ds (ds (ds (ds (ds (ds (ds (ds (ds (ds d7)))))))))))))))) (dt p4) ?_)
                        refine wnil ?_
                        refine (fun h => bn (xl h)) ?_
                        first
                          | exact ⟨i + 1, ts, v, _, rfl, (Ag.k (Ag.k (Ag.o (Ag.k (Ag.i (Ag.i (Ag.o (Ag.o (Ag.o (Ag.k (Ag.k (Ag.k (Ag.k (Ag.o (Ag.o (Ag.o (Ag.o (Ag.o (Ag.o (Ag.o (Ag.o (Ag.o (Ag.o (Ag.o (Ag.o (Ag.o (Ag.o (Ag.o (Ag.o (Ag.o (Ag.o (Ag.o (Ag.o (Ag.o (Ag.o (Ag.o (Ag.o (Ag.o (Ag.o (Ag.o (Ag.o (Ag.o (Ag.o (Ag.o (Ag.o (Ag.o (Ag.o (Ag.o (Ag.o (Ag.o (Ag.o (Ag.o (Ag.o (Ag.o (Ag.o (Ag.o (Ag.o (Ag.o (Ag.o (Ag.o (Ag.o (Ag.o (Ag.o (Ag.o (Ag.o (Ag.o (Ag.o (Ag.o (Ag.o (Ag.o (Ag.o (Ag.o (Ag.o (Ag.o (Ag.o (Ag.o (Ag.o (Ag.o (Ag.o (Ag.o (Ag.o (Ag.o (Ag.o (Ag.o (Ag.o (Ag.o (Ag.o (Ag.o (Ag.o (Ag.o (Ag.o (Ag.o (Ag.o (Ag.o (Ag.o (Ag.o (Ag.o (Ag.o (Ag.o (Ag.o (Ag.o (Ag.o (Ag.o (Ag.o (Ag.o (Ag.o (Ag.o (Ag.o (Ag.o (Ag.o (Ag.o (Ag.o (Ag.o (Ag.o (Ag.o (Ag.o (Ag.o (Ag.o (Ag.o (Ag.o (Ag.o (Ag.o (Ag.o (Ag.o (Ag.o (Ag.o (Ag.o (Ag.o (Ag.o (Ag.o (Ag.o (Ag.o (Ag.o (Ag.o (Ag.o (Ag.o (Ag.o (Ag.o (Ag.o (Ag.o (Ag.o (Ag.o (Ag.o (Ag.o (Ag.o (Ag.o (Ag.o (Ag.o (Ag.o (Ag.o (Ag.o (Ag.o (Ag.o (Ag.o (Ag.o (Ag.o (Ag.o (Ag.o Ag.z)))))))))))))))))))))))))))))))))))))))))))))))))))))))))))))))))))))))))))))))))))))))))))))))))))))))))))))))))))))))))))))))))))))))))))))))))))))))))))))), ⟨by omega, by omega, by rw [hr, hd, lx_blank hbl], hS⟩, by omega⟩
                          | exact ⟨j, ts, v, _, rfl, (Ag.k (Ag.k (Ag.o (Ag.k (Ag.i (Ag.i (Ag.o (Ag.o (Ag.o (Ag.k (Ag.k (Ag.k (Ag.k (Ag.o (Ag.o (Ag.o (Ag.o (Ag.o (Ag.o (Ag.o (Ag.o (Ag.o (Ag.o (Ag.o (Ag.o (Ag.o (Ag.o (Ag.o (Ag.o (Ag.o (Ag.o (Ag.o (Ag.o (Ag.o (Ag.o (Ag.o (Ag.o (Ag.o (Ag.o (Ag.o (Ag.o (Ag.o (Ag.o (Ag.o (Ag.o (Ag.o (Ag.o (Ag.o (Ag.o (Ag.o (Ag.o (Ag.o (Ag.o (Ag.o (Ag.o (Ag.o (Ag.o (Ag.o (Ag.o (Ag.o (Ag.o (Ag.o (Ag.o (Ag.o (Ag.o (Ag.o (Ag.o (Ag.o (Ag.o (Ag.o (Ag.o (Ag.o (Ag.o (Ag.o (Ag.o (Ag.o (Ag.o (Ag.o (Ag.o (Ag.o (Ag.o (Ag.o (Ag.o (Ag.o (Ag.o (Ag.o (Ag.o (Ag.o (Ag.o (Ag.o (Ag.o (Ag.o (Ag.o (Ag.o (Ag.o (Ag.o (Ag.o (Ag.o (Ag.o (Ag.o (Ag.o (Ag.o (Ag.o (Ag.o (Ag.o (Ag.o (Ag.o (Ag.o (Ag.o (Ag.o (Ag.o (Ag.o (Ag.o (Ag.o (Ag.o (Ag.o (Ag.o (Ag.o (Ag.o (Ag.o (Ag.o (Ag.o (Ag.o (Ag.o (Ag.o (Ag.o (Ag.o (Ag.o (Ag.o (Ag.o (Ag.o (Ag.o (Ag.o (Ag.o (Ag.o (Ag.o (Ag.o (Ag.o (Ag.o (Ag.o (Ag.o (Ag.o (Ag.o (Ag.o (Ag.o (Ag.o (Ag.o (Ag.o (Ag.o (Ag.o (Ag.o (Ag.o (Ag.o (Ag.o (Ag.o (Ag.o (Ag.o (Ag.o Ag.z)))))))))))))))))))))))))))))))))))))))))))))))))))))))))))))))))))))))))))))))))))))))))))))))))))))))))))))))))))))))))))))))))))))))))))))))))))))))))))))), ⟨by omega, by omega, by rw [hr]; rw [hd, lx_rem hrm, ← hd, hjn, List.drop_drop, show i + (j - i) = j by omega], hS⟩, by omega⟩
                          | exact ⟨_, _, _, _, rfl, (Ag.k (Ag.k (Ag.o (Ag.k (Ag.i (Ag.i (Ag.o (Ag.o (Ag.o (Ag.k (Ag.k (Ag.k (Ag.k (Ag.o (Ag.o (Ag.o (Ag.o (Ag.o (Ag.o (Ag.o (Ag.o (Ag.o (Ag.o (Ag.o (Ag.o (Ag.o (Ag.o (Ag.o (Ag.o (Ag.o (Ag.o (Ag.o (Ag.o (Ag.o (Ag.o (Ag.o (Ag.o (Ag.o (Ag.o (Ag.o (Ag.o (Ag.o (Ag.o (Ag.o (Ag.o (Ag.o (Ag.o (Ag.o (Ag.o (Ag.o (Ag.o (Ag.o (Ag.o (Ag.o (Ag.o (Ag.o (Ag.o (Ag.o (Ag.o (Ag.o (Ag.o (Ag.o (Ag.o (Ag.o (Ag.o (Ag.o (Ag.o (Ag.o (Ag.o (Ag.o (Ag.o (Ag.o (Ag.o (Ag.o (Ag.o (Ag.o (Ag.o (Ag.o (Ag.o (Ag.o (Ag.o (Ag.o (Ag.o (Ag.o (Ag.o (Ag.o (Ag.o (Ag.o (Ag.o (Ag.o (Ag.o (Ag.o (Ag.o (Ag.o (Ag.o (Ag.o (Ag.o (Ag.o (Ag.o (Ag.o (Ag.o (Ag.o (Ag.o (Ag.o (Ag.o (Ag.o (Ag.o (Ag.o (Ag.o (Ag.o (Ag.o (Ag.o (Ag.o (Ag.o (Ag.o (Ag.o (Ag.o (Ag.o (Ag.o (Ag.o (Ag.o (Ag.o (Ag.o (Ag.o (Ag.o (Ag.o (Ag.o (Ag.o (Ag.o (Ag.o (Ag.o (Ag.o (Ag.o (Ag.o (Ag.o (Ag.o (Ag.o (Ag.o (Ag.o (Ag.o (Ag.o (Ag.o (Ag.o (Ag.o (Ag.o (Ag.o (Ag.o (Ag.o (Ag.o (Ag.o (Ag.o (Ag.o (Ag.o (Ag.o (Ag.o (Ag.o (Ag.o (Ag.o Ag.z)))))))))))))))))))))))))))))))))))))))))))))))))))))))))))))))))))))))))))))))))))))))))))))))))))))))))))))))))))))))))))))))))))))))))))))))))))))))))))))), fin _ _ _ _ _ ht (by simp only [hjn]; omega) (by rw [List.drop_take]; simp only [cells, ← hjn, tw_take]; first | rfl | (rw [hzz]; rfl)) hnb hnr hS⟩
                          | exact ⟨_, _, _, _, rfl, (Ag.k (Ag.k (Ag.o (Ag.k (Ag.i (Ag.i (Ag.o (Ag.o (Ag.o (Ag.k (Ag.k (Ag.k (Ag.k (Ag.o (Ag.o (Ag.o (Ag.o (Ag.o (Ag.o (Ag.o (Ag.o (Ag.o (Ag.o (Ag.o (Ag.o (Ag.o (Ag.o (Ag.o (Ag.o (Ag.o (Ag.o (Ag.o (Ag.o (Ag.o (Ag.o (Ag.o (Ag.o (Ag.o (Ag.o (Ag.o (Ag.o (Ag.o (Ag.o (Ag.o (Ag.o (Ag.o (Ag.o (Ag.o (Ag.o (Ag.o (Ag.o (Ag.o (Ag.o (Ag.o (Ag.o (Ag.o (Ag.o (Ag.o (Ag.o (Ag.o (Ag.o (Ag.o (Ag.o (Ag.o (Ag.o (Ag.o (Ag.o (Ag.o (Ag.o (Ag.o (Ag.o (Ag.o (Ag.o (Ag.o (Ag.o (Ag.o (Ag.o (Ag.o (Ag.o (Ag.o (Ag.o (Ag.o (Ag.o (Ag.o (Ag.o (Ag.o (Ag.o (Ag.o (Ag.o (Ag.o (Ag.o (Ag.o (Ag.o (Ag.o (Ag.o (Ag.o (Ag.o (Ag.o (Ag.o (Ag.o (Ag.o (Ag.o (Ag.o (Ag.o (Ag.o (Ag.o (Ag.o (Ag.o (Ag.o (Ag.o (Ag.o (Ag.o (Ag.o (Ag.o (Ag.o (Ag.o (Ag.o (Ag.o (Ag.o (Ag.o (Ag.o (Ag.o (Ag.o (Ag.o (Ag.o (Ag.o (Ag.o (Ag.o (Ag.o (Ag.o (Ag.o (Ag.o (Ag.o (Ag.o (Ag.o (Ag.o (Ag.o (Ag.o (Ag.o (Ag.o (Ag.o (Ag.o (Ag.o (Ag.o (Ag.o (Ag.o (Ag.o (Ag.o (Ag.o (Ag.o (Ag.o (Ag.o (Ag.o (Ag.o (Ag.o (Ag.o (Ag.o (Ag.o Ag.z)))))))))))))))))))))))))))))))))))))))))))))))))))))))))))))))))))))))))))))))))))))))))))))))))))))))))))))))))))))))))))))))))))))))))))))))))))))))))))))), fin _ _ _ _ _ ht (by rw [hsg]; rfl) (by simp only [cells, hsn]; rfl) hnb hnr hS⟩
      · refine cexit ?_
        refine (fun h => xe (xe (bh h))) ?_
        refine xn ?_
        refine cseq ?_
        refine creg ?_
        refine wl (s_move (et d4) (dt (ps (ps (ps (ps (ps (ps (ps (ps (ps (ps (ps (ps (ps (ps (ps p8)))))))))))))))) ?_)
        refine wl (s_build ti26 pl26 Fl.z (dt (ps (ps (ps (ps (ps (ps (ps (ps (ps (ps (ps (ps (ps (ps (ps p9)))))))))))))))) ?_)
        refine wl (s_assign (et (ds (ds (ds (ds (ds (ds (ds (ds (ds (ds (ds (ds (ds (ds (ds d8)))))))))))))))) (dt p2) ?_)
        refine wl (s_store ti26 (et d3) (et (ds (ds (ds (ds (ds (ds (ds (ds (ds (ds (ds (ds (ds (ds (ds d9)))))))))))))))) rfl rfl rfl hS d1 (Spl.s p0 (of_decide_eq_true rfl) (Spl.s p1 (of_decide_eq_true rfl) Spl.z)) rfl p1 dn ?_)
        clear hS; intro w18_ hS
        refine wnil ?_
        refine xn ?_
        refine cret ?_
        refine retN rfl (RVs.s (.t d2) (RVs.s (.a d3 ti26 (hS.blk d1).cells rfl) RVs.z)) ?_
        first
          | (rw [tokens_eq, if_pos (by omega)]; exact ⟨hS.keeps, rfl⟩)
          | (rw [hr, hd, lx_bad hnb hnr (by rw [← hd]; exact ht)]; exact ⟨hS.keeps, rfl⟩)
          | (rw [hr, List.drop_eq_nil_of_le (by omega)]; exact ⟨hS.keeps, _, rfl, by simp; omega, by simpa using hS.give d0 (B := Toks v ts) fun _ h => h⟩)

theorem refTokens_u (l : List UInt8) (hl : l.length ≤ 140737488355328) (w0 : World) :
    CallsV Tryd.prog 8 [S l] w0 fun v w => Grow w0 w ∧ ∃ u, v = .tuple #[u, .agg #[.int .i64 (tkE l : Nat), .int .i64 (tkP l : Nat)]] ∧ Rob (fun b => w0.heap.size ≤ b) w (Toks u (tks l)) ∧ (tks l).length ≤ l.length := by
  refine (refTokens_c l hl w0).mono fun v w h => ?_
  have hv := h.2
  refine ⟨h.1, ?_⟩
  unfold tkE tkP tks
  cases ht : tokens l with
  | ok ts =>
    rw [ht] at hv
    obtain ⟨u, rfl, h1, h2⟩ := hv
    exact ⟨u, rfl, h2, h1⟩
  | error e =>
    rw [ht] at hv
    exact ⟨_, hv, fun w' _ _ => (show Row w' (.slice none 0 0) _ 4 0 [] from ⟨rfl, .inl ⟨rfl, rfl⟩⟩), Nat.zero_le _⟩
def Gl (w : World) : Prop := ∃ m, w.cell? ⟨2, 0, none⟩ = some (.int .i64 m)
theorem gl_rob {w : World} (h : Gl w) : Rob (fun b => b = 2) w Gl := fun w' _ h2 => by
  obtain ⟨m, hm⟩ := h
  refine ⟨m, ?_⟩
  have hb : 2 < w.heap.size := by
    rcases Nat.lt_or_ge 2 w.heap.size with h | h
    · exact h
    · simp [World.cell?, Array.getElem?_eq_none h] at hm
  have := h2 2 hb rfl
  unfold World.cell? at hm ⊢
  rw [show w'.heap[({ block := 2, off := 0 } : Addr).block]? = w.heap[2]? from this]
  exact hm

theorem LexTells_c (l : List UInt8) (hl : l.length ≤ 140737488355328) (w0 : World) (hg0 : Gl w0) : CallsV Tryd.prog 5 [S l] w0 fun v w => v = .bool true ∧ Grow w0 w := by
  have hS : Sep (fun _ => True) (fun b => b = 2) w0 w0 [] Gl := Sep.start w0 _ _ (gl_rob hg0)
  refine enter Tryd.func5 rfl (frm := [_, _, _, _, _, _, _, _, _, _, _, _, _, _, _, _, _, _, _, _, _, _, _, _, _, _, _, _, _, _, _, _]) rfl ?_
  refine cseq ?_
  refine creg ?_
  refine wl (s_assign ec (dt p2) ?_)
  refine wnil ?_
  refine xn ?_
  refine cseq ?_
  refine creg ?_
  refine wl (s_move (et d0) (dt p8) ?_)
  refine wl (s_callv isfn7 ef (e1 (et d8) e0) (Tokens_u _ hl _) ?_)
  rintro _ w ⟨hg, u1, rfl, hR1, hn1⟩
  have hl1 := hR1.now.isSl
  replace hS := hS.growNew hg hR1
  refine pu (dt p9) ?_
  refine wl (s_move (et d9) (dt p7) ?_)
  refine wl (s_extr (et d7) d0 (dt (ps p0)) ?_)
  refine wl (s_extr (et d7) d1 (dt (ps p1)) ?_)
  refine wl (s_alloc ti26 hS ?_)
  clear hS; intro b1 w1_ hb1 hS
  refine pu (dt p4) ?_
  refine wl (s_assign (et (ds d0)) (dt p3) ?_)
  refine wl (s_store ti26 (et d4) (et (ds d1)) rfl rfl rfl hS d0 (Spl.s p0 (of_decide_eq_true rfl) (Spl.s p1 (of_decide_eq_true rfl) Spl.z)) rfl p0 dn ?_)
  clear hS; intro w2_ hS
  refine wnil ?_
  refine xn ?_
  refine cseq ?_
  refine creg ?_
  refine wl (s_move (et d0) (dt (ps p3)) ?_)
  refine wl (s_callv isfn8 ef (e1 (et (ds d3)) e0) (refTokens_u _ hl _) ?_)
  rintro _ w ⟨hg, u2, rfl, hR2, hn2⟩
  have hl2 := hR2.now.isSl
  replace hS := hS.growNew hg hR2
  refine pu (dt (ps p4)) ?_
  refine wl (s_move (et (ds d4)) (dt (ps p2)) ?_)
  refine wl (s_extr (et (ds d2)) d0 (dt (ps p5)) ?_)
  refine wl (s_extr (et (ds d2)) d1 (dt (ps p6)) ?_)
  refine wl (s_alloc ti26 hS ?_)
  clear hS; intro b3 w3_ hb3 hS
  refine pu (dt p6) ?_
  refine wl (s_assign (et (ds d5)) (dt p5) ?_)
  refine wl (s_store ti26 (et d6) (et (ds d6)) rfl rfl rfl hS d0 (Spl.s p0 (of_decide_eq_true rfl) (Spl.s p1 (of_decide_eq_true rfl) Spl.z)) rfl p0 dn ?_)
  clear hS; intro w4_ hS
  refine wnil ?_
  refine xn ?_
  refine cseq ?_
  refine creg ?_
  refine wl (s_loads ti26 (et d4) ((hS.blk d1).cells) rfl (dt (ps p7)) ?_)
  refine wl (s_loads ti26 (et d6) ((hS.blk d0).cells) rfl (dt (ps p8)) ?_)
  refine wl (s_eqa (ES.mk Tryd.underlying26 eh26 eg26) (et (ds d7)) (et (ds d8)) (EqFs.o rfl rfl rfl ti24 d0 d0 (eq_int Tryd.underlying24) (EqFs.o rfl rfl rfl ti3 d1 d1 (eq_int Tryd.underlying3) EqFs.z)) rfl (dt (ps p9)) ?_)
  refine wl (s_move (et (ds d9)) (dt (ps (ps p0))) ?_)
  refine wsp (ds (ds d0)) (ps (ps p0)) (ps (ps p0)) (fun g3_3 => ?_) (fun g3_3 => ?_)
  · refine wy rfl (ds (ds d0)) (s_move (et d3) (dt (ps (ps p1))) ?_)
    refine wy rfl (ds (ds d0)) (s_move (et d5) (dt (ps (ps p2))) ?_)
    refine wy rfl (ds (ds d0)) (s_callv isfn9 ef (e1 (et (ds (ds d1))) (e1 (et (ds (ds d2))) e0)) (Same_c u1 u2 (tks l) (by omega) _ ((hS.imm.imp fun _ h => h.1.2).mono fun _ _ _ => trivial) ((hS.imm.imp fun _ h => h.2).mono fun _ _ _ => trivial)) ?_)
    rintro _ w ⟨rfl, hg⟩; replace hS := hS.grow hg
    refine pu (dt (ps (ps p3))) ?_
    refine wl (s_pickt (et (ds (ds d0))) (et (ds (ds d3))) (dt (ps (ps p4))) ?_)
    refine wl (s_move (et (ds (ds d4))) (dt (ps (ps p5))) ?_)
    refine wsp (ds (ds d5)) (ps (ps p5)) (ps (ps p5)) (fun g3_8 => ?_) (fun g3_8 => ?_)
    · refine wy rfl (ds (ds d5)) (s_move (et d0) (dt (ps (ps p6))) ?_)
      refine wy rfl (ds (ds d5)) (s_callv isfn10 ef (e1 (et (ds (ds d6))) e0) (Named_c _ hl _ hS.a.1.1) ?_)
      rintro _ w ⟨rfl, rfl⟩
      refine pu (dt (ps (ps p7))) ?_
      refine wy rfl (ds (ds d5)) (s_move (et d0) (dt (ps (ps p8))) ?_)
      refine wy rfl (ds (ds d5)) (s_callv isfn11 ef (e1 (et (ds (ds d8))) e0) (refNamed_c _ hl _) ?_)
      rintro _ w ⟨rfl, hg⟩; replace hS := hS.grow hg
      refine pu (dt (ps (ps p9))) ?_
      refine wy rfl (ds (ds d5)) (s_eqb Tryd.underlying4 (et (ds (ds d7))) (et (ds (ds d9))) (dt (ps (ps (ps p0)))) ?_)
      refine wl (s_pickt (et (ds (ds d5))) (et (ds (ds (ds d0)))) (dt (ps (ps (ps p1)))) ?_)
      refine wl (s_assign (et (ds (ds (ds d1)))) (dt p2) ?_)
      refine wnil ?_
      refine xn ?_
      refine cret ?_
      refine ret1 rfl d2 ?_
      exact ⟨by simp, hS.keeps⟩
    · cases g3_8
  · exfalso; simp [andL] at g3_3

end Go.Proofs.YtjbmnfilgedebaaDoor
