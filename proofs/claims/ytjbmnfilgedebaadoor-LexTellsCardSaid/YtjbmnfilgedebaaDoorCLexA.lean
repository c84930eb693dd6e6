/- Contracts of the package lex: what its small functions answer. -/
import Derived.Test.YtjbmnfilgedebaaDoorCLx
import Derived.Test.YtjbmnfilgedebaaDoorCFns
set_option linter.unusedSimpArgs false
set_option linter.unusedVariables false
namespace Go.Proofs.YtjbmnfilgedebaaDoor
open Go.Wk Go.Lx

theorem letter_c (c : UInt8) : CallsP Tryd.prog 13 [.int .u8 c.toNat] (.bool (letterB c)) := by
  intro w
  refine enter Tryd.func13 rfl (frm := [_, _, _, _, _, _, _, _, _, _, _, _, _]) rfl ?_
  refine cseq ?_
  refine creg ?_
  refine wl (s_assign ec (dt p2) ?_)
  refine wnil ?_
  refine xn ?_
  refine cseq ?_
  refine creg ?_
  refine wl (s_move (et d0) (dt p3) ?_)
  refine wl (s_geq (et d3) ec (dt p4) ?_)
  refine wl (s_move (et d4) (dt p5) ?_)
  refine wspd d5 p5 p5 (fun g1_2 => ?_) (fun g1_2 => ?_)
  · refine wy rfl d5 (s_move (et d0) (dt p6) ?_)
    refine wy rfl d5 (s_leq (et d6) ec (dt p7) ?_)
    refine wl (s_pickt (et d5) (et d7) (dt p8) ?_)
    refine wl (s_move (et d8) (dt p9) ?_)
    refine wspd d9 p9 p9 (fun g1_6 => ?_) (fun g1_6 => ?_)
    · refine wn rfl d9 rfl (dt (ps p0)) ?_
      refine wn rfl d9 rfl (dt (ps p1)) ?_
      refine wl (s_pickt (et d9) ec (dt (ps p2)) ?_)
      refine wl (s_assign (et (ds d2)) (dt p2) ?_)
      refine wnil ?_
      refine xn ?_
      refine cret ?_
      refine ret1 rfl d2 ?_
      refine ⟨?_, rfl⟩; congr 1; unfold letterB; rw [Bool.eq_iff_iff]; simp; omega
    · refine wy rfl d9 (s_move (et d0) (dt (ps p0)) ?_)
      refine wy rfl d9 (s_eqi (et (ds d0)) ec (dt (ps p1)) ?_)
      refine wl (s_pickf (et d9) (et (ds d1)) (dt (ps p2)) ?_)
      refine wl (s_assign (et (ds d2)) (dt p2) ?_)
      refine wnil ?_
      refine xn ?_
      refine cret ?_
      refine ret1 rfl d2 ?_
      refine ⟨?_, rfl⟩; congr 1; unfold letterB; rw [Bool.eq_iff_iff]; simp; omega
  · refine wn rfl d5 rfl (dt p6) ?_
    refine wn rfl d5 rfl (dt p7) ?_
    refine wl (s_pickf (et d5) ec (dt p8) ?_)
    refine wl (s_move (et d8) (dt p9) ?_)
    refine wy rfl d9 (s_move (et d0) (dt (ps p0)) ?_)
    refine wy rfl d9 (s_eqi (et (ds d0)) ec (dt (ps p1)) ?_)
    refine wl (s_pickf (et d9) (et (ds d1)) (dt (ps p2)) ?_)
    refine wl (s_assign (et (ds d2)) (dt p2) ?_)
    refine wnil ?_
    refine xn ?_
    refine cret ?_
    refine ret1 rfl d2 ?_
    refine ⟨?_, rfl⟩; congr 1; unfold letterB; rw [Bool.eq_iff_iff]; simp; omega

theorem digit_c (c : UInt8) : CallsP Tryd.prog 16 [.int .u8 c.toNat] (.bool (digitB c)) := by
  intro w
  refine enter Tryd.func16 rfl (frm := [_, _, _, _, _, _, _, _, _]) rfl ?_
  refine cseq ?_
  refine creg ?_
  refine wl (s_assign ec (dt p2) ?_)
  refine wnil ?_
  refine xn ?_
  refine cseq ?_
  refine creg ?_
  refine wl (s_move (et d0) (dt p3) ?_)
  refine wl (s_geq (et d3) ec (dt p4) ?_)
  refine wl (s_move (et d4) (dt p5) ?_)
  refine wspd d5 p5 p5 (fun g1_2 => ?_) (fun g1_2 => ?_)
  · refine wy rfl d5 (s_move (et d0) (dt p6) ?_)
    refine wy rfl d5 (s_leq (et d6) ec (dt p7) ?_)
    refine wl (s_pickt (et d5) (et d7) (dt p8) ?_)
    refine wl (s_assign (et d8) (dt p2) ?_)
    refine wnil ?_
    refine xn ?_
    refine cret ?_
    refine ret1 rfl d2 ?_
    refine ⟨?_, rfl⟩; congr 1; unfold digitB; rw [Bool.eq_iff_iff]; simp; omega
  · refine wn rfl d5 rfl (dt p6) ?_
    refine wn rfl d5 rfl (dt p7) ?_
    refine wl (s_pickf (et d5) ec (dt p8) ?_)
    refine wl (s_assign (et d8) (dt p2) ?_)
    refine wnil ?_
    refine xn ?_
    refine cret ?_
    refine ret1 rfl d2 ?_
    refine ⟨?_, rfl⟩; congr 1; unfold digitB; rw [Bool.eq_iff_iff]; simp; omega

theorem Tokens1_c (c : UInt8) : CallsP Tryd.prog 15 [.int .u8 c.toNat] (.bool (wordB c)) := by
  intro w
  refine enter Tryd.func15 rfl (frm := [_, _, _, _, _, _, _, _, _]) rfl ?_
  refine cseq ?_
  refine creg ?_
  refine wl (s_assign ec (dt p2) ?_)
  refine wnil ?_
  refine xn ?_
  refine cseq ?_
  refine creg ?_
  refine wl (s_move (et d0) (dt p3) ?_)
  refine wl (s_callp isfn13 ef (e1 (et d3) e0) (letter_c _) (dt p4) ?_)
  refine wl (s_move (et d4) (dt p5) ?_)
  refine wsp d5 p5 p5 (fun g1_2 => ?_) (fun g1_2 => ?_)
  · refine wn rfl d5 rfl (dt p6) ?_
    refine wn rfl d5 rfl (dt p7) ?_
    refine wl (s_pickt (et d5) ec (dt p8) ?_)
    refine wl (s_assign (et d8) (dt p2) ?_)
    refine wnil ?_
    refine xn ?_
    refine cret ?_
    refine ret1 rfl d2 ?_
    refine ⟨?_, rfl⟩; simp [wordB, *]
  · refine wy rfl d5 (s_move (et d0) (dt p6) ?_)
    refine wy rfl d5 (s_callp isfn16 ef (e1 (et d6) e0) (digit_c _) (dt p7) ?_)
    refine wl (s_pickf (et d5) (et d7) (dt p8) ?_)
    refine wl (s_assign (et d8) (dt p2) ?_)
    refine wnil ?_
    refine xn ?_
    refine cret ?_
    refine ret1 rfl d2 ?_
    refine ⟨?_, rfl⟩; simp [wordB, *]

theorem Named1_c (c : UInt8) : CallsP Tryd.prog 22 [.int .u8 c.toNat] (.bool (wordB c)) := by
  intro w
  refine enter Tryd.func22 rfl (frm := [_, _, _, _, _, _, _, _, _]) rfl ?_
  refine cseq ?_
  refine creg ?_
  refine wl (s_assign ec (dt p2) ?_)
  refine wnil ?_
  refine xn ?_
  refine cseq ?_
  refine creg ?_
  refine wl (s_move (et d0) (dt p3) ?_)
  refine wl (s_callp isfn13 ef (e1 (et d3) e0) (letter_c _) (dt p4) ?_)
  refine wl (s_move (et d4) (dt p5) ?_)
  refine wsp d5 p5 p5 (fun g1_2 => ?_) (fun g1_2 => ?_)
  · refine wn rfl d5 rfl (dt p6) ?_
    refine wn rfl d5 rfl (dt p7) ?_
    refine wl (s_pickt (et d5) ec (dt p8) ?_)
    refine wl (s_assign (et d8) (dt p2) ?_)
    refine wnil ?_
    refine xn ?_
    refine cret ?_
    refine ret1 rfl d2 ?_
    refine ⟨?_, rfl⟩; simp [wordB, *]
  · refine wy rfl d5 (s_move (et d0) (dt p6) ?_)
    refine wy rfl d5 (s_callp isfn16 ef (e1 (et d6) e0) (digit_c _) (dt p7) ?_)
    refine wl (s_pickf (et d5) (et d7) (dt p8) ?_)
    refine wl (s_assign (et d8) (dt p2) ?_)
    refine wnil ?_
    refine xn ?_
    refine cret ?_
    refine ret1 rfl d2 ?_
    refine ⟨?_, rfl⟩; simp [wordB, *]

theorem space1_c (c : UInt8) : CallsP Tryd.prog 24 [.int .u8 c.toNat] (.bool (lineB c)) := by
  intro w
  refine enter Tryd.func24 rfl (frm := [_, _, _, _, _]) rfl ?_
  refine cseq ?_
  refine creg ?_
  refine wl (s_assign ec (dt p2) ?_)
  refine wnil ?_
  refine xn ?_
  refine cseq ?_
  refine creg ?_
  refine wl (s_move (et d0) (dt p3) ?_)
  refine wl (s_nei (et d3) ec (dt p4) ?_)
  refine wl (s_assign (et d4) (dt p2) ?_)
  refine wnil ?_
  refine xn ?_
  refine cret ?_
  refine ret1 rfl d2 ?_
  refine ⟨?_, rfl⟩; congr 1; unfold lineB; rw [Bool.eq_iff_iff]; simp; omega

theorem while_c (K : Nat) (p : UInt8 → Bool) (l : List UInt8) (hl : l.length ≤ 9223372036854775807) (hK : IsFn Tryd.prog K) (hp : ∀ (c : UInt8), CallsP Tryd.prog K [.int .u8 c.toNat] (.bool (p c))) :
        CallsP Tryd.prog 14 [S l, .func (.func K) #[] #[]] (.int .i64 (l.takeWhile p).length) := by
  intro w0
  refine enter Tryd.func14 rfl (frm := [_, _, _, _, _, _, _, _, _, _, _, _, _, _, _, _, _, _, _, _]) rfl ?_
  refine cseq ?_
  refine creg ?_
  refine wl (s_assign ec (dt p4) ?_)
  refine wnil ?_
  refine xn ?_
  refine cseq ?_
  refine creg ?_
  refine wl (s_assign ec (dt p5) ?_)
  refine wnil ?_
  refine xn ?_
  refine cseq ?_
  refine cblock ?_
  refine cloop [6, 7, 8, 9, 10, 11, 12, 13, 14, 15, 16, 17, 18] (by decide) (fun (k : Nat) => [.k, .k, .k, .k, .k, .i (.int .i64 k), .o 6, .o 7, .o 8, .o 9, .o 10, .o 11, .o 12, .o 13, .o 14, .o 15, .o 16, .o 17, .o 18]) (fun _ => rfl) (fun (k : Nat) (w : World) => w = w0 ∧ k ≤ l.length ∧ (l.take k).all p = true) (fun (k : Nat) (w : World) => l.length - k) 0 (Ag.k (Ag.k (Ag.k (Ag.k (Ag.k (Ag.i (Ag.o (Ag.o (Ag.o (Ag.o (Ag.o (Ag.o (Ag.o (Ag.o (Ag.o (Ag.o (Ag.o (Ag.o (Ag.o Ag.z))))))))))))))))))) ?_ ?_
  · exact ⟨rfl, Nat.zero_le _, by simp⟩
  · rintro k t18 w hJ
    obtain ⟨rfl, hk, ha⟩ := hJ
    refine cnrm (mk (mk (mk (mk (mk (mi (mo (mo (mo (mo (mo (mo (mo (mo (mo (mo (mo (mo (mo mz))))))))))))))))))) ?_
    refine cseq ?_
    refine cseq ?_
    refine creg ?_
    refine wl (s_move (et d5) (dt p6) ?_)
    refine wl (s_move (et d0) (dt p7) ?_)
    refine wl (s_lens Tryd.underlying9 (et d7) (dt p8) ?_)
    refine wl (s_lss (et d6) (et d8) (dt p9) ?_)
    refine wl (s_move (et d9) (dt (ps p0)) ?_)
    refine wspd (ds d0) (ps p0) (ps p0) (fun g2_4 => ?_) (fun g2_4 => ?_)
    · obtain ⟨c, hc⟩ : ∃ c, l[k]? = some c := ⟨_, List.getElem?_eq_getElem (by omega)⟩
      refine wy rfl (ds d0) (s_move (et d1) (dt (ps p1)) ?_)
      refine wy rfl (ds d0) (s_move (et d0) (dt (ps p2)) ?_)
      refine wy rfl (ds d0) (s_move (et d5) (dt (ps p3)) ?_)
      refine wy rfl (ds d0) (s_idxsn Tryd.underlying9 (et (ds d2)) (et (ds d3)) (by assumption) (dt (ps p4)) ?_)
      refine wy rfl (ds d0) (s_callp hK (et (ds d1)) (e1 (et (ds d4)) e0) (hp c) (dt (ps p5)) ?_)
      refine wl (s_pickt (et (ds d0)) (et (ds d5)) (dt (ps p6)) ?_)
      refine wnil ?_
      refine xn ?_
      refine cif (et (ds d6)) (fun g2_4 => ?_) (fun g2_4 => ?_)
      · refine cskip ?_
        refine xn ?_
        refine cblock ?_
        refine creg ?_
        refine wl (s_move (et d5) (dt (ps p7)) ?_)
        refine wl (s_addn (b := 1) (et (ds d7)) ec (by omega) (dt (ps p8)) ?_)
        refine wl (s_assign (et (ds d8)) (dt p5) ?_)
        refine wnil ?_
        refine (fun h => bn (xl h)) ?_
        exact ⟨k + 1, _, rfl, (Ag.k (Ag.k (Ag.k (Ag.k (Ag.k (Ag.i (Ag.o (Ag.o (Ag.o (Ag.o (Ag.o (Ag.o (Ag.o (Ag.o (Ag.o (Ag.o (Ag.o (Ag.o (Ag.o Ag.z))))))))))))))))))), ⟨rfl, by omega, all_snoc ha hc g2_4⟩, by omega⟩
      · refine cexit ?_
        refine (fun h => xe (xe (bh h))) ?_
        refine xn ?_
        refine cseq ?_
        refine creg ?_
        refine wl (s_move (et d5) (dt (ps p9)) ?_)
        refine wl (s_assign (et (ds d9)) (dt p4) ?_)
        refine wnil ?_
        refine xn ?_
        refine cret ?_
        refine ret1 rfl d4 ?_
        refine ⟨?_, rfl⟩
        first
          | (rw [tw_lt ha hc g2_4]; done)
          | (rw [tw_all (by rw [List.take_of_length_le (by omega)] at ha; exact ha)]; congr 2; omega)
    · refine wn rfl (ds d0) rfl (dt (ps p1)) ?_
      refine wn rfl (ds d0) rfl (dt (ps p2)) ?_
      refine wn rfl (ds d0) rfl (dt (ps p3)) ?_
      refine wn rfl (ds d0) rfl (dt (ps p4)) ?_
      refine wn rfl (ds d0) rfl (dt (ps p5)) ?_
      refine wl (s_pickf (et (ds d0)) ec (dt (ps p6)) ?_)
      refine wnil ?_
      refine xn ?_
      refine ciff (et (ds d6)) ?_
      refine cexit ?_
      refine (fun h => xe (xe (bh h))) ?_
      refine xn ?_
      refine cseq ?_
      refine creg ?_
      refine wl (s_move (et d5) (dt (ps p9)) ?_)
      refine wl (s_assign (et (ds d9)) (dt p4) ?_)
      refine wnil ?_
      refine xn ?_
      refine cret ?_
      refine ret1 rfl d4 ?_
      refine ⟨?_, rfl⟩
      first
        | (rw [tw_lt ha hc g2_4]; done)
        | (rw [tw_all (by rw [List.take_of_length_le (by omega)] at ha; exact ha)]; congr 2; omega)

theorem space_c (l : List UInt8) (hl : l.length ≤ 9223372036854775807) :
        CallsP Tryd.prog 12 [S l] (.int .i64 (space l)) := by
  intro w0
  refine enter Tryd.func12 rfl (frm := [_, _, _, _, _, _, _, _, _, _, _, _, _, _, _, _, _, _, _, _, _, _, _, _, _, _, _]) rfl ?_
  refine cseq ?_
  refine creg ?_
  refine wl (s_assign ec (dt p2) ?_)
  refine wnil ?_
  refine xn ?_
  refine cseq ?_
  refine creg ?_
  refine wl (s_assign ec (dt p3) ?_)
  refine wnil ?_
  refine xn ?_
  refine cseq ?_
  refine cblock ?_
  refine cloop [2, 4, 5, 6, 7, 8, 9, 10, 11, 12, 13, 14, 15, 16, 17, 18, 19, 20, 21, 22, 23, 24, 25] (by decide) (fun (k : Nat) => [.k, .k, .o 2, .i (.int .i64 k), .o 4, .o 5, .o 6, .o 7, .o 8, .o 9, .o 10, .o 11, .o 12, .o 13, .o 14, .o 15, .o 16, .o 17, .o 18, .o 19, .o 20, .o 21, .o 22, .o 23, .o 24, .o 25]) (fun _ => rfl) (fun (k : Nat) (w : World) => w = w0 ∧ k ≤ l.length ∧ space l = k + space (l.drop k)) (fun (k : Nat) (w : World) => l.length - k) 0 (Ag.k (Ag.k (Ag.o (Ag.i (Ag.o (Ag.o (Ag.o (Ag.o (Ag.o (Ag.o (Ag.o (Ag.o (Ag.o (Ag.o (Ag.o (Ag.o (Ag.o (Ag.o (Ag.o (Ag.o (Ag.o (Ag.o (Ag.o (Ag.o (Ag.o (Ag.o Ag.z)))))))))))))))))))))))))) ?_ ?_
  · exact ⟨rfl, Nat.zero_le _, by simp⟩
  · rintro k t25 w hJ
    obtain ⟨rfl, hk, ha⟩ := hJ
    refine cnrm (mk (mk (mo (mi (mo (mo (mo (mo (mo (mo (mo (mo (mo (mo (mo (mo (mo (mo (mo (mo (mo (mo (mo (mo (mo (mo mz)))))))))))))))))))))))))) ?_
    refine cseq ?_
    refine cseq ?_
    refine creg ?_
    refine wl (s_move (et d3) (dt p4) ?_)
    refine wl (s_move (et d0) (dt p5) ?_)
    refine wl (s_lens Tryd.underlying9 (et d5) (dt p6) ?_)
    refine wl (s_lss (et d4) (et d6) (dt p7) ?_)
    refine wnil ?_
    refine xn ?_
    refine cifd (et d7) (fun h0 => ?_) (fun h0 => ?_)
    · obtain ⟨c, hc⟩ : ∃ c, l[k]? = some c := ⟨_, List.getElem?_eq_getElem (by omega)⟩
      have hd : l.drop k = c :: l.drop (k + 1) := by rw [List.drop_eq_getElem_cons (by omega), ← Option.some.inj ((List.getElem?_eq_getElem (by omega)).symm.trans hc)]
      refine cskip ?_
      refine xn ?_
      refine cblock ?_
      refine cseq ?_
      refine creg ?_
      refine wl (s_move (et d0) (dt p8) ?_)
      refine wl (s_move (et d3) (dt p9) ?_)
      refine wl (s_idxsn Tryd.underlying9 (et d8) (et d9) (by assumption) (dt (ps p0)) ?_)
      refine wnil ?_
      refine xn ?_
      refine cblock ?_
      refine cseq ?_
      refine cseq ?_
      refine creg ?_
      refine wl (s_eqi (et (ds d0)) ec (dt (ps p3)) ?_)
      refine wl (s_assign (et (ds d3)) (dt (ps p2)) ?_)
      refine wnil ?_
      refine xn ?_
      refine cifd (et (ds d2)) (fun h1 => ?_) (fun h1 => ?_)
      · refine cskip ?_
        refine xn ?_
        refine cifdt (et (ds d2)) h1 ?_
        refine creg ?_
        refine wl (s_move (et d3) (dt (ps p6)) ?_)
        refine wl (s_addn (b := 1) (et (ds d6)) ec (by omega) (dt (ps p7)) ?_)
        refine wl (s_assign (et (ds d7)) (dt p3) ?_)
        refine wnil ?_
        refine (fun h => bn (bn (xl h))) ?_
        first
          | exact ⟨k + 1, _, rfl, (Ag.k (Ag.k (Ag.o (Ag.i (Ag.o (Ag.o (Ag.o (Ag.o (Ag.o (Ag.o (Ag.o (Ag.o (Ag.o (Ag.o (Ag.o (Ag.o (Ag.o (Ag.o (Ag.o (Ag.o (Ag.o (Ag.o (Ag.o (Ag.o (Ag.o (Ag.o Ag.z)))))))))))))))))))))))))), ⟨rfl, by omega, by rw [ha, hd, space_blank (by simp [blankB]; omega)]; omega⟩, by omega⟩
          | exact ⟨k + ((l.drop k).takeWhile lineB).length, _, rfl, (Ag.k (Ag.k (Ag.o (Ag.i (Ag.o (Ag.o (Ag.o (Ag.o (Ag.o (Ag.o (Ag.o (Ag.o (Ag.o (Ag.o (Ag.o (Ag.o (Ag.o (Ag.o (Ag.o (Ag.o (Ag.o (Ag.o (Ag.o (Ag.o (Ag.o (Ag.o Ag.z)))))))))))))))))))))))))), ⟨rfl, by omega, by rw [ha, hd, space_remark (by omega), ← hd, List.drop_drop]; omega⟩, by omega⟩
      · refine cseq ?_
        refine creg ?_
        refine wl (s_eqi (et (ds d0)) ec (dt (ps p4)) ?_)
        refine wl (s_assign (et (ds d4)) (dt (ps p2)) ?_)
        refine wnil ?_
        refine xn ?_
        refine cifd (et (ds d2)) (fun h2 => ?_) (fun h2 => ?_)
        · refine cskip ?_
          refine xn ?_
          refine cifdt (et (ds d2)) h2 ?_
          refine creg ?_
          refine wl (s_move (et d3) (dt (ps p6)) ?_)
          refine wl (s_addn (b := 1) (et (ds d6)) ec (by omega) (dt (ps p7)) ?_)
          refine wl (s_assign (et (ds d7)) (dt p3) ?_)
          refine wnil ?_
          refine (fun h => bn (bn (xl h))) ?_
          first
            | exact ⟨k + 1, _, rfl, (Ag.k (Ag.k (Ag.o (Ag.i (Ag.o (Ag.o (Ag.o (Ag.o (Ag.o (Ag.o (Ag.o (Ag.o (Ag.o (Ag.o (Ag.o (Ag.o (Ag.o (Ag.o (Ag.o (Ag.o (Ag.o (Ag.o (Ag.o (Ag.o (Ag.o (Ag.o Ag.z)))))))))))))))))))))))))), ⟨rfl, by omega, by rw [ha, hd, space_blank (by simp [blankB]; omega)]; omega⟩, by omega⟩
            | exact ⟨k + ((l.drop k).takeWhile lineB).length, _, rfl, (Ag.k (Ag.k (Ag.o (Ag.i (Ag.o (Ag.o (Ag.o (Ag.o (Ag.o (Ag.o (Ag.o (Ag.o (Ag.o (Ag.o (Ag.o (Ag.o (Ag.o (Ag.o (Ag.o (Ag.o (Ag.o (Ag.o (Ag.o (Ag.o (Ag.o (Ag.o Ag.z)))))))))))))))))))))))))), ⟨rfl, by omega, by rw [ha, hd, space_remark (by omega), ← hd, List.drop_drop]; omega⟩, by omega⟩
        · refine creg ?_
          refine wl (s_eqi (et (ds d0)) ec (dt (ps p5)) ?_)
          refine wl (s_assign (et (ds d5)) (dt (ps p2)) ?_)
          refine wnil ?_
          refine xn ?_
          refine cifd (et (ds d2)) (fun h3 => ?_) (fun h3 => ?_)
          · refine creg ?_
            refine wl (s_move (et d3) (dt (ps p6)) ?_)
            refine wl (s_addn (b := 1) (et (ds d6)) ec (by omega) (dt (ps p7)) ?_)
            refine wl (s_assign (et (ds d7)) (dt p3) ?_)
            refine wnil ?_
            refine (fun h => bn (bn (xl h))) ?_
            first
              | exact ⟨k + 1, _, rfl, (Ag.k (Ag.k (Ag.o (Ag.i (Ag.o (Ag.o (Ag.o (Ag.o (Ag.o (Ag.o (Ag.o (Ag.o (Ag.o (Ag.o (Ag.o (Ag.o (Ag.o (Ag.o (Ag.o (Ag.o (Ag.o (Ag.o (Ag.o (Ag.o (Ag.o (Ag.o Ag.z)))))))))))))))))))))))))), ⟨rfl, by omega, by rw [ha, hd, space_blank (by simp [blankB]; omega)]; omega⟩, by omega⟩
              | exact ⟨k + ((l.drop k).takeWhile lineB).length, _, rfl, (Ag.k (Ag.k (Ag.o (Ag.i (Ag.o (Ag.o (Ag.o (Ag.o (Ag.o (Ag.o (Ag.o (Ag.o (Ag.o (Ag.o (Ag.o (Ag.o (Ag.o (Ag.o (Ag.o (Ag.o (Ag.o (Ag.o (Ag.o (Ag.o (Ag.o (Ag.o Ag.z)))))))))))))))))))))))))), ⟨rfl, by omega, by rw [ha, hd, space_remark (by omega), ← hd, List.drop_drop]; omega⟩, by omega⟩
          · refine cseq ?_
            refine creg ?_
            refine wl (s_eqi (et (ds d0)) ec (dt (ps p9)) ?_)
            refine wl (s_assign (et (ds d9)) (dt (ps p8)) ?_)
            refine wnil ?_
            refine xn ?_
            refine cifd (et (ds d8)) (fun h4 => ?_) (fun h4 => ?_)
            · have hw : ((l.drop k).takeWhile lineB).length ≤ (l.drop k).length := (List.takeWhile_sublist _).length_le
              have hw0 : 0 < ((l.drop k).takeWhile lineB).length := by rw [hd, List.takeWhile_cons, if_pos (by simp [lineB]; omega)]; simp
              rw [List.length_drop] at hw
              refine creg ?_
              refine wl (s_move (et d3) (dt (ps (ps p0))) ?_)
              refine wl (s_move (et d0) (dt (ps (ps p1))) ?_)
              refine wl (s_move (et d3) (dt (ps (ps p2))) ?_)
              refine wl (s_cutlon Tryd.underlying9 (et (ds (ds d1))) (et (ds (ds d2))) (by omega) (dt (ps (ps p3))) ?_)
              refine wl (s_callp isfn14 ef (e1 (et (ds (ds d3))) (e1 ef e0)) (while_c _ lineB _ (by rw [List.length_drop]; omega) isfn24 space1_c) (dt (ps (ps p4))) ?_)
              refine wl (s_addn (et (ds (ds d0))) (et (ds (ds d4))) (by omega) (dt (ps (ps p5))) ?_)
              refine wl (s_assign (et (ds (ds d5))) (dt p3) ?_)
              refine wnil ?_
              refine (fun h => bn (bn (xl h))) ?_
              first
                | exact ⟨k + 1, _, rfl, (Ag.k (Ag.k (Ag.o (Ag.i (Ag.o (Ag.o (Ag.o (Ag.o (Ag.o (Ag.o (Ag.o (Ag.o (Ag.o (Ag.o (Ag.o (Ag.o (Ag.o (Ag.o (Ag.o (Ag.o (Ag.o (Ag.o (Ag.o (Ag.o (Ag.o (Ag.o Ag.z)))))))))))))))))))))))))), ⟨rfl, by omega, by rw [ha, hd, space_blank (by simp [blankB]; omega)]; omega⟩, by omega⟩
                | exact ⟨k + ((l.drop k).takeWhile lineB).length, _, rfl, (Ag.k (Ag.k (Ag.o (Ag.i (Ag.o (Ag.o (Ag.o (Ag.o (Ag.o (Ag.o (Ag.o (Ag.o (Ag.o (Ag.o (Ag.o (Ag.o (Ag.o (Ag.o (Ag.o (Ag.o (Ag.o (Ag.o (Ag.o (Ag.o (Ag.o (Ag.o Ag.z)))))))))))))))))))))))))), ⟨rfl, by omega, by rw [ha, hd, space_remark (by omega), ← hd, List.drop_drop]; omega⟩, by omega⟩
            · refine cseq ?_
              refine creg ?_
              refine wl (s_move (et d3) (dt (ps p1)) ?_)
              refine wl (s_assign (et (ds d1)) (dt p2) ?_)
              refine wnil ?_
              refine xn ?_
              refine cret ?_
              refine (fun h => br (br (xr (br (xr h))))) ?_
              refine ret1 rfl d2 ?_
              refine ⟨?_, rfl⟩
              first
                | (rw [ha, hd, space_stop (by simp [blankB]; omega) (by omega)]; rfl)
                | (rw [ha, List.drop_eq_nil_of_le (by omega)]; rfl)
    · refine cexit ?_
      refine (fun h => xe (xe (bh h))) ?_
      refine xn ?_
      refine cseq ?_
      refine creg ?_
      refine wl (s_move (et d3) (dt (ps (ps p6))) ?_)
      refine wl (s_assign (et (ds (ds d6))) (dt p2) ?_)
      refine wnil ?_
      refine xn ?_
      refine cret ?_
      refine ret1 rfl d2 ?_
      refine ⟨?_, rfl⟩
      first
        | (rw [ha, hd, space_stop (by simp [blankB]; omega) (by omega)]; rfl)
        | (rw [ha, List.drop_eq_nil_of_le (by omega)]; rfl)

theorem hasPrefix0_c (l p : List UInt8) (hl : l.length ≤ 9223372036854775807) (hp : p.length ≤ 9223372036854775807) : CallsP Tryd.prog 34 [S l, S p] (.bool (p.isPrefixOf l)) := by
  intro w
  refine enter Tryd.func34 rfl (frm := [_, _, _, _, _, _, _, _, _, _, _, _, _, _, _, _, _, _]) rfl ?_
  refine cseq ?_
  refine creg ?_
  refine wl (s_assign ec (dt p4) ?_)
  refine wnil ?_
  refine xn ?_
  refine cseq ?_
  refine creg ?_
  refine wl (s_move (et d0) (dt p5) ?_)
  refine wl (s_lens Tryd.underlying9 (et d5) (dt p6) ?_)
  refine wl (s_move (et d1) (dt p7) ?_)
  refine wl (s_lens Tryd.underlying9 (et d7) (dt p8) ?_)
  refine wl (s_geq (et d6) (et d8) (dt p9) ?_)
  refine wl (s_move (et d9) (dt (ps p0)) ?_)
  refine wspd (ds d0) (ps p0) (ps p0) (fun g1_5 => ?_) (fun g1_5 => ?_)
  · refine wy rfl (ds d0) (s_move (et d0) (dt (ps p1)) ?_)
    refine wy rfl (ds d0) (s_move (et d1) (dt (ps p2)) ?_)
    refine wy rfl (ds d0) (s_lens Tryd.underlying9 (et (ds d2)) (dt (ps p3)) ?_)
    refine wy rfl (ds d0) (s_cuthin Tryd.underlying9 (et (ds d1)) (et (ds d3)) (by omega) (dt (ps p4)) ?_)
    refine wy rfl (ds d0) (s_move (et d1) (dt (ps p5)) ?_)
    refine wy rfl (ds d0) (s_eqs (et (ds d4)) (et (ds d5)) (dt (ps p6)) ?_)
    refine wl (s_pickt (et (ds d0)) (et (ds d6)) (dt (ps p7)) ?_)
    refine wl (s_assign (et (ds d7)) (dt p4) ?_)
    refine wnil ?_
    refine xn ?_
    refine cret ?_
    refine ret1 rfl d4 ?_
    refine ⟨?_, rfl⟩; congr 1
    first
      | exact pre_take l p
      | exact (pre_short l p (by omega)).symm
  · refine wn rfl (ds d0) rfl (dt (ps p1)) ?_
    refine wn rfl (ds d0) rfl (dt (ps p2)) ?_
    refine wn rfl (ds d0) rfl (dt (ps p3)) ?_
    refine wn rfl (ds d0) rfl (dt (ps p4)) ?_
    refine wn rfl (ds d0) rfl (dt (ps p5)) ?_
    refine wn rfl (ds d0) rfl (dt (ps p6)) ?_
    refine wl (s_pickf (et (ds d0)) ec (dt (ps p7)) ?_)
    refine wl (s_assign (et (ds d7)) (dt p4) ?_)
    refine wnil ?_
    refine xn ?_
    refine cret ?_
    refine ret1 rfl d4 ?_
    refine ⟨?_, rfl⟩; congr 1
    first
      | exact pre_take l p
      | exact (pre_short l p (by omega)).symm

theorem hasPrefix_c (l p : List UInt8) (hl : l.length ≤ 9223372036854775807) (hp : p.length ≤ 9223372036854775807) : CallsP Tryd.prog 27 [S l, S p] (.bool (p.isPrefixOf l)) := by
  intro w
  refine enter Tryd.func27 rfl (frm := [_, _, _, _, _, _, _, _]) rfl ?_
  refine cseq ?_
  refine creg ?_
  refine wl (s_assign ec (dt p4) ?_)
  refine wnil ?_
  refine xn ?_
  refine cseq ?_
  refine creg ?_
  refine wl (s_move (et d0) (dt p5) ?_)
  refine wl (s_move (et d1) (dt p6) ?_)
  refine wl (s_callp isfn34 ef (e1 (et d5) (e1 (et d6) e0)) (hasPrefix0_c _ _ hl hp) (dt p7) ?_)
  refine wl (s_assign (et d7) (dt p4) ?_)
  refine wnil ?_
  refine xn ?_
  refine cret ?_
  refine ret1 rfl d4 ?_
  exact ⟨rfl, rfl⟩

theorem sign_c (l : List UInt8) (hl : l.length ≤ 9223372036854775807) (w0 : World) :
        CallsV Tryd.prog 18 [S l] w0 fun v w => v = S (sign l) ∧ Grow w0 w := by
  have hS : Sep (fun _ => True) (fun _ => True) w0 w0 [] (fun _ => True) := Sep.start w0 _ _ (Rob.const trivial)
  refine enter Tryd.func18 rfl (frm := [_, _, _, _, _, _, _, _, _, _, _, _, _, _, _, _]) rfl ?_
  refine cseq ?_
  refine creg ?_
  refine wl (s_assign ec (dt p2) ?_)
  refine wnil ?_
  refine xn ?_
  refine cseq ?_
  refine cseq ?_
  refine creg ?_
  refine wl (s_bsl Tryd.underlying44 ti9 (Parts.s ec rfl (Parts.s ec rfl (Parts.s ec rfl (Parts.s ec rfl (Parts.s ec rfl (Parts.s ec rfl (Parts.s ec rfl (Parts.s ec rfl (Parts.s ec rfl (Parts.s ec rfl (Parts.s ec rfl (Parts.s ec rfl (Parts.s ec rfl (Parts.s ec rfl (Parts.s ec rfl (Parts.s ec rfl (Parts.s ec rfl (Parts.s ec rfl Parts.z)))))))))))))))))) rfl rfl hS ?_)
  clear hS; intro b1 w1_ hb1 hS
  refine pu (dt p5) ?_
  refine wl (s_lensl Tryd.underlying44 (et d5) (dt p6) ?_)
  refine wl (s_move ec (dt p7) ?_)
  refine wnil ?_
  refine xn ?_
  refine cblock ?_
  refine cloop [2, 4, 8, 9, 10, 11, 12, 13, 14, 15] (by decide) (fun (k : Nat) => [.k, .k, .o 2, .k, .o 4, .k, .k, .i (.int .i64 k), .o 8, .o 9, .o 10, .o 11, .o 12, .o 13, .o 14, .o 15]) (fun _ => rfl) (fun (k : Nat) (w : World) => k ≤ 18 ∧ (∀ y ∈ signs.take k, y.isPrefixOf l = false) ∧ Sep (fun _ => True) (fun _ => True) w0 w [.blk b1 9 (signs.map S)] (fun _ => True)) (fun (k : Nat) (w : World) => 18 - k) 0 (Ag.k (Ag.k (Ag.o (Ag.k (Ag.o (Ag.k (Ag.k (Ag.i (Ag.o (Ag.o (Ag.o (Ag.o (Ag.o (Ag.o (Ag.o (Ag.o Ag.z)))))))))))))))) ?_ ?_
  · exact ⟨Nat.zero_le _, by simp, hS⟩
  · rintro k t15 w hJ
    obtain ⟨hk, ha, hS⟩ := hJ
    refine cnrm (mk (mk (mo (mk (mo (mk (mk (mi (mo (mo (mo (mo (mo (mo (mo (mo mz)))))))))))))))) ?_
    refine cseq ?_
    refine creg ?_
    refine wl (s_lss (et d7) (et d6) (dt p8) ?_)
    refine wnil ?_
    refine xn ?_
    refine cseq ?_
    refine cifd (et d8) (fun h0 => ?_) (fun h0 => ?_)
    · obtain ⟨x, hx⟩ : ∃ x, signs[k]? = some x := ⟨_, List.getElem?_eq_getElem (show k < signs.length from by show k < 18; omega)⟩
      have hxl : x.length ≤ 2 := sign_short x (List.mem_of_getElem? hx)
      have hc : Lk (signs.map S) k (S x) := by unfold Lk; rw [List.getElem?_map, hx]; rfl
      refine cskip ?_
      refine xn ?_
      refine cseq ?_
      refine cblock ?_
      refine cseq ?_
      refine creg ?_
      refine wl (s_ia Tryd.underlying44 ti9 (et d5) (et d7) (by omega) rfl (dt p9) ?_)
      refine wl (s_load ti9 (et d9) ((hS.blk d0).cell (j := _) (by simpa using hc)) (dt (ps p0)) ?_)
      refine wl (s_assign (et (ds d0)) (dt p4) ?_)
      refine wnil ?_
      refine xn ?_
      refine cseq ?_
      refine creg ?_
      refine wl (s_move (et d0) (dt (ps p1)) ?_)
      refine wl (s_move (et d4) (dt (ps p2)) ?_)
      refine wl (s_callp isfn27 ef (e1 (et (ds d1)) (e1 (et (ds d2)) e0)) (hasPrefix_c _ _ hl (by omega)) (dt (ps p3)) ?_)
      refine wnil ?_
      refine xn ?_
      refine cif (et (ds d3)) (fun h1 => ?_) (fun h1 => ?_)
      · refine cseq ?_
        refine creg ?_
        refine wl (s_move (et d4) (dt (ps p4)) ?_)
        refine wl (s_assign (et (ds d4)) (dt p2) ?_)
        refine wnil ?_
        refine xn ?_
        refine cret ?_
        refine (fun h => br (xr (xr (br (xr h))))) ?_
        refine ret1 rfl d2 ?_
        first
          | exact ⟨by rw [sign_hit ha hx h1], hS.keeps⟩
          | exact ⟨by rw [sign_miss (by rw [show k = 18 by omega] at ha; exact ha)]; rfl, hS.keeps⟩
      · refine cskip ?_
        refine (fun h => bn (xn h)) ?_
        refine creg ?_
        refine wl (s_addn (b := 1) (et d7) ec (by omega) (dt (ps p5)) ?_)
        refine wl (s_move (et (ds d5)) (dt p7) ?_)
        refine wnil ?_
        refine xl ?_
        exact ⟨k + 1, _, rfl, (Ag.k (Ag.k (Ag.o (Ag.k (Ag.o (Ag.k (Ag.k (Ag.i (Ag.o (Ag.o (Ag.o (Ag.o (Ag.o (Ag.o (Ag.o (Ag.o Ag.z)))))))))))))))), ⟨by omega, by
          intro y hy
          rw [List.take_add_one, hx] at hy
          rcases List.mem_append.1 hy with h | h
          · exact ha y h
          · simp at h; subst h; exact h1, hS⟩, by omega⟩
    · refine cexit ?_
      refine (fun h => xe (xe (bh h))) ?_
      refine xn ?_
      refine cseq ?_
      refine creg ?_
      refine wl (s_assign ec (dt p2) ?_)
      refine wnil ?_
      refine xn ?_
      refine cret ?_
      refine ret1 rfl d2 ?_
      first
        | exact ⟨by rw [sign_hit ha hx h1], hS.keeps⟩
        | exact ⟨by rw [sign_miss (by rw [show k = 18 by omega] at ha; exact ha)]; rfl, hS.keeps⟩

end Go.Proofs.YtjbmnfilgedebaaDoor
