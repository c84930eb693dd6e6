/- The contracts of the laws LexJoined and LexCovers. -/
import Derived.Test.YtjbmnfilgedebaaDoorCLexB
import Derived.Test.YtjbmnfilgedebaaDoorCLx2
set_option linter.unusedVariables false
set_option linter.unusedSimpArgs false
namespace Go.Proofs.YtjbmnfilgedebaaDoor
open Go.Wk Go.Lx
theorem Toks.isSl {v : Value} {ts : List Tok} {w : World} (h : Toks v ts w) : IsSl v ts.length := Row.isSl h
theorem Tok.on_kind (d : Nat) (t : Tok) : (t.on d).kind = t.kind := rfl
theorem Tok.on_text (d : Nat) (t : Tok) : (t.on d).text = t.text := rfl
theorem Tok.on_num (d : Nat) (t : Tok) : (t.on d).num = t.num := rfl
theorem Tokens_u (l : List UInt8) (hl : l.length ≤ 140737488355328) (w0 : World) :
    CallsV Tryd.prog 7 [S l] w0 fun v w => Grow w0 w ∧ ∃ u, v = .tuple #[u, .agg #[.int .i64 (tkE l : Nat), .int .i64 (tkP l : Nat)]] ∧ Rob (fun b => w0.heap.size ≤ b) w (Toks u (tks l)) ∧ (tks l).length ≤ l.length := by
  refine (Tokens_c l hl w0).mono fun v w h => ?_
  have hv := h.2
  refine ⟨h.1, ?_⟩
  unfold tkE tkP tks
  cases ht : tokens l with
  | ok ts =>
    rw [ht] at hv
    obtain ⟨u, rfl, h1, h2⟩ := hv
    exact ⟨u, rfl, h2, h1⟩
  | error e =>
    rw [ht] at hv
    exact ⟨_, hv, fun w' _ _ => (show Row w' (.slice none 0 0) _ 4 0 [] from ⟨rfl, .inl ⟨rfl, rfl⟩⟩), Nat.zero_le _⟩
theorem flat_at {ts : List Tok} {i : Nat} {t : Tok} (h : ts[i]? = some t) (j : Nat) (v : Value) (hj : (cells t)[j]? = some v) : (ts.flatMap cells)[i * 4 + j]? = some v := by
  have hj4 : j < 4 := (List.getElem?_eq_some_iff.1 hj).1
  induction ts generalizing i with
  | nil => simp at h
  | cons a ts ih =>
    cases i with
    | zero =>
      simp at h
      subst h
      rw [List.flatMap_cons, List.getElem?_append_left (by show 0 * 4 + j < 4; omega)]
      simpa using hj
    | succ i =>
      rw [List.flatMap_cons, List.getElem?_append_right (by show 4 ≤ _; omega)]
      rw [show (i + 1) * 4 + j - (cells a).length = i * 4 + j by show (i + 1) * 4 + j - 4 = _; omega]
      exact ih (by simpa using h)
theorem tok_at {w : World} {b a i : Nat} {ts : List Tok} {t : Tok} (h : CellsAt w b 0 (ts.flatMap cells)) (ht : ts[i]? = some t) (ha : a = i * 4) : CellsAt w b a (cells t) := fun j v hj => by
  subst ha
  have := h _ v (flat_at ht j v hj)
  rwa [Nat.zero_add] at this
theorem Toks.slice {v : Value} {ts : List Tok} {w : World} (h : Toks v ts w) (hn : 0 < ts.length) : ∃ b c, v = .slice (some ⟨b, 0, none⟩) ts.length c := by
  obtain ⟨b, c, h, -⟩ := Row.some' h hn
  exact ⟨b, c, h⟩

theorem alive_c (w0 : World) : CallsV Tryd.prog 6 [] w0 fun v w => v = .bool true ∧ Grow w0 w := by
  have hS : Sep (fun _ => True) (fun _ => False) w0 w0 [] (fun _ => True) := Sep.start w0 _ _ (Rob.const trivial)
  refine enter Tryd.func6 rfl (frm := [_, _, _, _, _, _, _, _, _, _, _, _, _, _, _, _, _, _, _, _, _, _, _, _, _, _, _, _, _]) rfl ?_
  refine cseq ?_
  refine creg ?_
  refine wl (s_assign ec (dt p0) ?_)
  refine wnil ?_
  refine xn ?_
  refine cseq ?_
  refine creg ?_
  refine wl (s_callv isfn7 ef (e1 ec e0) (Tokens_u [97, 49, 32, 60, 61, 32, 49, 53, 32, 35, 32, 120] (by decide) _) ?_)
  rintro _ w ⟨hg, u1, rfl, hR1, hn1⟩
  have hl1 := hR1.now.isSl
  replace hS := hS.growNew hg hR1
  have e1 : tks [97, 49, 32, 60, 61, 32, 49, 53, 32, 35, 32, 120] = [⟨1, [97, 49], 0, 0⟩, ⟨3, [60, 61], 0, 3⟩, ⟨2, [49, 53], 15, 6⟩] := rfl
  have e2 : tkE [97, 49, 32, 60, 61, 32, 49, 53, 32, 35, 32, 120] = 0 := rfl
  have e3 : tkP [97, 49, 32, 60, 61, 32, 49, 53, 32, 35, 32, 120] = 0 := rfl
  rw [e1] at hl1 hS
  rw [e2, e3]
  obtain ⟨b, c, rfl⟩ := Toks.slice hS.a.2 (by decide)
  refine pu (dt p4) ?_
  refine wl (s_move (et d4) (dt p3) ?_)
  refine wl (s_extr (et d3) d0 (dt p5) ?_)
  refine wl (s_extr (et d3) d1 (dt p6) ?_)
  refine wl (s_alloc ti26 hS ?_)
  clear hS; intro b1 w1_ hb1 hS
  refine pu (dt p2) ?_
  refine wl (s_assign (et d5) (dt p1) ?_)
  refine wl (s_store ti26 (et d2) (et d6) rfl rfl rfl hS d0 (Spl.s p0 (of_decide_eq_true rfl) (Spl.s p1 (of_decide_eq_true rfl) Spl.z)) rfl p0 dn ?_)
  clear hS; intro w2_ hS
  refine wnil ?_
  refine xn ?_
  refine cseq ?_
  refine creg ?_
  refine wl (s_fa fa26_0 (et d2) rfl (dt p7) ?_)
  refine wl (s_load ti24 (et d7) ((hS.blk d0).cell d0) (dt p8) ?_)
  refine wl (s_eqi (et d8) ec (dt p9) ?_)
  refine wl (s_move (et d9) (dt (ps p0)) ?_)
  refine wspd (ds d0) (ps p0) (ps p0) (fun g2_3 => ?_) (fun g2_3 => ?_)
  · refine wy rfl (ds d0) (s_move (et d1) (dt (ps p1)) ?_)
    refine wy rfl (ds d0) (s_lenv Tryd.underlying23 (et (ds d1)) (by assumption) (dt (ps p2)) ?_)
    refine wy rfl (ds d0) (s_eqi (et (ds d2)) ec (dt (ps p3)) ?_)
    refine wl (s_pickt (et (ds d0)) (et (ds d3)) (dt (ps p4)) ?_)
    refine wl (s_move (et (ds d4)) (dt (ps p5)) ?_)
    refine wspd (ds d5) (ps p5) (ps p5) (fun g2_8 => ?_) (fun g2_8 => ?_)
    · refine wy rfl (ds d5) (s_move (et d1) (dt (ps p6)) ?_)
      refine wy rfl (ds d5) (s_ia Tryd.underlying23 ti30 (et (ds d6)) ec (by decide) rfl (dt (ps p7)) ?_)
      refine wy rfl (ds d5) (s_fa fa30_1 (et (ds d7)) rfl (dt (ps p8)) ?_)
      refine wy rfl (ds d5) (s_load ti9 (et (ds d8)) ((tok_at (Row.at' hS.a.2) (i := 1) rfl rfl).one (j := 1) d1) (dt (ps p9)) ?_)
      refine wy rfl (ds d5) (s_eqs (et (ds d9)) ec (dt (ps (ps p0))) ?_)
      refine wl (s_pickt (et (ds d5)) (et (ds (ds d0))) (dt (ps (ps p1))) ?_)
      refine wl (s_move (et (ds (ds d1))) (dt (ps (ps p2))) ?_)
      refine wspd (ds (ds d2)) (ps (ps p2)) (ps (ps p2)) (fun g2_15 => ?_) (fun g2_15 => ?_)
      · refine wy rfl (ds (ds d2)) (s_move (et d1) (dt (ps (ps p3))) ?_)
        refine wy rfl (ds (ds d2)) (s_ia Tryd.underlying23 ti30 (et (ds (ds d3))) ec (by decide) rfl (dt (ps (ps p4))) ?_)
        refine wy rfl (ds (ds d2)) (s_fa fa30_2 (et (ds (ds d4))) rfl (dt (ps (ps p5))) ?_)
        refine wy rfl (ds (ds d2)) (s_load ti2 (et (ds (ds d5))) ((tok_at (Row.at' hS.a.2) (i := 2) rfl rfl).one (j := 2) d2) (dt (ps (ps p6))) ?_)
        refine wy rfl (ds (ds d2)) (s_eqi (et (ds (ds d6))) ec (dt (ps (ps p7))) ?_)
        refine wl (s_pickt (et (ds (ds d2))) (et (ds (ds d7))) (dt (ps (ps p8))) ?_)
        refine wl (s_assign (et (ds (ds d8))) (dt p0) ?_)
        refine wnil ?_
        refine xn ?_
        refine cret ?_
        refine ret1 rfl d0 ?_
        exact ⟨rfl, hS.keeps⟩
      · exact absurd rfl g2_15
    · exact absurd rfl g2_8
  · exact absurd rfl g2_3

theorem LexJoined_c (s t : List UInt8) (hs : s.length ≤ 140737488355328) (ht : t.length ≤ 140737488355328) (w0 : World) : CallsV Tryd.prog 3 [S s, S t] w0 fun v w => v = .bool true ∧ Grow w0 w := by
  have hS : Sep (fun _ => True) (fun _ => False) w0 w0 [] (fun _ => True) := Sep.start w0 _ _ (Rob.const trivial)
  refine enter Tryd.func3 rfl (frm := [_, _, _, _, _, _, _, _, _, _, _, _, _, _, _, _, _, _, _, _, _, _, _, _, _, _, _, _, _, _, _, _, _, _, _, _, _, _, _, _, _, _, _, _, _, _, _, _, _, _, _, _, _, _, _, _, _, _, _, _, _, _, _, _, _, _, _, _, _, _, _, _, _, _, _, _, _, _, _, _, _, _, _, _, _, _, _, _, _, _, _, _, _, _, _, _, _, _]) rfl ?_
  refine cseq ?_
  refine creg ?_
  refine wl (s_assign ec (dt p4) ?_)
  refine wnil ?_
  refine xn ?_
  refine cseq ?_
  refine cseq ?_
  refine creg ?_
  refine wl (s_callv isfn6 ef e0 (alive_c _) ?_)
  rintro _ w ⟨rfl, hg⟩; replace hS := hS.grow hg
  refine pu (dt (ps p4)) ?_
  refine wl (s_not (et (ds d4)) (dt (ps p5)) ?_)
  refine wnil ?_
  refine xn ?_
  refine ciff (et (ds d5)) ?_
  refine cskip ?_
  refine xn ?_
  refine cseq ?_
  refine creg ?_
  refine wl (s_move (et d0) (dt (ps p7)) ?_)
  refine wl (s_callv isfn7 ef (e1 (et (ds d7)) e0) (Tokens_u s (by omega) _) ?_)
  rintro _ w ⟨hg, u1, rfl, hR1, hn1⟩
  have hl1 := hR1.now.isSl
  replace hS := hS.growNew hg hR1
  refine pu (dt (ps p8)) ?_
  refine wl (s_move (et (ds d8)) (dt (ps p6)) ?_)
  refine wl (s_extr (et (ds d6)) d0 (dt (ps p9)) ?_)
  refine wl (s_extr (et (ds d6)) d1 (dt (ps (ps p0))) ?_)
  refine wl (s_alloc ti26 hS ?_)
  clear hS; intro b1 w1_ hb1 hS
  refine pu (dt p6) ?_
  refine wl (s_assign (et (ds d9)) (dt p5) ?_)
  refine wl (s_store ti26 (et d6) (et (ds (ds d0))) rfl rfl rfl hS d0 (Spl.s p0 (of_decide_eq_true rfl) (Spl.s p1 (of_decide_eq_true rfl) Spl.z)) rfl p0 dn ?_)
  clear hS; intro w2_ hS
  refine wnil ?_
  refine xn ?_
  refine cseq ?_
  refine creg ?_
  refine wl (s_move (et d1) (dt (ps (ps p2))) ?_)
  refine wl (s_callv isfn7 ef (e1 (et (ds (ds d2))) e0) (Tokens_u t (by omega) _) ?_)
  rintro _ w ⟨hg, u2, rfl, hR2, hn2⟩
  have hl2 := hR2.now.isSl
  replace hS := hS.growNew hg hR2
  refine pu (dt (ps (ps p3))) ?_
  refine wl (s_move (et (ds (ds d3))) (dt (ps (ps p1))) ?_)
  refine wl (s_extr (et (ds (ds d1))) d0 (dt (ps (ps p4))) ?_)
  refine wl (s_extr (et (ds (ds d1))) d1 (dt (ps (ps p5))) ?_)
  refine wl (s_alloc ti26 hS ?_)
  clear hS; intro b3 w3_ hb3 hS
  refine pu (dt p8) ?_
  refine wl (s_assign (et (ds (ds d4))) (dt p7) ?_)
  refine wl (s_store ti26 (et d8) (et (ds (ds d5))) rfl rfl rfl hS d0 (Spl.s p0 (of_decide_eq_true rfl) (Spl.s p1 (of_decide_eq_true rfl) Spl.z)) rfl p0 dn ?_)
  clear hS; intro w4_ hS
  refine wnil ?_
  refine xn ?_
  refine cseq ?_
  refine cseq ?_
  refine creg ?_
  refine wl (s_fa fa26_0 (et d6) rfl (dt (ps (ps p6))) ?_)
  refine wl (s_load ti24 (et (ds (ds d6))) ((hS.blk d1).cell d0) (dt (ps (ps p7))) ?_)
  refine wl (s_nei (et (ds (ds d7))) ec (dt (ps (ps p8))) ?_)
  refine wl (s_move (et (ds (ds d8))) (dt (ps (ps p9))) ?_)
  refine wspd (ds (ds d9)) (ps (ps p9)) (ps (ps p9)) (fun g5_3 => ?_) (fun g5_3 => ?_)
  · refine wn rfl (ds (ds d9)) rfl (dt (ps (ps (ps p0)))) ?_
    refine wn rfl (ds (ds d9)) rfl (dt (ps (ps (ps p1)))) ?_
    refine wn rfl (ds (ds d9)) rfl (dt (ps (ps (ps p2)))) ?_
    refine wl (s_pickt (et (ds (ds d9))) ec (dt (ps (ps (ps p3)))) ?_)
    refine wl (s_move (et (ds (ds (ds d3)))) (dt (ps (ps (ps p4)))) ?_)
    refine wn rfl (ds (ds (ds d4))) rfl (dt (ps (ps (ps p5)))) ?_
    refine wn rfl (ds (ds (ds d4))) rfl (dt (ps (ps (ps p6)))) ?_
    refine wn rfl (ds (ds (ds d4))) rfl (dt (ps (ps (ps p7)))) ?_
    refine wn rfl (ds (ds (ds d4))) rfl (dt (ps (ps (ps p8)))) ?_
    refine wn rfl (ds (ds (ds d4))) rfl (dt (ps (ps (ps p9)))) ?_
    refine wn rfl (ds (ds (ds d4))) rfl (dt (ps (ps (ps (ps p0))))) ?_
    refine wn rfl (ds (ds (ds d4))) rfl (dt (ps (ps (ps (ps p1))))) ?_
    refine wl (s_pickt (et (ds (ds (ds d4)))) ec (dt (ps (ps (ps (ps p2))))) ?_)
    refine wnil ?_
    refine xn ?_
    refine cift (et (ds (ds (ds (ds d2))))) ?_
    refine cseq ?_
    refine creg ?_
    refine wl (s_assign ec (dt p4) ?_)
    refine wnil ?_
    refine xn ?_
    refine cret ?_
    refine xr ?_
    refine ret1 rfl d4 ?_
    exact ⟨rfl, hS.keeps⟩
  · refine wy rfl (ds (ds d9)) (s_fa fa26_0 (et d8) rfl (dt (ps (ps (ps p0)))) ?_)
    refine wy rfl (ds (ds d9)) (s_load ti24 (et (ds (ds (ds d0)))) ((hS.blk d0).cell d0) (dt (ps (ps (ps p1)))) ?_)
    refine wy rfl (ds (ds d9)) (s_nei (et (ds (ds (ds d1)))) ec (dt (ps (ps (ps p2)))) ?_)
    refine wl (s_pickf (et (ds (ds d9))) (et (ds (ds (ds d2)))) (dt (ps (ps (ps p3)))) ?_)
    refine wl (s_move (et (ds (ds (ds d3)))) (dt (ps (ps (ps p4)))) ?_)
    refine wspd (ds (ds (ds d4))) (ps (ps (ps p4))) (ps (ps (ps p4))) (fun g5_8 => ?_) (fun g5_8 => ?_)
    · refine wn rfl (ds (ds (ds d4))) rfl (dt (ps (ps (ps p5)))) ?_
      refine wn rfl (ds (ds (ds d4))) rfl (dt (ps (ps (ps p6)))) ?_
      refine wn rfl (ds (ds (ds d4))) rfl (dt (ps (ps (ps p7)))) ?_
      refine wn rfl (ds (ds (ds d4))) rfl (dt (ps (ps (ps p8)))) ?_
      refine wn rfl (ds (ds (ds d4))) rfl (dt (ps (ps (ps p9)))) ?_
      refine wn rfl (ds (ds (ds d4))) rfl (dt (ps (ps (ps (ps p0))))) ?_
      refine wn rfl (ds (ds (ds d4))) rfl (dt (ps (ps (ps (ps p1))))) ?_
      refine wl (s_pickt (et (ds (ds (ds d4)))) ec (dt (ps (ps (ps (ps p2))))) ?_)
      refine wnil ?_
      refine xn ?_
      refine cift (et (ds (ds (ds (ds d2))))) ?_
      refine cseq ?_
      refine creg ?_
      refine wl (s_assign ec (dt p4) ?_)
      refine wnil ?_
      refine xn ?_
      refine cret ?_
      refine xr ?_
      refine ret1 rfl d4 ?_
      exact ⟨rfl, hS.keeps⟩
    · refine wy rfl (ds (ds (ds d4))) (s_move (et d0) (dt (ps (ps (ps p5)))) ?_)
      refine wy rfl (ds (ds (ds d4))) (s_lens Tryd.underlying9 (et (ds (ds (ds d5)))) (dt (ps (ps (ps p6)))) ?_)
      refine wy rfl (ds (ds (ds d4))) (s_move (et d1) (dt (ps (ps (ps p7)))) ?_)
      refine wy rfl (ds (ds (ds d4))) (s_lens Tryd.underlying9 (et (ds (ds (ds d7)))) (dt (ps (ps (ps p8)))) ?_)
      refine wy rfl (ds (ds (ds d4))) (s_addn (et (ds (ds (ds d6)))) (et (ds (ds (ds d8)))) (by omega) (dt (ps (ps (ps p9)))) ?_)
      refine wy rfl (ds (ds (ds d4))) (s_addn (b := 1) (et (ds (ds (ds d9)))) ec (by omega) (dt (ps (ps (ps (ps p0))))) ?_)
      refine wy rfl (ds (ds (ds d4))) (s_gtr (et (ds (ds (ds (ds d0))))) ec (dt (ps (ps (ps (ps p1))))) ?_)
      refine wl (s_pickf (et (ds (ds (ds d4)))) (et (ds (ds (ds (ds d1))))) (dt (ps (ps (ps (ps p2))))) ?_)
      refine wnil ?_
      refine xn ?_
      refine cifd (et (ds (ds (ds (ds d2))))) (fun h1 => ?_) (fun h1 => ?_)
      · refine cseq ?_
        refine creg ?_
        refine wl (s_assign ec (dt p4) ?_)
        refine wnil ?_
        refine xn ?_
        refine cret ?_
        refine xr ?_
        refine ret1 rfl d4 ?_
        exact ⟨rfl, hS.keeps⟩
      · refine cskip ?_
        refine xn ?_
        refine cseq ?_
        refine creg ?_
        refine wl (s_move (et d0) (dt (ps (ps (ps (ps p4))))) ?_)
        refine wl (s_cat (et (ds (ds (ds (ds d4))))) ec (by simp; omega) (dt (ps (ps (ps (ps p5))))) ?_)
        refine wl (s_move (et d1) (dt (ps (ps (ps (ps p6))))) ?_)
        refine wl (s_cat (et (ds (ds (ds (ds d5))))) (et (ds (ds (ds (ds d6))))) (by simp; omega) (dt (ps (ps (ps (ps p7))))) ?_)
        refine wl (s_callv isfn7 ef (e1 (et (ds (ds (ds (ds d7))))) e0) (Tokens_u _ (by simp; omega) _) ?_)
        rintro _ w ⟨hg, u3, rfl, hR3, hn3⟩
        have hl3 := hR3.now.isSl
        replace hS := hS.growNew hg hR3
        have ej : tokens (s ++ [10] ++ t) = .ok (tks s ++ (tks t).map (Tok.on (s.length + 1))) := by simpa using tokens_join (s := s) (t := t) (by omega) (by omega) (by omega)
        have e1 : tks (s ++ [10] ++ t) = tks s ++ (tks t).map (Tok.on (s.length + 1)) := by unfold tks; rw [ej]; rfl
        have e2 : tkE (s ++ [10] ++ t) = 0 := by unfold tkE; rw [ej]
        rw [e1] at hl3 hS
        rw [e2]
        refine pu (dt (ps (ps (ps (ps p8))))) ?_
        refine wl (s_move (et (ds (ds (ds (ds d8))))) (dt (ps (ps (ps (ps p3))))) ?_)
        refine wl (s_extr (et (ds (ds (ds (ds d3))))) d0 (dt (ps (ps (ps (ps p9))))) ?_)
        refine wl (s_extr (et (ds (ds (ds (ds d3))))) d1 (dt (ps (ps (ps (ps (ps p0)))))) ?_)
        refine wl (s_alloc ti26 hS ?_)
        clear hS; intro b5 w5_ hb5 hS
        refine pu (dt (ps p0)) ?_
        refine wl (s_assign (et (ds (ds (ds (ds d9))))) (dt p9) ?_)
        refine wl (s_store ti26 (et (ds d0)) (et (ds (ds (ds (ds (ds d0)))))) rfl rfl rfl hS d0 (Spl.s p0 (of_decide_eq_true rfl) (Spl.s p1 (of_decide_eq_true rfl) Spl.z)) rfl p0 dn ?_)
        clear hS; intro w6_ hS
        refine wnil ?_
        refine xn ?_
        refine cseq ?_
        refine cseq ?_
        refine creg ?_
        refine wl (s_fa fa26_0 (et (ds d0)) rfl (dt (ps (ps (ps (ps (ps p1)))))) ?_)
        refine wl (s_load ti24 (et (ds (ds (ds (ds (ds d1)))))) ((hS.blk d0).cell d0) (dt (ps (ps (ps (ps (ps p2)))))) ?_)
        refine wl (s_nei (et (ds (ds (ds (ds (ds d2)))))) ec (dt (ps (ps (ps (ps (ps p3)))))) ?_)
        refine wl (s_move (et (ds (ds (ds (ds (ds d3)))))) (dt (ps (ps (ps (ps (ps p4)))))) ?_)
        refine wspd (ds (ds (ds (ds (ds d4))))) (ps (ps (ps (ps (ps p4))))) (ps (ps (ps (ps (ps p4))))) (fun g8_3 => ?_) (fun g8_3 => ?_)
        · exact absurd rfl g8_3
        · refine wy rfl (ds (ds (ds (ds (ds d4))))) (s_move (et d9) (dt (ps (ps (ps (ps (ps p5)))))) ?_)
          refine wy rfl (ds (ds (ds (ds (ds d4))))) (s_lenv Tryd.underlying23 (et (ds (ds (ds (ds (ds d5)))))) (by assumption) (dt (ps (ps (ps (ps (ps p6)))))) ?_)
          refine wy rfl (ds (ds (ds (ds (ds d4))))) (s_move (et d5) (dt (ps (ps (ps (ps (ps p7)))))) ?_)
          refine wy rfl (ds (ds (ds (ds (ds d4))))) (s_lenv Tryd.underlying23 (et (ds (ds (ds (ds (ds d7)))))) (by assumption) (dt (ps (ps (ps (ps (ps p8)))))) ?_)
          refine wy rfl (ds (ds (ds (ds (ds d4))))) (s_move (et d7) (dt (ps (ps (ps (ps (ps p9)))))) ?_)
          refine wy rfl (ds (ds (ds (ds (ds d4))))) (s_lenv Tryd.underlying23 (et (ds (ds (ds (ds (ds d9)))))) (by assumption) (dt (ps (ps (ps (ps (ps (ps p0))))))) ?_)
          refine wy rfl (ds (ds (ds (ds (ds d4))))) (s_addn (et (ds (ds (ds (ds (ds d8)))))) (et (ds (ds (ds (ds (ds (ds d0))))))) (by omega) (dt (ps (ps (ps (ps (ps (ps p1))))))) ?_)
          refine wy rfl (ds (ds (ds (ds (ds d4))))) (s_nei (et (ds (ds (ds (ds (ds d6)))))) (et (ds (ds (ds (ds (ds (ds d1))))))) (dt (ps (ps (ps (ps (ps (ps p2))))))) ?_)
          refine wl (s_pickf (et (ds (ds (ds (ds (ds d4)))))) (et (ds (ds (ds (ds (ds (ds d2))))))) (dt (ps (ps (ps (ps (ps (ps p3))))))) ?_)
          refine wnil ?_
          refine xn ?_
          refine cifd (et (ds (ds (ds (ds (ds (ds d3))))))) (fun h2 => ?_) (fun h2 => ?_)
          · exfalso
            simp at h2 <;> omega
          · refine cskip ?_
            refine xn ?_
            refine cseq ?_
            refine cseq ?_
            refine creg ?_
            refine wl (s_move (et d9) (dt (ps (ps (ps (ps (ps (ps p4))))))) ?_)
            refine wl (s_lenv Tryd.underlying23 (et (ds (ds (ds (ds (ds (ds d4))))))) (by assumption) (dt (ps (ps (ps (ps (ps (ps p5))))))) ?_)
            refine wl (s_move ec (dt (ps (ps (ps (ps (ps (ps p6))))))) ?_)
            refine wnil ?_
            refine xn ?_
            refine cblock ?_
            replace hS := hS.drop Rm.z
            replace hS := hS.drop Rm.z
            replace hS := hS.drop Rm.z
            refine cloop [4, 11, 12, 13, 67, 68, 69, 70, 71, 72, 73, 74, 75, 76, 77, 78, 79, 80, 81, 82, 83, 84, 85, 86, 87, 88, 89, 90, 91, 92, 93, 94, 95, 96, 97] (by decide) (fun (k : Nat) => [.k, .k, .k, .k, .o 4, .k, .k, .k, .k, .k, .k, .o 11, .o 12, .o 13, .k, .k, .k, .k, .k, .k, .k, .k, .k, .k, .k, .k, .k, .k, .k, .k, .k, .k, .k, .k, .k, .k, .k, .k, .k, .k, .k, .k, .k, .k, .k, .k, .k, .k, .k, .k, .k, .k, .k, .k, .k, .k, .k, .k, .k, .k, .k, .k, .k, .k, .k, .k, .i (.int .i64 k), .o 67, .o 68, .o 69, .o 70, .o 71, .o 72, .o 73, .o 74, .o 75, .o 76, .o 77, .o 78, .o 79, .o 80, .o 81, .o 82, .o 83, .o 84, .o 85, .o 86, .o 87, .o 88, .o 89, .o 90, .o 91, .o 92, .o 93, .o 94, .o 95, .o 96, .o 97]) (fun _ => rfl) (fun (k : Nat) (w : World) => k ≤ (tks s ++ (tks t).map (Tok.on (s.length + 1))).length ∧ Sep (fun _ => True) (fun _ => False) w0 w [] (fun w => ((True ∧ Toks u1 (tks s) w) ∧ Toks u2 (tks t) w) ∧ Toks u3 (tks s ++ (tks t).map (Tok.on (s.length + 1))) w)) (fun (k : Nat) (w : World) => (tks s ++ (tks t).map (Tok.on (s.length + 1))).length - k) 0 (Ag.k (Ag.k (Ag.k (Ag.k (Ag.o (Ag.k (Ag.k (Ag.k (Ag.k (Ag.k (Ag.k (Ag.o (Ag.o (Ag.o (Ag.k (Ag.k (Ag.k (Ag.k (Ag.k (Ag.k (Ag.k (Ag.k (Ag.k (Ag.k (Ag.k (Ag.k (Ag.k (Ag.k (Ag.k (Ag.k (Ag.k (Ag.k (Ag.k (Ag.k (Ag.k (Ag.k (Ag.k (Ag.k (Ag.k (Ag.k (Ag.k (Ag.k (Ag.k (Ag.k (Ag.k (Ag.k (Ag.k (Ag.k (Ag.k (Ag.k (Ag.k (Ag.k (Ag.k (Ag.k (Ag.k (Ag.k (Ag.k (Ag.k (Ag.k (Ag.k (Ag.k (Ag.k (Ag.k (Ag.k (Ag.k (Ag.k (Ag.i (Ag.o (Ag.o (Ag.o (Ag.o (Ag.o (Ag.o (Ag.o (Ag.o (Ag.o (Ag.o (Ag.o (Ag.o (Ag.o (Ag.o (Ag.o (Ag.o (Ag.o (Ag.o (Ag.o (Ag.o (Ag.o (Ag.o (Ag.o (Ag.o (Ag.o (Ag.o (Ag.o (Ag.o (Ag.o (Ag.o (Ag.o Ag.z)))))))))))))))))))))))))))))))))))))))))))))))))))))))))))))))))))))))))))))))))))))))))))))))))) ?_ ?_
            · exact ⟨Nat.zero_le _, hS⟩
            · rintro k t97 w hJ
              obtain ⟨hk, hS⟩ := hJ
              refine cnrm (mk (mk (mk (mk (mo (mk (mk (mk (mk (mk (mk (mo (mo (mo (mk (mk (mk (mk (mk (mk (mk (mk (mk (mk (mk (mk (mk (mk (mk (mk (mk (mk (mk (mk (mk (mk (mk (mk (mk (mk (mk (mk (mk (mk (mk (mk (mk (mk (mk (mk (mk (mk (mk (mk (mk (mk (mk (mk (mk (mk (mk (mk (mk (mk (mk (mk (mi (mo (mo (mo (mo (mo (mo (mo (mo (mo (mo (mo (mo (mo (mo (mo (mo (mo (mo (mo (mo (mo (mo (mo (mo (mo (mo (mo (mo (mo (mo (mo mz)))))))))))))))))))))))))))))))))))))))))))))))))))))))))))))))))))))))))))))))))))))))))))))))))) ?_
              refine cseq ?_
              refine creg ?_
              refine wl (s_lss (et (ds (ds (ds (ds (ds (ds d6))))))) (et (ds (ds (ds (ds (ds (ds d5))))))) (dt (ps (ps (ps (ps (ps (ps p7))))))) ?_)
              refine wnil ?_
              refine xn ?_
              refine cseq ?_
              refine cifd (et (ds (ds (ds (ds (ds (ds d7))))))) (fun h3 => ?_) (fun h3 => ?_)
              · obtain ⟨x, hx⟩ : ∃ x, (tks s ++ (tks t).map (Tok.on (s.length + 1)))[k]? = some x := ⟨_, List.getElem?_eq_getElem (by omega)⟩
                obtain ⟨b3, c3, rfl⟩ := Toks.slice hS.a.2 (by omega)
                refine cskip ?_
                refine xn ?_
                refine cseq ?_
                refine cblock ?_
                refine cseq ?_
                refine creg ?_
                refine wl (s_move (et (ds (ds (ds (ds (ds (ds d6))))))) (dt (ps (ps (ps (ps (ps (ps p8))))))) ?_)
                refine wl (s_ia Tryd.underlying23 ti30 (et (ds (ds (ds (ds (ds (ds d4))))))) (et (ds (ds (ds (ds (ds (ds d6))))))) (by omega) rfl (dt (ps (ps (ps (ps (ps (ps p9))))))) ?_)
                refine wl (s_loads ti30 (et (ds (ds (ds (ds (ds (ds d9))))))) (tok_at (Row.at' hS.a.2) hx (by simp)) rfl (dt (ps (ps (ps (ps (ps (ps (ps p0)))))))) ?_)
                refine wl (s_alloc ti30 hS ?_)
                clear hS; intro b7 w7_ hb7 hS
                refine pu (dt (ps p2)) ?_
                refine wl (s_assign (et (ds (ds (ds (ds (ds (ds d8))))))) (dt (ps p1)) ?_)
                refine wl (s_store ti30 (et (ds d2)) (et (ds (ds (ds (ds (ds (ds (ds d0)))))))) rfl rfl rfl hS d0 (Spl.s p0 (of_decide_eq_true rfl) (Spl.s p1 (of_decide_eq_true rfl) (Spl.s p2 (of_decide_eq_true rfl) (Spl.s p3 (of_decide_eq_true rfl) Spl.z)))) rfl p0 dn ?_)
                clear hS; intro w8_ hS
                refine wnil ?_
                refine xn ?_
                refine cseq ?_
                refine creg ?_
                refine wl (s_loads ti30 (et (ds d2)) ((hS.blk d0).cells) rfl (dt (ps (ps (ps (ps (ps (ps (ps p1)))))))) ?_)
                refine wl (s_alloc ti30 hS ?_)
                clear hS; intro b9 w9_ hb9 hS
                refine pu (dt (ps p3)) ?_
                refine wl (s_store ti30 (et (ds d3)) (et (ds (ds (ds (ds (ds (ds (ds d1)))))))) rfl rfl rfl hS d0 (Spl.s p0 (of_decide_eq_true rfl) (Spl.s p1 (of_decide_eq_true rfl) (Spl.s p2 (of_decide_eq_true rfl) (Spl.s p3 (of_decide_eq_true rfl) Spl.z)))) rfl p0 dn ?_)
                clear hS; intro w10_ hS
                refine wnil ?_
                refine xn ?_
                refine cseq ?_
                refine cseq ?_
                refine creg ?_
                refine wl (s_move (et (ds d1)) (dt (ps (ps (ps (ps (ps (ps (ps p2)))))))) ?_)
                refine wl (s_move (et d5) (dt (ps (ps (ps (ps (ps (ps (ps p3)))))))) ?_)
                refine wl (s_lenv Tryd.underlying23 (et (ds (ds (ds (ds (ds (ds (ds d3)))))))) (by assumption) (dt (ps (ps (ps (ps (ps (ps (ps p4)))))))) ?_)
                refine wl (s_lss (et (ds (ds (ds (ds (ds (ds (ds d2)))))))) (et (ds (ds (ds (ds (ds (ds (ds d4)))))))) (dt (ps (ps (ps (ps (ps (ps (ps p5)))))))) ?_)
                refine wnil ?_
                refine xn ?_
                refine cifd (et (ds (ds (ds (ds (ds (ds (ds d5)))))))) (fun h4 => ?_) (fun h4 => ?_)
                · have hx1 : (tks s)[k]? = some x := by rw [List.getElem?_append_left (by omega)] at hx; exact hx
                  obtain ⟨b1, c1, rfl⟩ := Toks.slice hS.a.1.1.2 (by omega)
                  refine creg ?_
                  refine wl (s_move (et d5) (dt (ps (ps (ps (ps (ps (ps (ps p6)))))))) ?_)
                  refine wl (s_move (et (ds d1)) (dt (ps (ps (ps (ps (ps (ps (ps p7)))))))) ?_)
                  refine wl (s_ia Tryd.underlying23 ti30 (et (ds (ds (ds (ds (ds (ds (ds d6)))))))) (et (ds (ds (ds (ds (ds (ds (ds d7)))))))) (by omega) rfl (dt (ps (ps (ps (ps (ps (ps (ps p8)))))))) ?_)
                  refine wl (s_loads ti30 (et (ds (ds (ds (ds (ds (ds (ds d8)))))))) (tok_at (Row.at' hS.a.1.1.2) hx1 (by simp)) rfl (dt (ps (ps (ps (ps (ps (ps (ps p9)))))))) ?_)
                  refine wl (s_store ti30 (et (ds d3)) (et (ds (ds (ds (ds (ds (ds (ds d9)))))))) rfl rfl rfl hS d0 (Spl.s p0 (of_decide_eq_true rfl) (Spl.s p1 (of_decide_eq_true rfl) (Spl.s p2 (of_decide_eq_true rfl) (Spl.s p3 (of_decide_eq_true rfl) Spl.z)))) rfl p0 dn ?_)
                  clear hS; intro w11_ hS
                  refine wnil ?_
                  refine xn ?_
                  refine cseq ?_
                  refine creg ?_
                  refine wl (s_loads ti30 (et (ds d2)) ((hS.blk d1).cells) rfl (dt (ps (ps (ps (ps (ps (ps (ps (ps (ps p4)))))))))) ?_)
                  refine wl (s_loads ti30 (et (ds d3)) ((hS.blk d0).cells) rfl (dt (ps (ps (ps (ps (ps (ps (ps (ps (ps p5)))))))))) ?_)
                  refine wl (s_nea (ES.mk Tryd.underlying30 eh30 eg30) (et (ds (ds (ds (ds (ds (ds (ds (ds (ds d4)))))))))) (et (ds (ds (ds (ds (ds (ds (ds (ds (ds d5)))))))))) (EqFs.o rfl rfl rfl ti3 d0 d0 (eq_int Tryd.underlying3) (EqFs.o rfl rfl rfl ti9 d1 d1 (eq_str Tryd.underlying9) (EqFs.o rfl rfl rfl ti2 d2 d2 (eq_int Tryd.underlying2) (EqFs.o rfl rfl rfl ti3 d3 d3 (eq_int Tryd.underlying3) EqFs.z)))) rfl (dt (ps (ps (ps (ps (ps (ps (ps (ps (ps p6)))))))))) ?_)
                  refine wnil ?_
                  refine xn ?_
                  refine cif (et (ds (ds (ds (ds (ds (ds (ds (ds (ds d6)))))))))) (fun h5 => ?_) (fun h5 => ?_)
                  · exfalso
                    first
                      | (simp [andL] at h5; done)
                      | (have ep : (Tok.on (s.length + 1) x').pos = x'.pos + s.length + 1 := by simp only [Tok.on]; omega
                         simp [andL, ep, Tok.on_kind, Tok.on_text, Tok.on_num] at h5)
                  · refine cskip ?_
                    refine (fun h => bn (xn h)) ?_
                    refine creg ?_
                    refine wl (s_addn (b := 1) (et (ds (ds (ds (ds (ds (ds d6))))))) ec (by omega) (dt (ps (ps (ps (ps (ps (ps (ps (ps (ps p7)))))))))) ?_)
                    refine wl (s_move (et (ds (ds (ds (ds (ds (ds (ds (ds (ds d7)))))))))) (dt (ps (ps (ps (ps (ps (ps p6))))))) ?_)
                    refine wnil ?_
                    refine xl ?_
                    replace hS := hS.drop Rm.z
                    replace hS := hS.drop Rm.z
                    exact ⟨k + 1, _, rfl, (Ag.k (Ag.k (Ag.k (Ag.k (Ag.o (Ag.k (Ag.k (Ag.k (Ag.k (Ag.k (Ag.k (Ag.o (Ag.o (Ag.o (Ag.k (Ag.k (Ag.k (Ag.k (Ag.k (Ag.k (Ag.k (Ag.k (Ag.k (Ag.k (Ag.k (Ag.k (Ag.k (Ag.k (Ag.k (Ag.k (Ag.k (Ag.k (Ag.k (Ag.k (Ag.k (Ag.k (Ag.k (Ag.k (Ag.k (Ag.k (Ag.k (Ag.k (Ag.k (Ag.k (Ag.k (Ag.k (Ag.k (Ag.k (Ag.k (Ag.k (Ag.k (Ag.k (Ag.k (Ag.k (Ag.k (Ag.k (Ag.k (Ag.k (Ag.k (Ag.k (Ag.k (Ag.k (Ag.k (Ag.k (Ag.k (Ag.k (Ag.i (Ag.o (Ag.o (Ag.o (Ag.o (Ag.o (Ag.o (Ag.o (Ag.o (Ag.o (Ag.o (Ag.o (Ag.o (Ag.o (Ag.o (Ag.o (Ag.o (Ag.o (Ag.o (Ag.o (Ag.o (Ag.o (Ag.o (Ag.o (Ag.o (Ag.o (Ag.o (Ag.o (Ag.o (Ag.o (Ag.o (Ag.o Ag.z)))))))))))))))))))))))))))))))))))))))))))))))))))))))))))))))))))))))))))))))))))))))))))))))))), ⟨by omega, hS⟩, by omega⟩
                · rw [List.getElem?_append_right (by omega), List.getElem?_map] at hx
                  obtain ⟨x', hx2, rfl⟩ := Option.map_eq_some_iff.1 hx
                  have hb2 := tks_pos hx2
                  have hk2 : k - (tks s).length < (tks t).length := (List.getElem?_eq_some_iff.1 hx2).1
                  obtain ⟨b2, c2, rfl⟩ := Toks.slice hS.a.1.2 (by omega)
                  refine cseq ?_
                  refine creg ?_
                  refine wl (s_move (et d7) (dt (ps (ps (ps (ps (ps (ps (ps (ps p0))))))))) ?_)
                  refine wl (s_move (et (ds d1)) (dt (ps (ps (ps (ps (ps (ps (ps (ps p1))))))))) ?_)
                  refine wl (s_move (et d5) (dt (ps (ps (ps (ps (ps (ps (ps (ps p2))))))))) ?_)
                  refine wl (s_lenv Tryd.underlying23 (et (ds (ds (ds (ds (ds (ds (ds (ds d2))))))))) (by assumption) (dt (ps (ps (ps (ps (ps (ps (ps (ps p3))))))))) ?_)
                  refine wl (s_sub (et (ds (ds (ds (ds (ds (ds (ds (ds d1))))))))) (et (ds (ds (ds (ds (ds (ds (ds (ds d3))))))))) (wr (by omega)) (dt (ps (ps (ps (ps (ps (ps (ps (ps p4))))))))) ?_)
                  refine wl (s_ia Tryd.underlying23 ti30 (et (ds (ds (ds (ds (ds (ds (ds (ds d0))))))))) (et (ds (ds (ds (ds (ds (ds (ds (ds d4))))))))) (by omega) rfl (dt (ps (ps (ps (ps (ps (ps (ps (ps p5))))))))) ?_)
                  refine wl (s_loads ti30 (et (ds (ds (ds (ds (ds (ds (ds (ds d5))))))))) (tok_at (Row.at' hS.a.1.2) hx2 (by omega)) rfl (dt (ps (ps (ps (ps (ps (ps (ps (ps p6))))))))) ?_)
                  refine wl (s_store ti30 (et (ds d3)) (et (ds (ds (ds (ds (ds (ds (ds (ds d6))))))))) rfl rfl rfl hS d0 (Spl.s p0 (of_decide_eq_true rfl) (Spl.s p1 (of_decide_eq_true rfl) (Spl.s p2 (of_decide_eq_true rfl) (Spl.s p3 (of_decide_eq_true rfl) Spl.z)))) rfl p0 dn ?_)
                  clear hS; intro w12_ hS
                  refine wnil ?_
                  refine xn ?_
                  refine creg ?_
                  refine wl (s_fa fa30_3 (et (ds d3)) rfl (dt (ps (ps (ps (ps (ps (ps (ps (ps p7))))))))) ?_)
                  refine wl (s_load ti3 (et (ds (ds (ds (ds (ds (ds (ds (ds d7))))))))) ((hS.blk d0).cell d3) (dt (ps (ps (ps (ps (ps (ps (ps (ps p8))))))))) ?_)
                  refine wl (s_move (et d0) (dt (ps (ps (ps (ps (ps (ps (ps (ps p9))))))))) ?_)
                  refine wl (s_lens Tryd.underlying9 (et (ds (ds (ds (ds (ds (ds (ds (ds d9))))))))) (dt (ps (ps (ps (ps (ps (ps (ps (ps (ps p0)))))))))) ?_)
                  refine wl (s_addn (et (ds (ds (ds (ds (ds (ds (ds (ds d8))))))))) (et (ds (ds (ds (ds (ds (ds (ds (ds (ds d0)))))))))) (by omega) (dt (ps (ps (ps (ps (ps (ps (ps (ps (ps p1)))))))))) ?_)
                  refine wl (s_addn (b := 1) (et (ds (ds (ds (ds (ds (ds (ds (ds (ds d1)))))))))) ec (by omega) (dt (ps (ps (ps (ps (ps (ps (ps (ps (ps p2)))))))))) ?_)
                  refine wl (s_fa fa30_3 (et (ds d3)) rfl (dt (ps (ps (ps (ps (ps (ps (ps (ps (ps p3)))))))))) ?_)
                  refine wl (s_store1 ti3 (et (ds (ds (ds (ds (ds (ds (ds (ds (ds d3)))))))))) (et (ds (ds (ds (ds (ds (ds (ds (ds (ds d2)))))))))) rfl hS d0 p3 rfl p0 dn ?_)
                  clear hS; intro w13_ hS
                  refine wnil ?_
                  refine xn ?_
                  refine cseq ?_
                  refine creg ?_
                  refine wl (s_loads ti30 (et (ds d2)) ((hS.blk d1).cells) rfl (dt (ps (ps (ps (ps (ps (ps (ps (ps (ps p4)))))))))) ?_)
                  refine wl (s_loads ti30 (et (ds d3)) ((hS.blk d0).cells) rfl (dt (ps (ps (ps (ps (ps (ps (ps (ps (ps p5)))))))))) ?_)
                  refine wl (s_nea (ES.mk Tryd.underlying30 eh30 eg30) (et (ds (ds (ds (ds (ds (ds (ds (ds (ds d4)))))))))) (et (ds (ds (ds (ds (ds (ds (ds (ds (ds d5)))))))))) (EqFs.o rfl rfl rfl ti3 d0 d0 (eq_int Tryd.underlying3) (EqFs.o rfl rfl rfl ti9 d1 d1 (eq_str Tryd.underlying9) (EqFs.o rfl rfl rfl ti2 d2 d2 (eq_int Tryd.underlying2) (EqFs.o rfl rfl rfl ti3 d3 d3 (eq_int Tryd.underlying3) EqFs.z)))) rfl (dt (ps (ps (ps (ps (ps (ps (ps (ps (ps p6)))))))))) ?_)
                  refine wnil ?_
                  refine xn ?_
                  refine cif (et (ds (ds (ds (ds (ds (ds (ds (ds (ds d6)))))))))) (fun h5 => ?_) (fun h5 => ?_)
                  · exfalso
                    first
                      | (simp [andL] at h5; done)
                      | (have ep : (Tok.on (s.length + 1) x').pos = x'.pos + s.length + 1 := by simp only [Tok.on]; omega
                         simp [andL, ep, Tok.on_kind, Tok.on_text, Tok.on_num] at h5)
                  · refine cskip ?_
                    refine (fun h => bn (xn h)) ?_
                    refine creg ?_
                    refine wl (s_addn (b := 1) (et (ds (ds (ds (ds (ds (ds d6))))))) ec (by omega) (dt (ps (ps (ps (ps (ps (ps (ps (ps (ps p7)))))))))) ?_)
                    refine wl (s_move (et (ds (ds (ds (ds (ds (ds (ds (ds (ds d7)))))))))) (dt (ps (ps (ps (ps (ps (ps p6))))))) ?_)
                    refine wnil ?_
                    refine xl ?_
                    replace hS := hS.drop Rm.z
                    replace hS := hS.drop Rm.z
                    exact ⟨k + 1, _, rfl, (Ag.k (Ag.k (Ag.k (Ag.k (Ag.o (Ag.k (Ag.k (Ag.k (Ag.k (Ag.k (Ag.k (Ag.o (Ag.o (Ag.o (Ag.k (Ag.k (Ag.k (Ag.k (Ag.k (Ag.k (Ag.k (Ag.k (Ag.k (Ag.k (Ag.k (Ag.k (Ag.k (Ag.k (Ag.k (Ag.k (Ag.k (Ag.k (Ag.k (Ag.k (Ag.k (Ag.k (Ag.k (Ag.k (Ag.k (Ag.k (Ag.k (Ag.k (Ag.k (Ag.k (Ag.k (Ag.k (Ag.k (Ag.k (Ag.k (Ag.k (Ag.k (Ag.k (Ag.k (Ag.k (Ag.k (Ag.k (Ag.k (Ag.k (Ag.k (Ag.k (Ag.k (Ag.k (Ag.k (Ag.k (Ag.k (Ag.k (Ag.i (Ag.o (Ag.o (Ag.o (Ag.o (Ag.o (Ag.o (Ag.o (Ag.o (Ag.o (Ag.o (Ag.o (Ag.o (Ag.o (Ag.o (Ag.o (Ag.o (Ag.o (Ag.o (Ag.o (Ag.o (Ag.o (Ag.o (Ag.o (Ag.o (Ag.o (Ag.o (Ag.o (Ag.o (Ag.o (Ag.o (Ag.o Ag.z)))))))))))))))))))))))))))))))))))))))))))))))))))))))))))))))))))))))))))))))))))))))))))))))))), ⟨by omega, hS⟩, by omega⟩
              · refine cexit ?_
                refine (fun h => xe (xe (bh h))) ?_
                refine xn ?_
                refine cseq ?_
                refine creg ?_
                refine wl (s_assign ec (dt p4) ?_)
                refine wnil ?_
                refine xn ?_
                refine cret ?_
                refine ret1 rfl d4 ?_
                exact ⟨rfl, hS.keeps⟩

theorem LexCovers_c (s : List UInt8) (hs : s.length ≤ 140737488355328) (w0 : World) : CallsV Tryd.prog 4 [S s] w0 fun v w => v = .bool true ∧ Grow w0 w := by
  have hS : Sep (fun _ => True) (fun _ => False) w0 w0 [] (fun _ => True) := Sep.start w0 _ _ (Rob.const trivial)
  refine enter Tryd.func4 rfl (frm := [_, _, _, _, _, _, _, _, _, _, _, _, _, _, _, _, _, _, _, _, _, _, _, _, _, _, _, _, _, _, _, _, _, _, _, _, _, _, _, _, _, _, _, _, _, _, _, _, _, _, _, _, _, _, _, _, _, _, _, _, _, _, _, _, _, _, _, _, _, _, _, _, _, _, _, _, _, _, _, _, _, _, _, _, _, _, _, _, _, _, _, _, _, _, _, _, _, _, _, _, _, _, _, _, _, _, _, _, _, _, _, _, _, _]) rfl ?_
  refine cseq ?_
  refine creg ?_
  refine wl (s_assign ec (dt p2) ?_)
  refine wnil ?_
  refine xn ?_
  refine cseq ?_
  refine cseq ?_
  refine creg ?_
  refine wl (s_callv isfn6 ef e0 (alive_c _) ?_)
  rintro _ w ⟨rfl, hg⟩; replace hS := hS.grow hg
  refine pu (dt (ps p1)) ?_
  refine wl (s_not (et (ds d1)) (dt (ps p2)) ?_)
  refine wnil ?_
  refine xn ?_
  refine ciff (et (ds d2)) ?_
  refine cskip ?_
  refine xn ?_
  refine cseq ?_
  refine creg ?_
  refine wl (s_move (et d0) (dt (ps p4)) ?_)
  refine wl (s_callv isfn7 ef (e1 (et (ds d4)) e0) (Tokens_u s (by omega) _) ?_)
  rintro _ w ⟨hg, u1, rfl, hR1, hn1⟩
  have hl1 := hR1.now.isSl
  replace hS := hS.growNew hg hR1
  refine pu (dt (ps p5)) ?_
  refine wl (s_move (et (ds d5)) (dt (ps p3)) ?_)
  refine wl (s_extr (et (ds d3)) d0 (dt (ps p6)) ?_)
  refine wl (s_extr (et (ds d3)) d1 (dt (ps p7)) ?_)
  refine wl (s_alloc ti26 hS ?_)
  clear hS; intro b1 w1_ hb1 hS
  refine pu (dt p4) ?_
  refine wl (s_assign (et (ds d6)) (dt p3) ?_)
  refine wl (s_store ti26 (et d4) (et (ds d7)) rfl rfl rfl hS d0 (Spl.s p0 (of_decide_eq_true rfl) (Spl.s p1 (of_decide_eq_true rfl) Spl.z)) rfl p0 dn ?_)
  clear hS; intro w2_ hS
  refine wnil ?_
  refine xn ?_
  refine cseq ?_
  refine cseq ?_
  refine creg ?_
  refine wl (s_fa fa26_0 (et d4) rfl (dt (ps p8)) ?_)
  refine wl (s_load ti24 (et (ds d8)) ((hS.blk d0).cell d0) (dt (ps p9)) ?_)
  refine wl (s_nei (et (ds d9)) ec (dt (ps (ps p0))) ?_)
  refine wnil ?_
  refine xn ?_
  refine cifd (et (ds (ds d0))) (fun h1 => ?_) (fun h1 => ?_)
  · rw [tks_err (l := s) (by omega)] at hl1 hS
    refine cseq ?_
    refine creg ?_
    refine wl (s_move (et d3) (dt (ps (ps p1))) ?_)
    refine wl (s_lenv Tryd.underlying23 (et (ds (ds d1))) (by assumption) (dt (ps (ps p2))) ?_)
    refine wl (s_eqi (et (ds (ds d2))) ec (dt (ps (ps p3))) ?_)
    refine wl (s_assign (et (ds (ds d3))) (dt p2) ?_)
    refine wnil ?_
    refine xn ?_
    refine cret ?_
    refine xr ?_
    refine ret1 rfl d2 ?_
    first
      | exact ⟨rfl, hS.keeps⟩
      | exact ⟨by simp, hS.keeps⟩
  · have h60 : s.length ≤ 6000 := by
      rcases Nat.lt_or_ge 6000 s.length with h | h
      · have := tkE_big h; omega
      · exact h
    have hlx := tks_lx (l := s) (by omega) h60
    obtain ⟨A, hA⟩ : ∃ A : World → Prop, A = fun w => True ∧ Toks u1 (tks s) w := ⟨_, rfl⟩
    rw [← hA] at hS
    have hAT : ∀ w, A w → Toks u1 (tks s) w := by rw [hA]; exact fun _ h => h.2
    refine cskip ?_
    refine xn ?_
    refine cseq ?_
    refine creg ?_
    refine wl (s_assign ec (dt p5) ?_)
    refine wnil ?_
    refine xn ?_
    refine cseq ?_
    refine cseq ?_
    refine creg ?_
    refine wl (s_assign ec (dt p6) ?_)
    refine wnil ?_
    refine xn ?_
    refine cblock ?_
    replace hS := hS.drop Rm.z
    refine cloop2 [2, 7, 8, 9, 10, 24, 25, 26, 27, 28, 29, 30, 31, 32, 33, 34, 35, 36, 37, 38, 39, 40, 41, 42, 43, 44, 45, 46, 47, 48, 49, 50, 51, 52, 53, 54, 55, 56, 57, 58, 59, 60, 61, 62, 63, 64, 65, 66, 67, 68, 69, 70, 71, 72, 73, 74, 75, 76, 77, 78, 79, 80, 81, 82, 83, 84, 85, 86, 87, 88, 89, 90, 91, 92, 93, 94, 95, 96, 97, 98, 99, 100, 101, 102, 103, 104, 105, 106, 107, 108, 109, 110, 111, 112, 113] (by decide) (fun (i : Nat) (e : Nat) => [.k, .k, .o 2, .k, .k, .i (.int .i64 e), .i (.int .i64 i), .o 7, .o 8, .o 9, .o 10, .k, .k, .k, .k, .k, .k, .k, .k, .k, .k, .k, .k, .k, .o 24, .o 25, .o 26, .o 27, .o 28, .o 29, .o 30, .o 31, .o 32, .o 33, .o 34, .o 35, .o 36, .o 37, .o 38, .o 39, .o 40, .o 41, .o 42, .o 43, .o 44, .o 45, .o 46, .o 47, .o 48, .o 49, .o 50, .o 51, .o 52, .o 53, .o 54, .o 55, .o 56, .o 57, .o 58, .o 59, .o 60, .o 61, .o 62, .o 63, .o 64, .o 65, .o 66, .o 67, .o 68, .o 69, .o 70, .o 71, .o 72, .o 73, .o 74, .o 75, .o 76, .o 77, .o 78, .o 79, .o 80, .o 81, .o 82, .o 83, .o 84, .o 85, .o 86, .o 87, .o 88, .o 89, .o 90, .o 91, .o 92, .o 93, .o 94, .o 95, .o 96, .o 97, .o 98, .o 99, .o 100, .o 101, .o 102, .o 103, .o 104, .o 105, .o 106, .o 107, .o 108, .o 109, .o 110, .o 111, .o 112, .o 113]) (fun _ _ => rfl) (fun (i : Nat) (e : Nat) (w : World) => i ≤ (tks s).length + 1 ∧ e ≤ s.length ∧ (i ≤ (tks s).length → lx e (s.drop e) = .ok ((tks s).drop i)) ∧ Sep (fun _ => True) (fun _ => False) w0 w [] A) (fun (i : Nat) (e : Nat) (w : World) => (tks s).length + 1 - i) 0 0 (Ag.k (Ag.k (Ag.o (Ag.k (Ag.k (Ag.i (Ag.i (Ag.o (Ag.o (Ag.o (Ag.o (Ag.k (Ag.k (Ag.k (Ag.k (Ag.k (Ag.k (Ag.k (Ag.k (Ag.k (Ag.k (Ag.k (Ag.k (Ag.k (Ag.o (Ag.o (Ag.o (Ag.o (Ag.o (Ag.o (Ag.o (Ag.o (Ag.o (Ag.o (Ag.o (Ag.o (Ag.o (Ag.o (Ag.o (Ag.o (Ag.o (Ag.o (Ag.o (Ag.o (Ag.o (Ag.o (Ag.o (Ag.o (Ag.o (Ag.o (Ag.o (Ag.o (Ag.o (Ag.o (Ag.o (Ag.o (Ag.o (Ag.o (Ag.o (Ag.o (Ag.o (Ag.o (Ag.o (Ag.o (Ag.o (Ag.o (Ag.o (Ag.o (Ag.o (Ag.o (Ag.o (Ag.o (Ag.o (Ag.o (Ag.o (Ag.o (Ag.o (Ag.o (Ag.o (Ag.o (Ag.o (Ag.o (Ag.o (Ag.o (Ag.o (Ag.o (Ag.o (Ag.o (Ag.o (Ag.o (Ag.o (Ag.o (Ag.o (Ag.o (Ag.o (Ag.o (Ag.o (Ag.o (Ag.o (Ag.o (Ag.o (Ag.o (Ag.o (Ag.o (Ag.o (Ag.o (Ag.o (Ag.o (Ag.o (Ag.o (Ag.o (Ag.o (Ag.o (Ag.o Ag.z)))))))))))))))))))))))))))))))))))))))))))))))))))))))))))))))))))))))))))))))))))))))))))))))))))))))))))))))))) ?_ ?_
    · exact ⟨Nat.zero_le _, Nat.zero_le _, fun _ => hlx, hS⟩
    · rintro i e t113 w hJ
      obtain ⟨hi, he, hr, hS⟩ := hJ
      refine cnrm (mk (mk (mo (mk (mk (mi (mi (mo (mo (mo (mo (mk (mk (mk (mk (mk (mk (mk (mk (mk (mk (mk (mk (mk (mo (mo (mo (mo (mo (mo (mo (mo (mo (mo (mo (mo (mo (mo (mo (mo (mo (mo (mo (mo (mo (mo (mo (mo (mo (mo (mo (mo (mo (mo (mo (mo (mo (mo (mo (mo (mo (mo (mo (mo (mo (mo (mo (mo (mo (mo (mo (mo (mo (mo (mo (mo (mo (mo (mo (mo (mo (mo (mo (mo (mo (mo (mo (mo (mo (mo (mo (mo (mo (mo (mo (mo (mo (mo (mo (mo (mo (mo (mo (mo (mo (mo (mo (mo (mo (mo (mo (mo (mo (mo mz)))))))))))))))))))))))))))))))))))))))))))))))))))))))))))))))))))))))))))))))))))))))))))))))))))))))))))))))))) ?_
      refine cseq ?_
      refine cseq ?_
      refine creg ?_
      refine wl (s_move (et d6) (dt (ps (ps p4))) ?_)
      refine wl (s_move (et d3) (dt (ps (ps p5))) ?_)
      refine wl (s_lenv Tryd.underlying23 (et (ds (ds d5))) (by assumption) (dt (ps (ps p6))) ?_)
      refine wl (s_leq (et (ds (ds d4))) (et (ds (ds d6))) (dt (ps (ps p7))) ?_)
      refine wnil ?_
      refine xn ?_
      refine cifd (et (ds (ds d7))) (fun h2 => ?_) (fun h2 => ?_)
      · refine cskip ?_
        refine xn ?_
        refine cseq ?_
        refine cblock ?_
        refine cseq ?_
        refine creg ?_
        refine wl (s_move (et d0) (dt (ps (ps (ps p0)))) ?_)
        refine wl (s_lens Tryd.underlying9 (et (ds (ds (ds d0)))) (dt (ps (ps (ps p1)))) ?_)
        refine wl (s_assign (et (ds (ds (ds d1)))) (dt p7) ?_)
        refine wl (s_assign ec (dt p8) ?_)
        refine wnil ?_
        refine xn ?_
        refine cseq ?_
        refine cseq ?_
        refine creg ?_
        refine wl (s_move (et d6) (dt (ps (ps (ps p2)))) ?_)
        refine wl (s_move (et d3) (dt (ps (ps (ps p3)))) ?_)
        refine wl (s_lenv Tryd.underlying23 (et (ds (ds (ds d3)))) (by assumption) (dt (ps (ps (ps p4)))) ?_)
        refine wl (s_lss (et (ds (ds (ds d2)))) (et (ds (ds (ds d4)))) (dt (ps (ps (ps p5)))) ?_)
        refine wnil ?_
        refine xn ?_
        refine ccut2 [2, 36, 37, 38, 39, 40, 41, 42, 43, 44, 45, 46, 47] (by decide) (fun (at_ : Nat) (tx : List UInt8) => [.k, .k, .o 2, .k, .k, .k, .k, .i (.int .i64 at_), .i (S tx), .k, .k, .k, .k, .k, .k, .k, .k, .k, .k, .k, .k, .k, .k, .k, .k, .k, .k, .k, .k, .k, .k, .k, .k, .k, .k, .k, .o 36, .o 37, .o 38, .o 39, .o 40, .o 41, .o 42, .o 43, .o 44, .o 45, .o 46, .o 47]) (fun _ _ => rfl) (fun (at_ : Nat) (tx : List UInt8) (w : World) => at_ = e + space (s.drop e) ∧ at_ + tx.length ≤ s.length ∧ (s.drop at_).take tx.length = tx ∧ (i + 1 ≤ (tks s).length → lx (at_ + tx.length) (s.drop (at_ + tx.length)) = .ok ((tks s).drop (i + 1))) ∧ Sep (fun _ => True) (fun _ => False) w0 w [] A) ?_ ?_
        · refine cifd (et (ds (ds (ds d5)))) (fun h3 => ?_) (fun h3 => ?_)
          · obtain ⟨x, hx⟩ : ∃ x, (tks s)[i]? = some x := ⟨_, List.getElem?_eq_getElem (by omega)⟩
            have hd : (tks s).drop i = x :: (tks s).drop (i + 1) := by rw [List.drop_eq_getElem_cons (by omega), ← Option.some.inj ((List.getElem?_eq_getElem (by omega)).symm.trans hx)]
            obtain ⟨b1, c1, rfl⟩ := Toks.slice (hAT _ hS.a) (by omega)
            obtain ⟨hat, hle, htx, ht0, htr⟩ : x.pos = e + space (s.drop e) ∧ x.pos + x.text.length ≤ s.length ∧ (s.drop x.pos).take x.text.length = x.text ∧ 0 < x.text.length ∧ lx (x.pos + x.text.length) (s.drop (x.pos + x.text.length)) = .ok ((tks s).drop (i + 1)) := by
              have h := hr (by omega)
              rw [hd] at h
              rcases lx_inv h with ⟨h, -⟩ | ⟨t, ts, he, a1, a2, a3, a4, a5, a6, a7⟩
              · cases h
              · cases he
                rw [List.length_drop] at a1 a5
                rw [List.drop_drop] at a6 a7
                rw [a3]
                exact ⟨rfl, by omega, a6.symm, a4, by rw [Nat.add_assoc] at a7 ⊢; exact a7⟩
            refine cseq ?_
            refine cdraw (by kernel_rfl) rfl fun w3_ hh_ ho_ ht_ hu_ => ?_
            replace hS := hS.drew hh_ ho_ ht_ hu_
            refine sc_pu (i := 0) (blind_of fun _ _ _ h => h.2) rfl rfl rfl (u_move (et d3)) (ps (ps (ps p6))) ?_
            refine sc_pu (i := 1) (blind_of fun _ _ _ h => h.2) rfl rfl rfl (u_move (et d6)) (ps (ps (ps p7))) ?_
            refine sc_pu (i := 2) (blind_of fun _ _ _ h => h.2) rfl rfl rfl (u_ia Tryd.underlying23 ti30 (et (ds (ds (ds d6)))) (et (ds (ds (ds d7)))) (by omega) rfl) (ps (ps (ps p8))) ?_
            refine sc_pu (i := 3) (blind_of fun _ _ _ h => h.2) rfl rfl rfl (u_fa fa30_3 (et (ds (ds (ds d8)))) rfl) (ps (ps (ps p9))) ?_
            refine sc_pu (i := 5) (blind_of fun _ _ _ h => h.2) rfl rfl rfl (u_move (et d3)) (ps (ps (ps (ps p1)))) ?_
            refine sc_pu (i := 6) (blind_of fun _ _ _ h => h.2) rfl rfl rfl (u_move (et d6)) (ps (ps (ps (ps p2)))) ?_
            refine sc_pu (i := 7) (blind_of fun _ _ _ h => h.2) rfl rfl rfl (u_ia Tryd.underlying23 ti30 (et (ds (ds (ds (ds d1))))) (et (ds (ds (ds (ds d2))))) (by omega) rfl) (ps (ps (ps (ps p3)))) ?_
            refine sc_pu (i := 8) (blind_of fun _ _ _ h => h.2) rfl rfl rfl (u_fa fa30_1 (et (ds (ds (ds (ds d3))))) rfl) (ps (ps (ps (ps p4)))) ?_
            refine sc_rd (i := 4) (blind_of fun _ _ _ h => h.2) rfl rfl rfl (u_load ti3 (et (ds (ds (ds d9)))) ((tok_at (Row.at' (hAT _ hS.a)) hx (by simp)).one (j := 3) d3)) (ps (ps (ps (ps p0)))) ?_
            refine sc_pu (i := 10) (blind_of fun _ _ _ h => h.2) rfl rfl rfl (u_assign (et (ds (ds (ds (ds d0)))))) p7 ?_
            refine sc_rd (i := 9) (blind_of fun _ _ _ h => h.2) rfl rfl rfl (u_load ti9 (et (ds (ds (ds (ds d4))))) ((tok_at (Row.at' (hAT _ hS.a)) hx (by simp)).one (j := 1) d1)) (ps (ps (ps (ps p5)))) ?_
            refine sc_pu (i := 11) (blind_of fun _ _ _ h => h.2) rfl rfl rfl (u_assign (et (ds (ds (ds (ds d5)))))) p8 ?_
            refine sc_nil ?_
            refine xn ?_
            refine cseq ?_
            refine creg ?_
            refine wl (s_move (et d8) (dt (ps (ps (ps (ps p6))))) ?_)
            refine wl (s_eqs (et (ds (ds (ds (ds d6))))) ec (dt (ps (ps (ps (ps p7))))) ?_)
            refine wnil ?_
            refine xn ?_
            refine cifd (et (ds (ds (ds (ds d7))))) (fun h4 => ?_) (fun h4 => ?_)
            · exfalso; rw [h4] at ht0; exact absurd ht0 (by simp)
            · refine cskip ?_
              refine xl ?_
              first
                | exact ⟨x.pos, x.text, _, rfl, (Ag.k (Ag.k (Ag.o (Ag.k (Ag.k (Ag.k (Ag.k (Ag.i (Ag.i (Ag.k (Ag.k (Ag.k (Ag.k (Ag.k (Ag.k (Ag.k (Ag.k (Ag.k (Ag.k (Ag.k (Ag.k (Ag.k (Ag.k (Ag.k (Ag.k (Ag.k (Ag.k (Ag.k (Ag.k (Ag.k (Ag.k (Ag.k (Ag.k (Ag.k (Ag.k (Ag.k (Ag.o (Ag.o (Ag.o (Ag.o (Ag.o (Ag.o (Ag.o (Ag.o (Ag.o (Ag.o (Ag.o (Ag.o Ag.z)))))))))))))))))))))))))))))))))))))))))))))))), hat, hle, htx, fun _ => htr, hS⟩
                | exact ⟨s.length, [], _, rfl, (Ag.k (Ag.k (Ag.o (Ag.k (Ag.k (Ag.k (Ag.k (Ag.i (Ag.i (Ag.k (Ag.k (Ag.k (Ag.k (Ag.k (Ag.k (Ag.k (Ag.k (Ag.k (Ag.k (Ag.k (Ag.k (Ag.k (Ag.k (Ag.k (Ag.k (Ag.k (Ag.k (Ag.k (Ag.k (Ag.k (Ag.k (Ag.k (Ag.k (Ag.k (Ag.k (Ag.k (Ag.o (Ag.o (Ag.o (Ag.o (Ag.o (Ag.o (Ag.o (Ag.o (Ag.o (Ag.o (Ag.o (Ag.o Ag.z)))))))))))))))))))))))))))))))))))))))))))))))), hat, by simp, by simp, fun h => absurd h (by omega), hS⟩
          · have hat : s.length = e + space (s.drop e) := by
              have h := hr (by omega)
              rw [List.drop_eq_nil_of_le (show (tks s).length ≤ i by omega)] at h
              rcases lx_inv h with ⟨-, h⟩ | ⟨t, ts, he, -⟩
              · rw [List.length_drop] at h
                omega
              · cases he
            refine cskip ?_
            refine xl ?_
            first
              | exact ⟨x.pos, x.text, _, rfl, (Ag.k (Ag.k (Ag.o (Ag.k (Ag.k (Ag.k (Ag.k (Ag.i (Ag.i (Ag.k (Ag.k (Ag.k (Ag.k (Ag.k (Ag.k (Ag.k (Ag.k (Ag.k (Ag.k (Ag.k (Ag.k (Ag.k (Ag.k (Ag.k (Ag.k (Ag.k (Ag.k (Ag.k (Ag.k (Ag.k (Ag.k (Ag.k (Ag.k (Ag.k (Ag.k (Ag.k (Ag.o (Ag.o (Ag.o (Ag.o (Ag.o (Ag.o (Ag.o (Ag.o (Ag.o (Ag.o (Ag.o (Ag.o Ag.z)))))))))))))))))))))))))))))))))))))))))))))))), hat, hle, htx, fun _ => htr, hS⟩
              | exact ⟨s.length, [], _, rfl, (Ag.k (Ag.k (Ag.o (Ag.k (Ag.k (Ag.k (Ag.k (Ag.i (Ag.i (Ag.k (Ag.k (Ag.k (Ag.k (Ag.k (Ag.k (Ag.k (Ag.k (Ag.k (Ag.k (Ag.k (Ag.k (Ag.k (Ag.k (Ag.k (Ag.k (Ag.k (Ag.k (Ag.k (Ag.k (Ag.k (Ag.k (Ag.k (Ag.k (Ag.k (Ag.k (Ag.k (Ag.o (Ag.o (Ag.o (Ag.o (Ag.o (Ag.o (Ag.o (Ag.o (Ag.o (Ag.o (Ag.o (Ag.o Ag.z)))))))))))))))))))))))))))))))))))))))))))))))), hat, by simp, by simp, fun h => absurd h (by omega), hS⟩
        · rintro at_ tx t w hJ
          obtain ⟨hat, hle, htx, hnx, hS⟩ := hJ
          refine nrm (mk (mk (mo (mk (mk (mk (mk (mi (mi (mk (mk (mk (mk (mk (mk (mk (mk (mk (mk (mk (mk (mk (mk (mk (mk (mk (mk (mk (mk (mk (mk (mk (mk (mk (mk (mk (mo (mo (mo (mo (mo (mo (mo (mo (mo (mo (mo (mo mz)))))))))))))))))))))))))))))))))))))))))))))))) ?_
          refine xn ?_
          refine cseq ?_
          refine cseq ?_
          refine creg ?_
          refine wl (s_move (et d7) (dt (ps (ps (ps (ps p8))))) ?_)
          refine wl (s_move (et d5) (dt (ps (ps (ps (ps p9))))) ?_)
          refine wl (s_lss (et (ds (ds (ds (ds d8))))) (et (ds (ds (ds (ds d9))))) (dt (ps (ps (ps (ps (ps p0)))))) ?_)
          refine wl (s_move (et (ds (ds (ds (ds (ds d0)))))) (dt (ps (ps (ps (ps (ps p1)))))) ?_)
          refine wspd (ds (ds (ds (ds (ds d1))))) (ps (ps (ps (ps (ps p1))))) (ps (ps (ps (ps (ps p1))))) (fun g15_3 => ?_) (fun g15_3 => ?_)
          · exfalso; omega
          · refine wy rfl (ds (ds (ds (ds (ds d1))))) (s_move (et d7) (dt (ps (ps (ps (ps (ps p2)))))) ?_)
            refine wy rfl (ds (ds (ds (ds (ds d1))))) (s_move (et d8) (dt (ps (ps (ps (ps (ps p3)))))) ?_)
            refine wy rfl (ds (ds (ds (ds (ds d1))))) (s_lens Tryd.underlying9 (et (ds (ds (ds (ds (ds d3)))))) (dt (ps (ps (ps (ps (ps p4)))))) ?_)
            refine wy rfl (ds (ds (ds (ds (ds d1))))) (s_addn (et (ds (ds (ds (ds (ds d2)))))) (et (ds (ds (ds (ds (ds d4)))))) (by omega) (dt (ps (ps (ps (ps (ps p5)))))) ?_)
            refine wy rfl (ds (ds (ds (ds (ds d1))))) (s_move (et d0) (dt (ps (ps (ps (ps (ps p6)))))) ?_)
            refine wy rfl (ds (ds (ds (ds (ds d1))))) (s_lens Tryd.underlying9 (et (ds (ds (ds (ds (ds d6)))))) (dt (ps (ps (ps (ps (ps p7)))))) ?_)
            refine wy rfl (ds (ds (ds (ds (ds d1))))) (s_gtr (et (ds (ds (ds (ds (ds d5)))))) (et (ds (ds (ds (ds (ds d7)))))) (dt (ps (ps (ps (ps (ps p8)))))) ?_)
            refine wl (s_pickf (et (ds (ds (ds (ds (ds d1)))))) (et (ds (ds (ds (ds (ds d8)))))) (dt (ps (ps (ps (ps (ps p9)))))) ?_)
            refine wl (s_move (et (ds (ds (ds (ds (ds d9)))))) (dt (ps (ps (ps (ps (ps (ps p0))))))) ?_)
            refine wspd (ds (ds (ds (ds (ds (ds d0)))))) (ps (ps (ps (ps (ps (ps p0)))))) (ps (ps (ps (ps (ps (ps p0)))))) (fun g15_12 => ?_) (fun g15_12 => ?_)
            · exfalso; omega
            · refine wy rfl (ds (ds (ds (ds (ds (ds d0)))))) (s_move (et d0) (dt (ps (ps (ps (ps (ps (ps p1))))))) ?_)
              refine wy rfl (ds (ds (ds (ds (ds (ds d0)))))) (s_move (et d7) (dt (ps (ps (ps (ps (ps (ps p2))))))) ?_)
              refine wy rfl (ds (ds (ds (ds (ds (ds d0)))))) (s_move (et d7) (dt (ps (ps (ps (ps (ps (ps p3))))))) ?_)
              refine wy rfl (ds (ds (ds (ds (ds (ds d0)))))) (s_move (et d8) (dt (ps (ps (ps (ps (ps (ps p4))))))) ?_)
              refine wy rfl (ds (ds (ds (ds (ds (ds d0)))))) (s_lens Tryd.underlying9 (et (ds (ds (ds (ds (ds (ds d4))))))) (dt (ps (ps (ps (ps (ps (ps p5))))))) ?_)
              refine wy rfl (ds (ds (ds (ds (ds (ds d0)))))) (s_addn (et (ds (ds (ds (ds (ds (ds d3))))))) (et (ds (ds (ds (ds (ds (ds d5))))))) (by omega) (dt (ps (ps (ps (ps (ps (ps p6))))))) ?_)
              refine wy rfl (ds (ds (ds (ds (ds (ds d0)))))) (s_cutsn Tryd.underlying9 (et (ds (ds (ds (ds (ds (ds d1))))))) (et (ds (ds (ds (ds (ds (ds d2))))))) (et (ds (ds (ds (ds (ds (ds d6))))))) (by omega) (dt (ps (ps (ps (ps (ps (ps p7))))))) ?_)
              refine wy rfl (ds (ds (ds (ds (ds (ds d0)))))) (s_move (et d8) (dt (ps (ps (ps (ps (ps (ps p8))))))) ?_)
              refine wy rfl (ds (ds (ds (ds (ds (ds d0)))))) (s_nes (et (ds (ds (ds (ds (ds (ds d7))))))) (et (ds (ds (ds (ds (ds (ds d8))))))) (dt (ps (ps (ps (ps (ps (ps p9))))))) ?_)
              refine wl (s_pickf (et (ds (ds (ds (ds (ds (ds d0))))))) (et (ds (ds (ds (ds (ds (ds d9))))))) (dt (ps (ps (ps (ps (ps (ps (ps p0)))))))) ?_)
              refine wnil ?_
              refine xn ?_
              refine cifd (et (ds (ds (ds (ds (ds (ds (ds d0)))))))) (fun h5 => ?_) (fun h5 => ?_)
              · exact absurd (by rw [List.drop_take, Nat.add_sub_cancel_left]; exact htx) h5
              · refine cskip ?_
                refine xn ?_
                refine cseq ?_
                refine creg ?_
                refine wl (s_assign ec (dt p9) ?_)
                refine wnil ?_
                refine xn ?_
                refine cseq ?_
                refine cseq ?_
                refine creg ?_
                refine wl (s_move (et d5) (dt (ps (ps (ps (ps (ps (ps (ps p1)))))))) ?_)
                refine wl (s_assign (et (ds (ds (ds (ds (ds (ds (ds d1)))))))) (dt (ps p0)) ?_)
                refine wnil ?_
                refine xn ?_
                refine cblock ?_
                refine cloop2 [2, 72, 73, 74, 75, 76, 77, 78, 79, 80, 81, 82, 83, 84, 85, 86, 87, 88, 89, 90, 91, 92, 93, 94, 95, 96, 97, 98, 99, 100, 101, 102, 103, 104, 105, 106, 107, 108, 109] (by decide) (fun (k : Nat) (r : Bool) => [.k, .k, .o 2, .k, .k, .k, .k, .k, .k, .i (.bool r), .i (.int .i64 k), .k, .k, .k, .k, .k, .k, .k, .k, .k, .k, .k, .k, .k, .k, .k, .k, .k, .k, .k, .k, .k, .k, .k, .k, .k, .k, .k, .k, .k, .k, .k, .k, .k, .k, .k, .k, .k, .k, .k, .k, .k, .k, .k, .k, .k, .k, .k, .k, .k, .k, .k, .k, .k, .k, .k, .k, .k, .k, .k, .k, .k, .o 72, .o 73, .o 74, .o 75, .o 76, .o 77, .o 78, .o 79, .o 80, .o 81, .o 82, .o 83, .o 84, .o 85, .o 86, .o 87, .o 88, .o 89, .o 90, .o 91, .o 92, .o 93, .o 94, .o 95, .o 96, .o 97, .o 98, .o 99, .o 100, .o 101, .o 102, .o 103, .o 104, .o 105, .o 106, .o 107, .o 108, .o 109]) (fun _ _ => rfl) (fun (k : Nat) (r : Bool) (w : World) => e ≤ k ∧ k ≤ at_ ∧ seg r ((s.drop k).take (at_ - k)) = true ∧ Sep (fun _ => True) (fun _ => False) w0 w [] A) (fun (k : Nat) (r : Bool) (w : World) => at_ - k) e false (Ag.k (Ag.k (Ag.o (Ag.k (Ag.k (Ag.k (Ag.k (Ag.k (Ag.k (Ag.i (Ag.i (Ag.k (Ag.k (Ag.k (Ag.k (Ag.k (Ag.k (Ag.k (Ag.k (Ag.k (Ag.k (Ag.k (Ag.k (Ag.k (Ag.k (Ag.k (Ag.k (Ag.k (Ag.k (Ag.k (Ag.k (Ag.k (Ag.k (Ag.k (Ag.k (Ag.k (Ag.k (Ag.k (Ag.k (Ag.k (Ag.k (Ag.k (Ag.k (Ag.k (Ag.k (Ag.k (Ag.k (Ag.k (Ag.k (Ag.k (Ag.k (Ag.k (Ag.k (Ag.k (Ag.k (Ag.k (Ag.k (Ag.k (Ag.k (Ag.k (Ag.k (Ag.k (Ag.k (Ag.k (Ag.k (Ag.k (Ag.k (Ag.k (Ag.k (Ag.k (Ag.k (Ag.k (Ag.o (Ag.o (Ag.o (Ag.o (Ag.o (Ag.o (Ag.o (Ag.o (Ag.o (Ag.o (Ag.o (Ag.o (Ag.o (Ag.o (Ag.o (Ag.o (Ag.o (Ag.o (Ag.o (Ag.o (Ag.o (Ag.o (Ag.o (Ag.o (Ag.o (Ag.o (Ag.o (Ag.o (Ag.o (Ag.o (Ag.o (Ag.o (Ag.o (Ag.o (Ag.o (Ag.o (Ag.o (Ag.o Ag.z)))))))))))))))))))))))))))))))))))))))))))))))))))))))))))))))))))))))))))))))))))))))))))))))))))))))))))))) ?_ ?_
                · exact ⟨Nat.le_refl _, by omega, by have := seg_sp (s.drop e) false; rw [hat, Nat.add_sub_cancel_left]; exact this, hS⟩
                · rintro k r t109 w hJ
                  obtain ⟨hek, hk, hsg, hS⟩ := hJ
                  refine cnrm (mk (mk (mo (mk (mk (mk (mk (mk (mk (mi (mi (mk (mk (mk (mk (mk (mk (mk (mk (mk (mk (mk (mk (mk (mk (mk (mk (mk (mk (mk (mk (mk (mk (mk (mk (mk (mk (mk (mk (mk (mk (mk (mk (mk (mk (mk (mk (mk (mk (mk (mk (mk (mk (mk (mk (mk (mk (mk (mk (mk (mk (mk (mk (mk (mk (mk (mk (mk (mk (mk (mk (mk (mo (mo (mo (mo (mo (mo (mo (mo (mo (mo (mo (mo (mo (mo (mo (mo (mo (mo (mo (mo (mo (mo (mo (mo (mo (mo (mo (mo (mo (mo (mo (mo (mo (mo (mo (mo (mo (mo mz)))))))))))))))))))))))))))))))))))))))))))))))))))))))))))))))))))))))))))))))))))))))))))))))))))))))))))))) ?_
                  refine cseq ?_
                  refine cseq ?_
                  refine creg ?_
                  refine wl (s_move (et (ds d0)) (dt (ps (ps (ps (ps (ps (ps (ps p2)))))))) ?_)
                  refine wl (s_move (et d7) (dt (ps (ps (ps (ps (ps (ps (ps p3)))))))) ?_)
                  refine wl (s_lss (et (ds (ds (ds (ds (ds (ds (ds d2)))))))) (et (ds (ds (ds (ds (ds (ds (ds d3)))))))) (dt (ps (ps (ps (ps (ps (ps (ps p4)))))))) ?_)
                  refine wnil ?_
                  refine xn ?_
                  refine cifd (et (ds (ds (ds (ds (ds (ds (ds d4)))))))) (fun h6 => ?_) (fun h6 => ?_)
                  · obtain ⟨c, hc⟩ : ∃ c, s[k]? = some c := ⟨_, List.getElem?_eq_getElem (by omega)⟩
                    have hdk : s.drop k = c :: s.drop (k + 1) := by rw [List.drop_eq_getElem_cons (by omega), ← Option.some.inj ((List.getElem?_eq_getElem (by omega)).symm.trans hc)]
                    rw [hdk, show at_ - k = (at_ - (k + 1)) + 1 by omega, List.take_succ_cons] at hsg
                    refine cskip ?_
                    refine xn ?_
                    refine cseq ?_
                    refine cblock ?_
                    refine cseq ?_
                    refine ccut [77, 78, 79, 80, 81, 82, 83, 84, 85, 86, 87, 88, 89] (by decide) (fun (b : Bool) => [.k, .k, .k, .k, .k, .k, .k, .k, .k, .i (.bool b), .k, .k, .k, .k, .k, .k, .k, .k, .k, .k, .k, .k, .k, .k, .k, .k, .k, .k, .k, .k, .k, .k, .k, .k, .k, .k, .k, .k, .k, .k, .k, .k, .k, .k, .k, .k, .k, .k, .k, .k, .k, .k, .k, .k, .k, .k, .k, .k, .k, .k, .k, .k, .k, .k, .k, .k, .k, .k, .k, .k, .k, .k, .k, .k, .k, .k, .k, .o 77, .o 78, .o 79, .o 80, .o 81, .o 82, .o 83, .o 84, .o 85, .o 86, .o 87, .o 88, .o 89]) (fun _ => rfl) (fun (b : Bool) (w : World) => (b = true ↔ ((r = true ∨ c.toNat = 35) ∧ c.toNat ≠ 10)) ∧ Sep (fun _ => True) (fun _ => False) w0 w [] A) ?_ ?_
                    · refine creg ?_
                      refine wl (s_move (et d9) (dt (ps (ps (ps (ps (ps (ps (ps p7)))))))) ?_)
                      refine wl (s_move (et (ds (ds (ds (ds (ds (ds (ds d7)))))))) (dt (ps (ps (ps (ps (ps (ps (ps p8)))))))) ?_)
                      refine wsp (ds (ds (ds (ds (ds (ds (ds d8))))))) (ps (ps (ps (ps (ps (ps (ps p8))))))) (ps (ps (ps (ps (ps (ps (ps p8))))))) (fun g21_1 => ?_) (fun g21_1 => ?_)
                      · obtain rfl : r = true := g21_1
                        refine wn rfl (ds (ds (ds (ds (ds (ds (ds d8))))))) rfl (dt (ps (ps (ps (ps (ps (ps (ps p9)))))))) ?_
                        refine wn rfl (ds (ds (ds (ds (ds (ds (ds d8))))))) rfl (dt (ps (ps (ps (ps (ps (ps (ps (ps p0))))))))) ?_
                        refine wn rfl (ds (ds (ds (ds (ds (ds (ds d8))))))) rfl (dt (ps (ps (ps (ps (ps (ps (ps (ps p1))))))))) ?_
                        refine wn rfl (ds (ds (ds (ds (ds (ds (ds d8))))))) rfl (dt (ps (ps (ps (ps (ps (ps (ps (ps p2))))))))) ?_
                        refine wl (s_pickt (et (ds (ds (ds (ds (ds (ds (ds d8)))))))) ec (dt (ps (ps (ps (ps (ps (ps (ps (ps p3))))))))) ?_)
                        refine wl (s_move (et (ds (ds (ds (ds (ds (ds (ds (ds d3))))))))) (dt (ps (ps (ps (ps (ps (ps (ps (ps p4))))))))) ?_)
                        refine wy rfl (ds (ds (ds (ds (ds (ds (ds (ds d4)))))))) (s_move (et d0) (dt (ps (ps (ps (ps (ps (ps (ps (ps p5))))))))) ?_)
                        refine wy rfl (ds (ds (ds (ds (ds (ds (ds (ds d4)))))))) (s_move (et (ds d0)) (dt (ps (ps (ps (ps (ps (ps (ps (ps p6))))))))) ?_)
                        refine wy rfl (ds (ds (ds (ds (ds (ds (ds (ds d4)))))))) (s_idxsn Tryd.underlying9 (et (ds (ds (ds (ds (ds (ds (ds (ds d5))))))))) (et (ds (ds (ds (ds (ds (ds (ds (ds d6))))))))) hc (dt (ps (ps (ps (ps (ps (ps (ps (ps p7))))))))) ?_)
                        refine wy rfl (ds (ds (ds (ds (ds (ds (ds (ds d4)))))))) (s_nei (et (ds (ds (ds (ds (ds (ds (ds (ds d7))))))))) ec (dt (ps (ps (ps (ps (ps (ps (ps (ps p8))))))))) ?_)
                        refine wl (s_pickt (et (ds (ds (ds (ds (ds (ds (ds (ds d4))))))))) (et (ds (ds (ds (ds (ds (ds (ds (ds d8))))))))) (dt (ps (ps (ps (ps (ps (ps (ps (ps p9))))))))) ?_)
                        refine wl (s_assign (et (ds (ds (ds (ds (ds (ds (ds (ds d9))))))))) (dt p9) ?_)
                        refine wnil ?_
                        refine xl ?_
                        exact ⟨_, _, rfl, (Ag.k (Ag.k (Ag.k (Ag.k (Ag.k (Ag.k (Ag.k (Ag.k (Ag.k (Ag.i (Ag.k (Ag.k (Ag.k (Ag.k (Ag.k (Ag.k (Ag.k (Ag.k (Ag.k (Ag.k (Ag.k (Ag.k (Ag.k (Ag.k (Ag.k (Ag.k (Ag.k (Ag.k (Ag.k (Ag.k (Ag.k (Ag.k (Ag.k (Ag.k (Ag.k (Ag.k (Ag.k (Ag.k (Ag.k (Ag.k (Ag.k (Ag.k (Ag.k (Ag.k (Ag.k (Ag.k (Ag.k (Ag.k (Ag.k (Ag.k (Ag.k (Ag.k (Ag.k (Ag.k (Ag.k (Ag.k (Ag.k (Ag.k (Ag.k (Ag.k (Ag.k (Ag.k (Ag.k (Ag.k (Ag.k (Ag.k (Ag.k (Ag.k (Ag.k (Ag.k (Ag.k (Ag.k (Ag.k (Ag.k (Ag.k (Ag.k (Ag.k (Ag.o (Ag.o (Ag.o (Ag.o (Ag.o (Ag.o (Ag.o (Ag.o (Ag.o (Ag.o (Ag.o (Ag.o (Ag.o Ag.z)))))))))))))))))))))))))))))))))))))))))))))))))))))))))))))))))))))))))))))))))))))))))), by
                          first
                            | (constructor
                               · intro h; have := of_decide_eq_true h; simp; omega
                               · intro h; exact decide_eq_true (by omega))
                            | (simp; omega), hS⟩
                      · obtain rfl : r = false := g21_1
                        refine wy rfl (ds (ds (ds (ds (ds (ds (ds d8))))))) (s_move (et d0) (dt (ps (ps (ps (ps (ps (ps (ps p9)))))))) ?_)
                        refine wy rfl (ds (ds (ds (ds (ds (ds (ds d8))))))) (s_move (et (ds d0)) (dt (ps (ps (ps (ps (ps (ps (ps (ps p0))))))))) ?_)
                        refine wy rfl (ds (ds (ds (ds (ds (ds (ds d8))))))) (s_idxsn Tryd.underlying9 (et (ds (ds (ds (ds (ds (ds (ds d9)))))))) (et (ds (ds (ds (ds (ds (ds (ds (ds d0))))))))) hc (dt (ps (ps (ps (ps (ps (ps (ps (ps p1))))))))) ?_)
                        refine wy rfl (ds (ds (ds (ds (ds (ds (ds d8))))))) (s_eqi (et (ds (ds (ds (ds (ds (ds (ds (ds d1))))))))) ec (dt (ps (ps (ps (ps (ps (ps (ps (ps p2))))))))) ?_)
                        refine wl (s_pickf (et (ds (ds (ds (ds (ds (ds (ds d8)))))))) (et (ds (ds (ds (ds (ds (ds (ds (ds d2))))))))) (dt (ps (ps (ps (ps (ps (ps (ps (ps p3))))))))) ?_)
                        refine wl (s_move (et (ds (ds (ds (ds (ds (ds (ds (ds d3))))))))) (dt (ps (ps (ps (ps (ps (ps (ps (ps p4))))))))) ?_)
                        refine wspd (ds (ds (ds (ds (ds (ds (ds (ds d4)))))))) (ps (ps (ps (ps (ps (ps (ps (ps p4)))))))) (ps (ps (ps (ps (ps (ps (ps (ps p4)))))))) (fun g21_7 => ?_) (fun g21_7 => ?_)
                        · refine wy rfl (ds (ds (ds (ds (ds (ds (ds (ds d4)))))))) (s_move (et d0) (dt (ps (ps (ps (ps (ps (ps (ps (ps p5))))))))) ?_)
                          refine wy rfl (ds (ds (ds (ds (ds (ds (ds (ds d4)))))))) (s_move (et (ds d0)) (dt (ps (ps (ps (ps (ps (ps (ps (ps p6))))))))) ?_)
                          refine wy rfl (ds (ds (ds (ds (ds (ds (ds (ds d4)))))))) (s_idxsn Tryd.underlying9 (et (ds (ds (ds (ds (ds (ds (ds (ds d5))))))))) (et (ds (ds (ds (ds (ds (ds (ds (ds d6))))))))) hc (dt (ps (ps (ps (ps (ps (ps (ps (ps p7))))))))) ?_)
                          refine wy rfl (ds (ds (ds (ds (ds (ds (ds (ds d4)))))))) (s_nei (et (ds (ds (ds (ds (ds (ds (ds (ds d7))))))))) ec (dt (ps (ps (ps (ps (ps (ps (ps (ps p8))))))))) ?_)
                          refine wl (s_pickt (et (ds (ds (ds (ds (ds (ds (ds (ds d4))))))))) (et (ds (ds (ds (ds (ds (ds (ds (ds d8))))))))) (dt (ps (ps (ps (ps (ps (ps (ps (ps p9))))))))) ?_)
                          refine wl (s_assign (et (ds (ds (ds (ds (ds (ds (ds (ds d9))))))))) (dt p9) ?_)
                          refine wnil ?_
                          refine xl ?_
                          exact ⟨_, _, rfl, (Ag.k (Ag.k (Ag.k (Ag.k (Ag.k (Ag.k (Ag.k (Ag.k (Ag.k (Ag.i (Ag.k (Ag.k (Ag.k (Ag.k (Ag.k (Ag.k (Ag.k (Ag.k (Ag.k (Ag.k (Ag.k (Ag.k (Ag.k (Ag.k (Ag.k (Ag.k (Ag.k (Ag.k (Ag.k (Ag.k (Ag.k (Ag.k (Ag.k (Ag.k (Ag.k (Ag.k (Ag.k (Ag.k (Ag.k (Ag.k (Ag.k (Ag.k (Ag.k (Ag.k (Ag.k (Ag.k (Ag.k (Ag.k (Ag.k (Ag.k (Ag.k (Ag.k (Ag.k (Ag.k (Ag.k (Ag.k (Ag.k (Ag.k (Ag.k (Ag.k (Ag.k (Ag.k (Ag.k (Ag.k (Ag.k (Ag.k (Ag.k (Ag.k (Ag.k (Ag.k (Ag.k (Ag.k (Ag.k (Ag.k (Ag.k (Ag.k (Ag.k (Ag.o (Ag.o (Ag.o (Ag.o (Ag.o (Ag.o (Ag.o (Ag.o (Ag.o (Ag.o (Ag.o (Ag.o (Ag.o Ag.z)))))))))))))))))))))))))))))))))))))))))))))))))))))))))))))))))))))))))))))))))))))))))), by
                            first
                              | (constructor
                                 · intro h; have := of_decide_eq_true h; simp; omega
                                 · intro h; exact decide_eq_true (by omega))
                              | (simp; omega), hS⟩
                        · refine wn rfl (ds (ds (ds (ds (ds (ds (ds (ds d4)))))))) rfl (dt (ps (ps (ps (ps (ps (ps (ps (ps p5))))))))) ?_
                          refine wn rfl (ds (ds (ds (ds (ds (ds (ds (ds d4)))))))) rfl (dt (ps (ps (ps (ps (ps (ps (ps (ps p6))))))))) ?_
                          refine wn rfl (ds (ds (ds (ds (ds (ds (ds (ds d4)))))))) rfl (dt (ps (ps (ps (ps (ps (ps (ps (ps p7))))))))) ?_
                          refine wn rfl (ds (ds (ds (ds (ds (ds (ds (ds d4)))))))) rfl (dt (ps (ps (ps (ps (ps (ps (ps (ps p8))))))))) ?_
                          refine wl (s_pickf (et (ds (ds (ds (ds (ds (ds (ds (ds d4))))))))) ec (dt (ps (ps (ps (ps (ps (ps (ps (ps p9))))))))) ?_)
                          refine wl (s_assign (et (ds (ds (ds (ds (ds (ds (ds (ds d9))))))))) (dt p9) ?_)
                          refine wnil ?_
                          refine xl ?_
                          exact ⟨_, _, rfl, (Ag.k (Ag.k (Ag.k (Ag.k (Ag.k (Ag.k (Ag.k (Ag.k (Ag.k (Ag.i (Ag.k (Ag.k (Ag.k (Ag.k (Ag.k (Ag.k (Ag.k (Ag.k (Ag.k (Ag.k (Ag.k (Ag.k (Ag.k (Ag.k (Ag.k (Ag.k (Ag.k (Ag.k (Ag.k (Ag.k (Ag.k (Ag.k (Ag.k (Ag.k (Ag.k (Ag.k (Ag.k (Ag.k (Ag.k (Ag.k (Ag.k (Ag.k (Ag.k (Ag.k (Ag.k (Ag.k (Ag.k (Ag.k (Ag.k (Ag.k (Ag.k (Ag.k (Ag.k (Ag.k (Ag.k (Ag.k (Ag.k (Ag.k (Ag.k (Ag.k (Ag.k (Ag.k (Ag.k (Ag.k (Ag.k (Ag.k (Ag.k (Ag.k (Ag.k (Ag.k (Ag.k (Ag.k (Ag.k (Ag.k (Ag.k (Ag.k (Ag.k (Ag.o (Ag.o (Ag.o (Ag.o (Ag.o (Ag.o (Ag.o (Ag.o (Ag.o (Ag.o (Ag.o (Ag.o (Ag.o Ag.z)))))))))))))))))))))))))))))))))))))))))))))))))))))))))))))))))))))))))))))))))))))))))), by
                            first
                              | (constructor
                                 · intro h; have := of_decide_eq_true h; simp; omega
                                 · intro h; exact decide_eq_true (by omega))
                              | (simp; omega), hS⟩
                    · rintro b t w hJ
                      obtain ⟨hb, hS⟩ := hJ
                      refine nrm (mk (mk (mk (mk (mk (mk (mk (mk (mk (mi (mk (mk (mk (mk (mk (mk (mk (mk (mk (mk (mk (mk (mk (mk (mk (mk (mk (mk (mk (mk (mk (mk (mk (mk (mk (mk (mk (mk (mk (mk (mk (mk (mk (mk (mk (mk (mk (mk (mk (mk (mk (mk (mk (mk (mk (mk (mk (mk (mk (mk (mk (mk (mk (mk (mk (mk (mk (mk (mk (mk (mk (mk (mk (mk (mk (mk (mk (mo (mo (mo (mo (mo (mo (mo (mo (mo (mo (mo (mo (mo mz)))))))))))))))))))))))))))))))))))))))))))))))))))))))))))))))))))))))))))))))))))))))))) ?_
                      refine xn ?_
                      refine cseq ?_
                      refine creg ?_
                      refine wl (s_move (et d9) (dt (ps (ps (ps (ps (ps (ps (ps (ps (ps p0)))))))))) ?_)
                      refine wl (s_not (et (ds (ds (ds (ds (ds (ds (ds (ds (ds d0)))))))))) (dt (ps (ps (ps (ps (ps (ps (ps (ps (ps p1)))))))))) ?_)
                      refine wl (s_move (et (ds (ds (ds (ds (ds (ds (ds (ds (ds d1)))))))))) (dt (ps (ps (ps (ps (ps (ps (ps (ps (ps p2)))))))))) ?_)
                      refine wsp (ds (ds (ds (ds (ds (ds (ds (ds (ds d2))))))))) (ps (ps (ps (ps (ps (ps (ps (ps (ps p2))))))))) (ps (ps (ps (ps (ps (ps (ps (ps (ps p2))))))))) (fun g22_2 => ?_) (fun g22_2 => ?_)
                      · refine wy rfl (ds (ds (ds (ds (ds (ds (ds (ds (ds d2))))))))) (s_move (et d0) (dt (ps (ps (ps (ps (ps (ps (ps (ps (ps p3)))))))))) ?_)
                        refine wy rfl (ds (ds (ds (ds (ds (ds (ds (ds (ds d2))))))))) (s_move (et (ds d0)) (dt (ps (ps (ps (ps (ps (ps (ps (ps (ps p4)))))))))) ?_)
                        refine wy rfl (ds (ds (ds (ds (ds (ds (ds (ds (ds d2))))))))) (s_idxsn Tryd.underlying9 (et (ds (ds (ds (ds (ds (ds (ds (ds (ds d3)))))))))) (et (ds (ds (ds (ds (ds (ds (ds (ds (ds d4)))))))))) hc (dt (ps (ps (ps (ps (ps (ps (ps (ps (ps p5)))))))))) ?_)
                        refine wy rfl (ds (ds (ds (ds (ds (ds (ds (ds (ds d2))))))))) (s_nei (et (ds (ds (ds (ds (ds (ds (ds (ds (ds d5)))))))))) ec (dt (ps (ps (ps (ps (ps (ps (ps (ps (ps p6)))))))))) ?_)
                        refine wl (s_pickt (et (ds (ds (ds (ds (ds (ds (ds (ds (ds d2)))))))))) (et (ds (ds (ds (ds (ds (ds (ds (ds (ds d6)))))))))) (dt (ps (ps (ps (ps (ps (ps (ps (ps (ps p7)))))))))) ?_)
                        refine wl (s_move (et (ds (ds (ds (ds (ds (ds (ds (ds (ds d7)))))))))) (dt (ps (ps (ps (ps (ps (ps (ps (ps (ps p8)))))))))) ?_)
                        refine wspd (ds (ds (ds (ds (ds (ds (ds (ds (ds d8))))))))) (ps (ps (ps (ps (ps (ps (ps (ps (ps p8))))))))) (ps (ps (ps (ps (ps (ps (ps (ps (ps p8))))))))) (fun g22_8 => ?_) (fun g22_8 => ?_)
                        · refine wy rfl (ds (ds (ds (ds (ds (ds (ds (ds (ds d8))))))))) (s_move (et d0) (dt (ps (ps (ps (ps (ps (ps (ps (ps (ps p9)))))))))) ?_)
                          refine wy rfl (ds (ds (ds (ds (ds (ds (ds (ds (ds d8))))))))) (s_move (et (ds d0)) (dt (ps (ps (ps (ps (ps (ps (ps (ps (ps (ps p0))))))))))) ?_)
                          refine wy rfl (ds (ds (ds (ds (ds (ds (ds (ds (ds d8))))))))) (s_idxsn Tryd.underlying9 (et (ds (ds (ds (ds (ds (ds (ds (ds (ds d9)))))))))) (et (ds (ds (ds (ds (ds (ds (ds (ds (ds (ds d0))))))))))) hc (dt (ps (ps (ps (ps (ps (ps (ps (ps (ps (ps p1))))))))))) ?_)
                          refine wy rfl (ds (ds (ds (ds (ds (ds (ds (ds (ds d8))))))))) (s_nei (et (ds (ds (ds (ds (ds (ds (ds (ds (ds (ds d1))))))))))) ec (dt (ps (ps (ps (ps (ps (ps (ps (ps (ps (ps p2))))))))))) ?_)
                          refine wl (s_pickt (et (ds (ds (ds (ds (ds (ds (ds (ds (ds d8)))))))))) (et (ds (ds (ds (ds (ds (ds (ds (ds (ds (ds d2))))))))))) (dt (ps (ps (ps (ps (ps (ps (ps (ps (ps (ps p3))))))))))) ?_)
                          refine wl (s_move (et (ds (ds (ds (ds (ds (ds (ds (ds (ds (ds d3))))))))))) (dt (ps (ps (ps (ps (ps (ps (ps (ps (ps (ps p4))))))))))) ?_)
                          refine wspd (ds (ds (ds (ds (ds (ds (ds (ds (ds (ds d4)))))))))) (ps (ps (ps (ps (ps (ps (ps (ps (ps (ps p4)))))))))) (ps (ps (ps (ps (ps (ps (ps (ps (ps (ps p4)))))))))) (fun g22_14 => ?_) (fun g22_14 => ?_)
                          · refine wy rfl (ds (ds (ds (ds (ds (ds (ds (ds (ds (ds d4)))))))))) (s_move (et d0) (dt (ps (ps (ps (ps (ps (ps (ps (ps (ps (ps p5))))))))))) ?_)
                            refine wy rfl (ds (ds (ds (ds (ds (ds (ds (ds (ds (ds d4)))))))))) (s_move (et (ds d0)) (dt (ps (ps (ps (ps (ps (ps (ps (ps (ps (ps p6))))))))))) ?_)
                            refine wy rfl (ds (ds (ds (ds (ds (ds (ds (ds (ds (ds d4)))))))))) (s_idxsn Tryd.underlying9 (et (ds (ds (ds (ds (ds (ds (ds (ds (ds (ds d5))))))))))) (et (ds (ds (ds (ds (ds (ds (ds (ds (ds (ds d6))))))))))) hc (dt (ps (ps (ps (ps (ps (ps (ps (ps (ps (ps p7))))))))))) ?_)
                            refine wy rfl (ds (ds (ds (ds (ds (ds (ds (ds (ds (ds d4)))))))))) (s_nei (et (ds (ds (ds (ds (ds (ds (ds (ds (ds (ds d7))))))))))) ec (dt (ps (ps (ps (ps (ps (ps (ps (ps (ps (ps p8))))))))))) ?_)
                            refine wl (s_pickt (et (ds (ds (ds (ds (ds (ds (ds (ds (ds (ds d4))))))))))) (et (ds (ds (ds (ds (ds (ds (ds (ds (ds (ds d8))))))))))) (dt (ps (ps (ps (ps (ps (ps (ps (ps (ps (ps p9))))))))))) ?_)
                            refine wnil ?_
                            refine xn ?_
                            refine cifd (et (ds (ds (ds (ds (ds (ds (ds (ds (ds (ds d9))))))))))) (fun h7 => ?_) (fun h7 => ?_)
                            · exfalso
                              have h := seg_no hsg
                              rcases h with h | h
                              · rw [hb.2 h] at g22_2; cases g22_2
                              · omega
                            · refine cskip ?_
                              refine (fun h => bn (xn h)) ?_
                              refine creg ?_
                              refine wl (s_move (et (ds d0)) (dt (ps (ps (ps (ps (ps (ps (ps p5)))))))) ?_)
                              refine wl (s_addn (b := 1) (et (ds (ds (ds (ds (ds (ds (ds d5)))))))) ec (by omega) (dt (ps (ps (ps (ps (ps (ps (ps p6)))))))) ?_)
                              refine wl (s_assign (et (ds (ds (ds (ds (ds (ds (ds d6)))))))) (dt (ps p0)) ?_)
                              refine wnil ?_
                              refine xl ?_
                              exact ⟨k + 1, b, _, rfl, (Ag.k (Ag.k (Ag.o (Ag.k (Ag.k (Ag.k (Ag.k (Ag.k (Ag.k (Ag.i (Ag.i (Ag.k (Ag.k (Ag.k (Ag.k (Ag.k (Ag.k (Ag.k (Ag.k (Ag.k (Ag.k (Ag.k (Ag.k (Ag.k (Ag.k (Ag.k (Ag.k (Ag.k (Ag.k (Ag.k (Ag.k (Ag.k (Ag.k (Ag.k (Ag.k (Ag.k (Ag.k (Ag.k (Ag.k (Ag.k (Ag.k (Ag.k (Ag.k (Ag.k (Ag.k (Ag.k (Ag.k (Ag.k (Ag.k (Ag.k (Ag.k (Ag.k (Ag.k (Ag.k (Ag.k (Ag.k (Ag.k (Ag.k (Ag.k (Ag.k (Ag.k (Ag.k (Ag.k (Ag.k (Ag.k (Ag.k (Ag.k (Ag.k (Ag.k (Ag.k (Ag.k (Ag.k (Ag.o (Ag.o (Ag.o (Ag.o (Ag.o (Ag.o (Ag.o (Ag.o (Ag.o (Ag.o (Ag.o (Ag.o (Ag.o (Ag.o (Ag.o (Ag.o (Ag.o (Ag.o (Ag.o (Ag.o (Ag.o (Ag.o (Ag.o (Ag.o (Ag.o (Ag.o (Ag.o (Ag.o (Ag.o (Ag.o (Ag.o (Ag.o (Ag.o (Ag.o (Ag.o (Ag.o (Ag.o (Ag.o Ag.z)))))))))))))))))))))))))))))))))))))))))))))))))))))))))))))))))))))))))))))))))))))))))))))))))))))))))))))), ⟨by omega, by omega, seg_go hsg hb, hS⟩, by omega⟩
                          · refine wn rfl (ds (ds (ds (ds (ds (ds (ds (ds (ds (ds d4)))))))))) rfl (dt (ps (ps (ps (ps (ps (ps (ps (ps (ps (ps p5))))))))))) ?_
                            refine wn rfl (ds (ds (ds (ds (ds (ds (ds (ds (ds (ds d4)))))))))) rfl (dt (ps (ps (ps (ps (ps (ps (ps (ps (ps (ps p6))))))))))) ?_
                            refine wn rfl (ds (ds (ds (ds (ds (ds (ds (ds (ds (ds d4)))))))))) rfl (dt (ps (ps (ps (ps (ps (ps (ps (ps (ps (ps p7))))))))))) ?_
                            refine wn rfl (ds (ds (ds (ds (ds (ds (ds (ds (ds (ds d4)))))))))) rfl (dt (ps (ps (ps (ps (ps (ps (ps (ps (ps (ps p8))))))))))) ?_
                            refine wl (s_pickf (et (ds (ds (ds (ds (ds (ds (ds (ds (ds (ds d4))))))))))) ec (dt (ps (ps (ps (ps (ps (ps (ps (ps (ps (ps p9))))))))))) ?_)
                            refine wnil ?_
                            refine xn ?_
                            refine ciff (et (ds (ds (ds (ds (ds (ds (ds (ds (ds (ds d9))))))))))) ?_
                            refine cskip ?_
                            refine (fun h => bn (xn h)) ?_
                            refine creg ?_
                            refine wl (s_move (et (ds d0)) (dt (ps (ps (ps (ps (ps (ps (ps p5)))))))) ?_)
                            refine wl (s_addn (b := 1) (et (ds (ds (ds (ds (ds (ds (ds d5)))))))) ec (by omega) (dt (ps (ps (ps (ps (ps (ps (ps p6)))))))) ?_)
                            refine wl (s_assign (et (ds (ds (ds (ds (ds (ds (ds d6)))))))) (dt (ps p0)) ?_)
                            refine wnil ?_
                            refine xl ?_
                            exact ⟨k + 1, b, _, rfl, (Ag.k (Ag.k (Ag.o (Ag.k (Ag.k (Ag.k (Ag.k (Ag.k (Ag.k (Ag.i (Ag.i (Ag.k (Ag.k (Ag.k (Ag.k (Ag.k (Ag.k (Ag.k (Ag.k (Ag.k (Ag.k (Ag.k (Ag.k (Ag.k (Ag.k (Ag.k (Ag.k (Ag.k (Ag.k (Ag.k (Ag.k (Ag.k (Ag.k (Ag.k (Ag.k (Ag.k (Ag.k (Ag.k (Ag.k (Ag.k (Ag.k (Ag.k (Ag.k (Ag.k (Ag.k (Ag.k (Ag.k (Ag.k (Ag.k (Ag.k (Ag.k (Ag.k (Ag.k (Ag.k (Ag.k (Ag.k (Ag.k (Ag.k (Ag.k (Ag.k (Ag.k (Ag.k (Ag.k (Ag.k (Ag.k (Ag.k (Ag.k (Ag.k (Ag.k (Ag.k (Ag.k (Ag.k (Ag.o (Ag.o (Ag.o (Ag.o (Ag.o (Ag.o (Ag.o (Ag.o (Ag.o (Ag.o (Ag.o (Ag.o (Ag.o (Ag.o (Ag.o (Ag.o (Ag.o (Ag.o (Ag.o (Ag.o (Ag.o (Ag.o (Ag.o (Ag.o (Ag.o (Ag.o (Ag.o (Ag.o (Ag.o (Ag.o (Ag.o (Ag.o (Ag.o (Ag.o (Ag.o (Ag.o (Ag.o (Ag.o Ag.z)))))))))))))))))))))))))))))))))))))))))))))))))))))))))))))))))))))))))))))))))))))))))))))))))))))))))))))), ⟨by omega, by omega, seg_go hsg hb, hS⟩, by omega⟩
                        · refine wn rfl (ds (ds (ds (ds (ds (ds (ds (ds (ds d8))))))))) rfl (dt (ps (ps (ps (ps (ps (ps (ps (ps (ps p9)))))))))) ?_
                          refine wn rfl (ds (ds (ds (ds (ds (ds (ds (ds (ds d8))))))))) rfl (dt (ps (ps (ps (ps (ps (ps (ps (ps (ps (ps p0))))))))))) ?_
                          refine wn rfl (ds (ds (ds (ds (ds (ds (ds (ds (ds d8))))))))) rfl (dt (ps (ps (ps (ps (ps (ps (ps (ps (ps (ps p1))))))))))) ?_
                          refine wn rfl (ds (ds (ds (ds (ds (ds (ds (ds (ds d8))))))))) rfl (dt (ps (ps (ps (ps (ps (ps (ps (ps (ps (ps p2))))))))))) ?_
                          refine wl (s_pickf (et (ds (ds (ds (ds (ds (ds (ds (ds (ds d8)))))))))) ec (dt (ps (ps (ps (ps (ps (ps (ps (ps (ps (ps p3))))))))))) ?_)
                          refine wl (s_move (et (ds (ds (ds (ds (ds (ds (ds (ds (ds (ds d3))))))))))) (dt (ps (ps (ps (ps (ps (ps (ps (ps (ps (ps p4))))))))))) ?_)
                          refine wn rfl (ds (ds (ds (ds (ds (ds (ds (ds (ds (ds d4)))))))))) rfl (dt (ps (ps (ps (ps (ps (ps (ps (ps (ps (ps p5))))))))))) ?_
                          refine wn rfl (ds (ds (ds (ds (ds (ds (ds (ds (ds (ds d4)))))))))) rfl (dt (ps (ps (ps (ps (ps (ps (ps (ps (ps (ps p6))))))))))) ?_
                          refine wn rfl (ds (ds (ds (ds (ds (ds (ds (ds (ds (ds d4)))))))))) rfl (dt (ps (ps (ps (ps (ps (ps (ps (ps (ps (ps p7))))))))))) ?_
                          refine wn rfl (ds (ds (ds (ds (ds (ds (ds (ds (ds (ds d4)))))))))) rfl (dt (ps (ps (ps (ps (ps (ps (ps (ps (ps (ps p8))))))))))) ?_
                          refine wl (s_pickf (et (ds (ds (ds (ds (ds (ds (ds (ds (ds (ds d4))))))))))) ec (dt (ps (ps (ps (ps (ps (ps (ps (ps (ps (ps p9))))))))))) ?_)
                          refine wnil ?_
                          refine xn ?_
                          refine ciff (et (ds (ds (ds (ds (ds (ds (ds (ds (ds (ds d9))))))))))) ?_
                          refine cskip ?_
                          refine (fun h => bn (xn h)) ?_
                          refine creg ?_
                          refine wl (s_move (et (ds d0)) (dt (ps (ps (ps (ps (ps (ps (ps p5)))))))) ?_)
                          refine wl (s_addn (b := 1) (et (ds (ds (ds (ds (ds (ds (ds d5)))))))) ec (by omega) (dt (ps (ps (ps (ps (ps (ps (ps p6)))))))) ?_)
                          refine wl (s_assign (et (ds (ds (ds (ds (ds (ds (ds d6)))))))) (dt (ps p0)) ?_)
                          refine wnil ?_
                          refine xl ?_
                          exact ⟨k + 1, b, _, rfl, (Ag.k (Ag.k (Ag.o (Ag.k (Ag.k (Ag.k (Ag.k (Ag.k (Ag.k (Ag.i (Ag.i (Ag.k (Ag.k (Ag.k (Ag.k (Ag.k (Ag.k (Ag.k (Ag.k (Ag.k (Ag.k (Ag.k (Ag.k (Ag.k (Ag.k (Ag.k (Ag.k (Ag.k (Ag.k (Ag.k (Ag.k (Ag.k (Ag.k (Ag.k (Ag.k (Ag.k (Ag.k (Ag.k (Ag.k (Ag.k (Ag.k (Ag.k (Ag.k (Ag.k (Ag.k (Ag.k (Ag.k (Ag.k (Ag.k (Ag.k (Ag.k (Ag.k (Ag.k (Ag.k (Ag.k (Ag.k (Ag.k (Ag.k (Ag.k (Ag.k (Ag.k (Ag.k (Ag.k (Ag.k (Ag.k (Ag.k (Ag.k (Ag.k (Ag.k (Ag.k (Ag.k (Ag.k (Ag.o (Ag.o (Ag.o (Ag.o (Ag.o (Ag.o (Ag.o (Ag.o (Ag.o (Ag.o (Ag.o (Ag.o (Ag.o (Ag.o (Ag.o (Ag.o (Ag.o (Ag.o (Ag.o (Ag.o (Ag.o (Ag.o (Ag.o (Ag.o (Ag.o (Ag.o (Ag.o (Ag.o (Ag.o (Ag.o (Ag.o (Ag.o (Ag.o (Ag.o (Ag.o (Ag.o (Ag.o (Ag.o Ag.z)))))))))))))))))))))))))))))))))))))))))))))))))))))))))))))))))))))))))))))))))))))))))))))))))))))))))))))), ⟨by omega, by omega, seg_go hsg hb, hS⟩, by omega⟩
                      · refine wn rfl (ds (ds (ds (ds (ds (ds (ds (ds (ds d2))))))))) rfl (dt (ps (ps (ps (ps (ps (ps (ps (ps (ps p3)))))))))) ?_
                        refine wn rfl (ds (ds (ds (ds (ds (ds (ds (ds (ds d2))))))))) rfl (dt (ps (ps (ps (ps (ps (ps (ps (ps (ps p4)))))))))) ?_
                        refine wn rfl (ds (ds (ds (ds (ds (ds (ds (ds (ds d2))))))))) rfl (dt (ps (ps (ps (ps (ps (ps (ps (ps (ps p5)))))))))) ?_
                        refine wn rfl (ds (ds (ds (ds (ds (ds (ds (ds (ds d2))))))))) rfl (dt (ps (ps (ps (ps (ps (ps (ps (ps (ps p6)))))))))) ?_
                        refine wl (s_pickf (et (ds (ds (ds (ds (ds (ds (ds (ds (ds d2)))))))))) ec (dt (ps (ps (ps (ps (ps (ps (ps (ps (ps p7)))))))))) ?_)
                        refine wl (s_move (et (ds (ds (ds (ds (ds (ds (ds (ds (ds d7)))))))))) (dt (ps (ps (ps (ps (ps (ps (ps (ps (ps p8)))))))))) ?_)
                        refine wn rfl (ds (ds (ds (ds (ds (ds (ds (ds (ds d8))))))))) rfl (dt (ps (ps (ps (ps (ps (ps (ps (ps (ps p9)))))))))) ?_
                        refine wn rfl (ds (ds (ds (ds (ds (ds (ds (ds (ds d8))))))))) rfl (dt (ps (ps (ps (ps (ps (ps (ps (ps (ps (ps p0))))))))))) ?_
                        refine wn rfl (ds (ds (ds (ds (ds (ds (ds (ds (ds d8))))))))) rfl (dt (ps (ps (ps (ps (ps (ps (ps (ps (ps (ps p1))))))))))) ?_
                        refine wn rfl (ds (ds (ds (ds (ds (ds (ds (ds (ds d8))))))))) rfl (dt (ps (ps (ps (ps (ps (ps (ps (ps (ps (ps p2))))))))))) ?_
                        refine wl (s_pickf (et (ds (ds (ds (ds (ds (ds (ds (ds (ds d8)))))))))) ec (dt (ps (ps (ps (ps (ps (ps (ps (ps (ps (ps p3))))))))))) ?_)
                        refine wl (s_move (et (ds (ds (ds (ds (ds (ds (ds (ds (ds (ds d3))))))))))) (dt (ps (ps (ps (ps (ps (ps (ps (ps (ps (ps p4))))))))))) ?_)
                        refine wn rfl (ds (ds (ds (ds (ds (ds (ds (ds (ds (ds d4)))))))))) rfl (dt (ps (ps (ps (ps (ps (ps (ps (ps (ps (ps p5))))))))))) ?_
                        refine wn rfl (ds (ds (ds (ds (ds (ds (ds (ds (ds (ds d4)))))))))) rfl (dt (ps (ps (ps (ps (ps (ps (ps (ps (ps (ps p6))))))))))) ?_
                        refine wn rfl (ds (ds (ds (ds (ds (ds (ds (ds (ds (ds d4)))))))))) rfl (dt (ps (ps (ps (ps (ps (ps (ps (ps (ps (ps p7))))))))))) ?_
                        refine wn rfl (ds (ds (ds (ds (ds (ds (ds (ds (ds (ds d4)))))))))) rfl (dt (ps (ps (ps (ps (ps (ps (ps (ps (ps (ps p8))))))))))) ?_
                        refine wl (s_pickf (et (ds (ds (ds (ds (ds (ds (ds (ds (ds (ds d4))))))))))) ec (dt (ps (ps (ps (ps (ps (ps (ps (ps (ps (ps p9))))))))))) ?_)
                        refine wnil ?_
                        refine xn ?_
                        refine ciff (et (ds (ds (ds (ds (ds (ds (ds (ds (ds (ds d9))))))))))) ?_
                        refine cskip ?_
                        refine (fun h => bn (xn h)) ?_
                        refine creg ?_
                        refine wl (s_move (et (ds d0)) (dt (ps (ps (ps (ps (ps (ps (ps p5)))))))) ?_)
                        refine wl (s_addn (b := 1) (et (ds (ds (ds (ds (ds (ds (ds d5)))))))) ec (by omega) (dt (ps (ps (ps (ps (ps (ps (ps p6)))))))) ?_)
                        refine wl (s_assign (et (ds (ds (ds (ds (ds (ds (ds d6)))))))) (dt (ps p0)) ?_)
                        refine wnil ?_
                        refine xl ?_
                        exact ⟨k + 1, b, _, rfl, (Ag.k (Ag.k (Ag.o (Ag.k (Ag.k (Ag.k (Ag.k (Ag.k (Ag.k (Ag.i (Ag.i (Ag.k (Ag.k (Ag.k (Ag.k (Ag.k (Ag.k (Ag.k (Ag.k (Ag.k (Ag.k (Ag.k (Ag.k (Ag.k (Ag.k (Ag.k (Ag.k (Ag.k (Ag.k (Ag.k (Ag.k (Ag.k (Ag.k (Ag.k (Ag.k (Ag.k (Ag.k (Ag.k (Ag.k (Ag.k (Ag.k (Ag.k (Ag.k (Ag.k (Ag.k (Ag.k (Ag.k (Ag.k (Ag.k (Ag.k (Ag.k (Ag.k (Ag.k (Ag.k (Ag.k (Ag.k (Ag.k (Ag.k (Ag.k (Ag.k (Ag.k (Ag.k (Ag.k (Ag.k (Ag.k (Ag.k (Ag.k (Ag.k (Ag.k (Ag.k (Ag.k (Ag.k (Ag.o (Ag.o (Ag.o (Ag.o (Ag.o (Ag.o (Ag.o (Ag.o (Ag.o (Ag.o (Ag.o (Ag.o (Ag.o (Ag.o (Ag.o (Ag.o (Ag.o (Ag.o (Ag.o (Ag.o (Ag.o (Ag.o (Ag.o (Ag.o (Ag.o (Ag.o (Ag.o (Ag.o (Ag.o (Ag.o (Ag.o (Ag.o (Ag.o (Ag.o (Ag.o (Ag.o (Ag.o (Ag.o Ag.z)))))))))))))))))))))))))))))))))))))))))))))))))))))))))))))))))))))))))))))))))))))))))))))))))))))))))))))), ⟨by omega, by omega, seg_go hsg hb, hS⟩, by omega⟩
                  · refine cexit ?_
                    refine (fun h => xe (xe (bh h))) ?_
                    refine xn ?_
                    refine creg ?_
                    refine wl (s_move (et d7) (dt (ps (ps (ps (ps (ps (ps (ps (ps (ps (ps (ps p0)))))))))))) ?_)
                    refine wl (s_move (et d8) (dt (ps (ps (ps (ps (ps (ps (ps (ps (ps (ps (ps p1)))))))))))) ?_)
                    refine wl (s_lens Tryd.underlying9 (et (ds (ds (ds (ds (ds (ds (ds (ds (ds (ds (ds d1)))))))))))) (dt (ps (ps (ps (ps (ps (ps (ps (ps (ps (ps (ps p2)))))))))))) ?_)
                    refine wl (s_addn (et (ds (ds (ds (ds (ds (ds (ds (ds (ds (ds (ds d0)))))))))))) (et (ds (ds (ds (ds (ds (ds (ds (ds (ds (ds (ds d2)))))))))))) (by omega) (dt (ps (ps (ps (ps (ps (ps (ps (ps (ps (ps (ps p3)))))))))))) ?_)
                    refine wl (s_assign (et (ds (ds (ds (ds (ds (ds (ds (ds (ds (ds (ds d3)))))))))))) (dt p5) ?_)
                    refine wnil ?_
                    refine (fun h => bn (xn h)) ?_
                    refine creg ?_
                    refine wl (s_move (et d6) (dt (ps (ps p8))) ?_)
                    refine wl (s_addn (b := 1) (et (ds (ds d8))) ec (by omega) (dt (ps (ps p9))) ?_)
                    refine wl (s_assign (et (ds (ds d9))) (dt p6) ?_)
                    refine wnil ?_
                    refine xl ?_
                    exact ⟨i + 1, at_ + tx.length, _, rfl, (Ag.k (Ag.k (Ag.o (Ag.k (Ag.k (Ag.i (Ag.i (Ag.o (Ag.o (Ag.o (Ag.o (Ag.k (Ag.k (Ag.k (Ag.k (Ag.k (Ag.k (Ag.k (Ag.k (Ag.k (Ag.k (Ag.k (Ag.k (Ag.k (Ag.o (Ag.o (Ag.o (Ag.o (Ag.o (Ag.o (Ag.o (Ag.o (Ag.o (Ag.o (Ag.o (Ag.o (Ag.o (Ag.o (Ag.o (Ag.o (Ag.o (Ag.o (Ag.o (Ag.o (Ag.o (Ag.o (Ag.o (Ag.o (Ag.o (Ag.o (Ag.o (Ag.o (Ag.o (Ag.o (Ag.o (Ag.o (Ag.o (Ag.o (Ag.o (Ag.o (Ag.o (Ag.o (Ag.o (Ag.o (Ag.o (Ag.o (Ag.o (Ag.o (Ag.o (Ag.o (Ag.o (Ag.o (Ag.o (Ag.o (Ag.o (Ag.o (Ag.o (Ag.o (Ag.o (Ag.o (Ag.o (Ag.o (Ag.o (Ag.o (Ag.o (Ag.o (Ag.o (Ag.o (Ag.o (Ag.o (Ag.o (Ag.o (Ag.o (Ag.o (Ag.o (Ag.o (Ag.o (Ag.o (Ag.o (Ag.o (Ag.o (Ag.o (Ag.o (Ag.o (Ag.o (Ag.o (Ag.o (Ag.o (Ag.o (Ag.o (Ag.o (Ag.o (Ag.o (Ag.o Ag.z)))))))))))))))))))))))))))))))))))))))))))))))))))))))))))))))))))))))))))))))))))))))))))))))))))))))))))))))))), ⟨by omega, by omega, hnx, hS⟩, by omega⟩
      · refine cexit ?_
        refine (fun h => xe (xe (bh h))) ?_
        refine xn ?_
        refine cseq ?_
        refine creg ?_
        refine wl (s_assign ec (dt p2) ?_)
        refine wnil ?_
        refine xn ?_
        refine cret ?_
        refine ret1 rfl d2 ?_
        first
          | exact ⟨rfl, hS.keeps⟩
          | exact ⟨by simp, hS.keeps⟩

end Go.Proofs.YtjbmnfilgedebaaDoor
