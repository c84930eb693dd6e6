/- The contract of lex.Tokens. -/
import Derived.Test.YtjbmnfilgedebaaDoorCLexA
import Derived.Test.YtjbmnfilgedebaaDoorCLxShelf
set_option linter.unusedVariables false
set_option linter.unusedSimpArgs false
namespace Go.Proofs.YtjbmnfilgedebaaDoor
open Go.Wk Go.Lx
theorem parse_ok' (t : List UInt8) : ∀ acc k, acc < 10 ^ k → k + t.length ≤ 15 → t.all digitB = true → Lib.parseUintM (2 ^ 64 - 1) acc t = .ok (valFrom acc t) := by
  induction t with
  | nil => intro acc k _ _ _; rfl
  | cons c t ih =>
    intro acc k ha hk hd
    simp only [List.all_cons, Bool.and_eq_true] at hd
    have hc : 48 ≤ c.toNat ∧ c.toNat ≤ 57 := by simpa [digitB] using hd.1
    have h14 : acc < 10 ^ 14 := Nat.lt_of_lt_of_le ha (Nat.pow_le_pow_right (by decide) (by simp at hk; omega))
    unfold Lib.parseUintM
    rw [if_pos hc, if_neg (by omega), if_neg (by omega)]
    exact ih _ (k + 1) (by rw [Nat.pow_succ]; omega) (by simp at hk; omega) hd.2
theorem parse_ok (t : List UInt8) (h0 : t ≠ []) (h : t.length ≤ 15) (hd : t.all digitB = true) : Lib.parseIntB 64 t = .ok (val t : Nat) := by
  cases t with
  | nil => exact absurd rfl h0
  | cons c t =>
    have hc : 48 ≤ c.toNat ∧ c.toNat ≤ 57 := by simpa [digitB] using (List.all_eq_true.1 hd) c (by simp)
    have hv := val_lt (c :: t) 0 0 (by decide) hd
    have h2 : (10 : Nat) ^ (0 + (c :: t).length) ≤ 10 ^ 15 := Nat.pow_le_pow_right (by decide) (by omega)
    have hu := parse_ok' (c :: t) 0 0 (by decide) (by simpa using h) hd
    unfold Lib.parseIntB
    simp only
    rw [if_neg (by omega)]
    unfold Lib.parseUintB
    rw [if_neg (by simp), hu]
    simp only
    rw [if_neg (by omega), if_neg (by omega), if_neg (by omega)]
    rfl
theorem grow_bytes (w : World) (e : TypeId) (s : ByteArray) : Grow w (Lib.bytesWorld w e s) := by
  have h := Lib.bytesWorld_below w e s
  exact ⟨h.os, h.tape, h.output, h.size, fun k hk _ => h.block k hk⟩
theorem parseInt_c (t : List UInt8) (h0 : t ≠ []) (h : t.length ≤ 15) (hd : t.all digitB = true) (w0 : World) :
    CallsV Tryd.prog 17 [S t, .int .i64 10, .int .i64 64] w0 fun v w => v = .tuple #[.int .i64 (val t), .nilIface] ∧ Grow w0 w :=
  ⟨(Tryd.strconv_ParseInt_10_at64_ok ⟨⟨t⟩⟩ (by show t.length ≤ _; omega) _ (parse_ok t h0 h hd) w0).mono fun e w he => by
    obtain ⟨rfl, rfl | ⟨b, rfl⟩⟩ := he
    · exact ⟨rfl, .refl _⟩
    · exact ⟨rfl, grow_bytes _ _ _⟩⟩
/-- The cells of a token. -/
def cells (t : Tok) : List Value := [.int .i64 t.kind, S t.text, .int .i64 t.num, .int .i64 t.pos]
/-- A slice of tokens. -/
def Toks (v : Value) (ts : List Tok) (w : World) : Prop := Row w v 30 4 ts.length (ts.flatMap cells)
theorem map_app {ε : Type} {ts : List Tok} {t : Tok} (r : Except ε (List Tok)) : (r.map (t :: ·)).map (ts ++ ·) = r.map ((ts ++ [t]) ++ ·) := by
  cases r <;> simp [Except.map]

theorem Tokens_c (l : List UInt8) (hl : l.length ≤ 140737488355328) (w0 : World) :
        CallsV Tryd.prog 7 [S l] w0 fun v w => Grow w0 w ∧ match tokens l with
          | .error (e, a) => v = .tuple #[.slice none 0 0, .agg #[.int .i64 (e : Nat), .int .i64 (a : Nat)]]
          | .ok ts => ∃ u, v = .tuple #[u, .agg #[.int .i64 0, .int .i64 0]] ∧ ts.length ≤ l.length ∧ Rob (fun b => w0.heap.size ≤ b) w (Toks u ts) := by
  have hS : Sep (fun _ => True) (fun _ => False) w0 w0 [] (fun _ => True) := Sep.start w0 _ _ (Rob.const trivial)
  rw [tokens_eq]
  have hsp := space_le l
  refine enter Tryd.func7 rfl (frm := [_, _, _, _, _, _, _, _, _, _, _, _, _, _, _, _, _, _, _, _, _, _, _, _, _, _, _, _, _, _, _, _, _, _, _, _, _, _, _, _, _, _, _, _, _, _, _, _, _, _, _, _, _, _, _, _, _, _, _, _, _, _, _, _, _, _, _, _, _, _, _, _, _, _, _, _, _, _, _, _, _, _, _]) rfl ?_
  refine cseq ?_
  refine creg ?_
  refine wl (s_assign ec (dt p2) ?_)
  refine wl (s_alloc ti26 hS ?_)
  clear hS; intro b1 w1_ hb1 hS
  refine pu (dt p3) ?_
  refine wnil ?_
  refine xn ?_
  refine cseq ?_
  refine cseq ?_
  refine creg ?_
  refine wl (s_move (et d0) (dt p9) ?_)
  refine wl (s_lens Tryd.underlying9 (et d9) (dt (ps p0)) ?_)
  refine wl (s_gtr (et (ds d0)) ec (dt (ps p1)) ?_)
  refine wnil ?_
  refine xn ?_
  refine cifd (et (ds d1)) (fun h0 => ?_) (fun h0 => ?_)
  · refine cseq ?_
    refine creg ?_
    refine wl (s_build ti26 pl26 (Fl.o rfl ec rfl rfl p0 Fl.z) (dt (ps p2)) ?_)
    refine wl (s_assign ec (dt p2) ?_)
    refine wl (s_store ti26 (et d3) (et (ds d2)) rfl rfl rfl hS d0 (Spl.s p0 (of_decide_eq_true rfl) (Spl.s p1 (of_decide_eq_true rfl) Spl.z)) rfl p0 dn ?_)
    clear hS; intro w2_ hS
    refine wnil ?_
    refine xn ?_
    refine cret ?_
    refine xr ?_
    refine retN rfl (RVs.s (.t d2) (RVs.s (.a d3 ti26 (hS.blk d0).cells rfl) RVs.z)) ?_
    first
      | (rw [if_pos (by omega)]; exact ⟨hS.keeps, rfl⟩)
      | (rw [if_neg (by omega), hr, lexr_err hne ht]; exact ⟨hS.keeps, rfl⟩)
      | (rw [if_neg (by omega), hr, List.drop_eq_nil_of_le (by omega), lexr_nil]; exact ⟨hS.keeps, _, rfl, by simp; omega, by simpa using hS.give d0 (B := Toks v ts) fun _ h => h⟩)
  · refine cskip ?_
    refine xn ?_
    refine cseq ?_
    refine creg ?_
    replace hS := hS.nilRow 30 4
    refine wl (s_assign ec (dt p4) ?_)
    refine wnil ?_
    refine xn ?_
    refine cseq ?_
    refine cseq ?_
    refine creg ?_
    refine wl (s_move (et d0) (dt (ps p3)) ?_)
    refine wl (s_callp isfn12 ef (e1 (et (ds d3)) e0) (space_c _ (by omega)) (dt (ps p4)) ?_)
    refine wl (s_assign (et (ds d4)) (dt p5) ?_)
    refine wnil ?_
    refine xn ?_
    refine cblock ?_
    refine cloop [2, 6, 7, 8, 15, 16, 17, 18, 19, 20, 21, 22, 23, 24, 25, 26, 27, 28, 29, 30, 31, 32, 33, 34, 35, 36, 37, 38, 39, 40, 41, 42, 43, 44, 45, 46, 47, 48, 49, 50, 51, 52, 53, 54, 55, 56, 57, 58, 59, 60, 61, 62, 63, 64, 65, 66, 67, 68, 69, 70, 71, 72, 73, 74, 75, 76, 77, 78, 79, 80] (by decide) (fun (x : Nat × List Tok × Value) => [.k, .k, .o 2, .k, .i (x.2.2), .i (.int .i64 x.1), .o 6, .o 7, .o 8, .k, .k, .k, .k, .k, .k, .o 15, .o 16, .o 17, .o 18, .o 19, .o 20, .o 21, .o 22, .o 23, .o 24, .o 25, .o 26, .o 27, .o 28, .o 29, .o 30, .o 31, .o 32, .o 33, .o 34, .o 35, .o 36, .o 37, .o 38, .o 39, .o 40, .o 41, .o 42, .o 43, .o 44, .o 45, .o 46, .o 47, .o 48, .o 49, .o 50, .o 51, .o 52, .o 53, .o 54, .o 55, .o 56, .o 57, .o 58, .o 59, .o 60, .o 61, .o 62, .o 63, .o 64, .o 65, .o 66, .o 67, .o 68, .o 69, .o 70, .o 71, .o 72, .o 73, .o 74, .o 75, .o 76, .o 77, .o 78, .o 79, .o 80]) (fun _ => rfl) (fun (x : Nat × List Tok × Value) (w : World) => x.1 ≤ l.length ∧ x.2.1.length ≤ x.1 ∧ lexr (space l) (l.drop (space l)) = (lexr x.1 (l.drop x.1)).map (x.2.1 ++ ·) ∧ Sep (fun _ => True) (fun _ => False) w0 w [.row x.2.2 30 4 x.2.1.length (x.2.1.flatMap cells), .blk b1 26 [.int .i64 0, .int .i64 0]] (fun _ => True)) (fun (x : Nat × List Tok × Value) (w : World) => l.length - x.1) (space l, [], .slice none 0 0) (Ag.k (Ag.k (Ag.o (Ag.k (Ag.i (Ag.i (Ag.o (Ag.o (Ag.o (Ag.k (Ag.k (Ag.k (Ag.k (Ag.k (Ag.k (Ag.o (Ag.o (Ag.o (Ag.o (Ag.o (Ag.o (Ag.o (Ag.o (Ag.o (Ag.o (Ag.o (Ag.o (Ag.o (Ag.o (Ag.o (Ag.o (Ag.o (Ag.o (Ag.o (Ag.o (Ag.o (Ag.o (Ag.o (Ag.o (Ag.o (Ag.o (Ag.o (Ag.o (Ag.o (Ag.o (Ag.o (Ag.o (Ag.o (Ag.o (Ag.o (Ag.o (Ag.o (Ag.o (Ag.o (Ag.o (Ag.o (Ag.o (Ag.o (Ag.o (Ag.o (Ag.o (Ag.o (Ag.o (Ag.o (Ag.o (Ag.o (Ag.o (Ag.o (Ag.o (Ag.o (Ag.o (Ag.o (Ag.o (Ag.o (Ag.o (Ag.o (Ag.o (Ag.o (Ag.o (Ag.o (Ag.o Ag.z))))))))))))))))))))))))))))))))))))))))))))))))))))))))))))))))))))))))))))))))) ?_ ?_
    · exact ⟨hsp, Nat.zero_le _, by simp [Except.map]; cases lexr (space l) (l.drop (space l)) <;> rfl, hS⟩
    · rintro ⟨k, ts, v⟩ t80 w hJ
      obtain ⟨hk, htl, hr, hS⟩ := hJ
      simp only at hk htl hr hS
      refine cnrm (mk (mk (mo (mk (mi (mi (mo (mo (mo (mk (mk (mk (mk (mk (mk (mo (mo (mo (mo (mo (mo (mo (mo (mo (mo (mo (mo (mo (mo (mo (mo (mo (mo (mo (mo (mo (mo (mo (mo (mo (mo (mo (mo (mo (mo (mo (mo (mo (mo (mo (mo (mo (mo (mo (mo (mo (mo (mo (mo (mo (mo (mo (mo (mo (mo (mo (mo (mo (mo (mo (mo (mo (mo (mo (mo (mo (mo (mo (mo (mo (mo mz))))))))))))))))))))))))))))))))))))))))))))))))))))))))))))))))))))))))))))))))) ?_
      refine cseq ?_
      refine cseq ?_
      refine creg ?_
      refine wl (s_move (et d5) (dt (ps p5)) ?_)
      refine wl (s_move (et d0) (dt (ps p6)) ?_)
      refine wl (s_lens Tryd.underlying9 (et (ds d6)) (dt (ps p7)) ?_)
      refine wl (s_lss (et (ds d5)) (et (ds d7)) (dt (ps p8)) ?_)
      refine wnil ?_
      refine xn ?_
      refine cifd (et (ds d8)) (fun h1 => ?_) (fun h1 => ?_)
      · obtain ⟨c, hc⟩ : ∃ c, l[k]? = some c := ⟨_, List.getElem?_eq_getElem (by omega)⟩
        have hd : l.drop k = c :: l.drop (k + 1) := by rw [List.drop_eq_getElem_cons (by omega), ← Option.some.inj ((List.getElem?_eq_getElem (by omega)).symm.trans hc)]
        have hne : l.drop k ≠ [] := by rw [hd]; simp
        have hdl : (l.drop k).length = l.length - k := List.length_drop
        have fin : ∀ (t : Tok) (s : List UInt8) (v : Value) (w : World) (xs : List Value), tok1 k (l.drop k) = .ok t → s = t.text → xs = cells t → Sep (fun _ => True) (fun _ => False) w0 w [.row v 30 4 (ts.length + 1) (ts.flatMap cells ++ xs), .blk b1 26 [.int .i64 0, .int .i64 0]] (fun _ => True) →
            ((k + s.length + space (l.drop (k + s.length)), ts ++ [t], v).1 ≤ l.length ∧ (k + s.length + space (l.drop (k + s.length)), ts ++ [t], v).2.1.length ≤ (k + s.length + space (l.drop (k + s.length)), ts ++ [t], v).1 ∧ lexr (space l) (l.drop (space l)) = (lexr (k + s.length + space (l.drop (k + s.length)), ts ++ [t], v).1 (l.drop (k + s.length + space (l.drop (k + s.length)), ts ++ [t], v).1)).map ((k + s.length + space (l.drop (k + s.length)), ts ++ [t], v).2.1 ++ ·) ∧ Sep (fun _ => True) (fun _ => False) w0 w [.row (k + s.length + space (l.drop (k + s.length)), ts ++ [t], v).2.2 30 4 (k + s.length + space (l.drop (k + s.length)), ts ++ [t], v).2.1.length ((k + s.length + space (l.drop (k + s.length)), ts ++ [t], v).2.1.flatMap cells), .blk b1 26 [.int .i64 0, .int .i64 0]] (fun _ => True)) ∧ l.length - (k + s.length + space (l.drop (k + s.length))) < l.length - k := by
          rintro t _ v w xs ht rfl rfl hS
          obtain ⟨h1, h2, h3, h4⟩ := tok1_len ht
          have h5 := space_le (l.drop (k + t.text.length))
          rw [List.length_drop] at h5
          refine ⟨⟨by omega, by simp only [List.length_append, List.length_singleton]; omega, ?_, by simpa [List.flatMap_append] using hS⟩, by omega⟩
          rw [hr, lexr_ok hne ht, map_app, List.drop_drop, List.drop_drop, Nat.add_assoc]
        refine cskip ?_
        refine xn ?_
        refine cseq ?_
        refine cblock ?_
        refine cseq ?_
        refine creg ?_
        refine wl (s_move (et d0) (dt (ps (ps p5))) ?_)
        refine wl (s_move (et d5) (dt (ps (ps p6))) ?_)
        refine wl (s_cutlon Tryd.underlying9 (et (ds (ds d5))) (et (ds (ds d6))) (by omega) (dt (ps (ps p7))) ?_)
        refine wl (s_assign (et (ds (ds d7))) (dt p6) ?_)
        refine wnil ?_
        refine xn ?_
        refine cseq ?_
        refine creg ?_
        refine wl (s_move (et d5) (dt (ps (ps p8))) ?_)
        refine wl (s_build ti30 pl30 (Fl.o rfl (et (ds (ds d8))) rfl rfl p3 Fl.z) (dt (ps (ps p9))) ?_)
        refine wl (s_alloc ti30 hS ?_)
        clear hS; intro b3 w3_ hb3 hS
        refine pu (dt p7) ?_
        refine wl (s_store ti30 (et d7) (et (ds (ds d9))) rfl rfl rfl hS d0 (Spl.s p0 (of_decide_eq_true rfl) (Spl.s p1 (of_decide_eq_true rfl) (Spl.s p2 (of_decide_eq_true rfl) (Spl.s p3 (of_decide_eq_true rfl) Spl.z)))) rfl p0 dn ?_)
        clear hS; intro w4_ hS
        refine wnil ?_
        refine xn ?_
        refine cseq ?_
        refine cseq ?_
        refine creg ?_
        refine wl (s_move (et d6) (dt (ps (ps (ps p0)))) ?_)
        refine wl (s_idxsn (i := 0) Tryd.underlying9 (et (ds (ds (ds d0)))) ec (by rw [List.getElem?_drop]; simpa using hc) (dt (ps (ps (ps p1)))) ?_)
        refine wl (s_assign (et (ds (ds (ds d1)))) (dt p8) ?_)
        refine wnil ?_
        refine xn ?_
        refine cblock ?_
        refine cseq ?_
        refine creg ?_
        refine wl (s_move (et d8) (dt (ps (ps (ps (ps p2))))) ?_)
        refine wl (s_callp isfn13 ef (e1 (et (ds (ds (ds (ds d2))))) e0) (letter_c _) (dt (ps (ps (ps (ps p3))))) ?_)
        refine wl (s_assign (et (ds (ds (ds (ds d3))))) (dt (ps (ps (ps (ps p1))))) ?_)
        refine wnil ?_
        refine xn ?_
        refine cif (et (ds (ds (ds (ds d1))))) (fun h2 => ?_) (fun h2 => ?_)
        · have ht : tok1 k (l.drop k) = .ok ⟨1, (l.drop k).takeWhile wordB, 0, k⟩ := by rw [hd]; simp [tok1, h2]
          obtain ⟨hn1, hn2, hn3, -⟩ := tok1_len ht
          simp only at hn1 hn2 hn3
          refine cdraw (by kernel_rfl) rfl fun w5_ hh_ ho_ ht_ hu_ => ?_
          replace hS := hS.drew hh_ ho_ ht_ hu_
          refine sc_pu (i := 0) (blind_of fun _ _ _ h => h.2) rfl rfl rfl (u_move (et d6)) (ps (ps (ps (ps p4)))) ?_
          refine sc_pu (i := 1) (blind_of fun _ _ _ h => h.2) rfl rfl rfl (u_move (et d6)) (ps (ps (ps (ps p5)))) ?_
          refine sc_pu (i := 4) (blind_of fun _ _ _ h => h.2) rfl rfl rfl (u_fa fa30_0 (et d7) rfl) (ps (ps (ps (ps p8)))) ?_
          refine sc1 rfl rfl rfl (s_callp isfn14 ef (e1 (et (ds (ds (ds (ds d5))))) (e1 ef e0)) (while_c _ wordB _ (Nat.le_trans (Nat.le_of_eq hdl) (by omega)) isfn15 Tokens1_c) (dt (ps (ps (ps (ps p6))))) ?_)
          refine sc_pu (i := 3) (blind_of fun _ _ _ h => h.2) rfl rfl rfl (u_cuthin Tryd.underlying9 (et (ds (ds (ds (ds d4))))) (et (ds (ds (ds (ds d6))))) ((List.takeWhile_sublist _).length_le)) (ps (ps (ps (ps p7)))) ?_
          refine sc1 rfl rfl rfl (s_store1 ti3 (et (ds (ds (ds (ds d8))))) ec rfl hS d0 p0 rfl p0 dn ?_)
          clear hS; intro w6_ hS
          refine sc_pu (i := 6) (blind_of fun _ _ _ h => h.2) rfl rfl rfl (u_fa fa30_1 (et d7) rfl) (ps (ps (ps (ps p9)))) ?_
          refine sc1 rfl rfl rfl (s_store1 ti9 (et (ds (ds (ds (ds d9))))) (et (ds (ds (ds (ds d7))))) rfl hS d0 p1 rfl p0 dn ?_)
          clear hS; intro w7_ hS
          refine sc_nil ?_
          refine (fun h => bn (xn h)) ?_
          refine cseq ?_
          refine creg ?_
          refine wl (s_move (et d4) (dt (ps (ps (ps (ps (ps (ps (ps p2)))))))) ?_)
          refine wl (s_loads ti30 (et d7) ((hS.blk d0).cells) rfl (dt (ps (ps (ps (ps (ps (ps (ps p3)))))))) ?_)
          refine wl (s_bsl1 Tryd.underlying23 ti30 rfl (et (ds (ds (ds (ds (ds (ds (ds d3)))))))) rfl hS ?_)
          clear hS; intro b8 w8_ hb8 hS
          refine pu (dt (ps (ps (ps (ps (ps (ps (ps p4)))))))) ?_
          refine wl (s_append Tryd.underlying23 ti30 rfl (et (ds (ds (ds (ds (ds (ds (ds d2)))))))) (et (ds (ds (ds (ds (ds (ds (ds d4)))))))) hS d2 ((hS.blk d0).cells) rfl rfl (by omega) ?_)
          clear hS; intro v9 w9_ rs_ hp_ hS; cases (show _ = rs_ from hp_)
          replace hS := Sep.reput hS p2
          refine pu (dt (ps (ps (ps (ps (ps (ps (ps p5)))))))) ?_
          replace hS := hS.drop Rm.z
          refine wl (s_assign (et (ds (ds (ds (ds (ds (ds (ds d5)))))))) (dt p4) ?_)
          refine wnil ?_
          refine xn ?_
          refine creg ?_
          refine wl (s_move (et d5) (dt (ps (ps (ps (ps (ps (ps (ps p6)))))))) ?_)
          refine wl (s_fa fa30_1 (et d7) rfl (dt (ps (ps (ps (ps (ps (ps (ps p7)))))))) ?_)
          refine wl (s_load ti9 (et (ds (ds (ds (ds (ds (ds (ds d7)))))))) ((hS.blk d0).cell d1) (dt (ps (ps (ps (ps (ps (ps (ps p8)))))))) ?_)
          refine wl (s_lens Tryd.underlying9 (et (ds (ds (ds (ds (ds (ds (ds d8)))))))) (dt (ps (ps (ps (ps (ps (ps (ps p9)))))))) ?_)
          refine wl (s_addn (et (ds (ds (ds (ds (ds (ds (ds d6)))))))) (et (ds (ds (ds (ds (ds (ds (ds d9)))))))) (by simp only [tw_take]; omega) (dt (ps (ps (ps (ps (ps (ps (ps (ps p0))))))))) ?_)
          refine wl (s_assign (et (ds (ds (ds (ds (ds (ds (ds (ds d0))))))))) (dt p5) ?_)
          refine wnil ?_
          refine (fun h => bn (xn h)) ?_
          refine creg ?_
          refine wl (s_move (et d5) (dt (ps p9)) ?_)
          refine wl (s_move (et d0) (dt (ps (ps p0))) ?_)
          refine wl (s_move (et d5) (dt (ps (ps p1))) ?_)
          refine wl (s_cutlon Tryd.underlying9 (et (ds (ds d0))) (et (ds (ds d1))) (by simp only [tw_take]; omega) (dt (ps (ps p2))) ?_)
          refine wl (s_callp isfn12 ef (e1 (et (ds (ds d2))) e0) (space_c _ (by rw [List.length_drop]; omega)) (dt (ps (ps p3))) ?_)
          refine wl (s_addn (et (ds d9)) (et (ds (ds d3))) (by refine Nat.le_trans (Nat.add_le_add_left (space_le _) _) ?_; rw [List.length_drop]; simp only [tw_take]; omega) (dt (ps (ps p4))) ?_)
          refine wl (s_assign (et (ds (ds d4))) (dt p5) ?_)
          refine wnil ?_
          refine xl ?_
          replace hS := hS.drop Rm.z
          exact ⟨(_, _, _), _, rfl, (Ag.k (Ag.k (Ag.o (Ag.k (Ag.i (Ag.i (Ag.o (Ag.o (Ag.o (Ag.k (Ag.k (Ag.k (Ag.k (Ag.k (Ag.k (Ag.o (Ag.o (Ag.o (Ag.o (Ag.o (Ag.o (Ag.o (Ag.o (Ag.o (Ag.o (Ag.o (Ag.o (Ag.o (Ag.o (Ag.o (Ag.o (Ag.o (Ag.o (Ag.o (Ag.o (Ag.o (Ag.o (Ag.o (Ag.o (Ag.o (Ag.o (Ag.o (Ag.o (Ag.o (Ag.o (Ag.o (Ag.o (Ag.o (Ag.o (Ag.o (Ag.o (Ag.o (Ag.o (Ag.o (Ag.o (Ag.o (Ag.o (Ag.o (Ag.o (Ag.o (Ag.o (Ag.o (Ag.o (Ag.o (Ag.o (Ag.o (Ag.o (Ag.o (Ag.o (Ag.o (Ag.o (Ag.o (Ag.o (Ag.o (Ag.o (Ag.o (Ag.o (Ag.o (Ag.o (Ag.o (Ag.o Ag.z))))))))))))))))))))))))))))))))))))))))))))))))))))))))))))))))))))))))))))))))), fin _ _ _ _ _ ht (by first | rfl | exact tw_take _ _) (by simp only [cells, tw_take]; rfl) hS⟩
        · refine cseq ?_
          refine creg ?_
          refine wl (s_move (et d8) (dt (ps (ps (ps (ps (ps p1)))))) ?_)
          refine wl (s_callp isfn16 ef (e1 (et (ds (ds (ds (ds (ds d1)))))) e0) (digit_c _) (dt (ps (ps (ps (ps (ps p2)))))) ?_)
          refine wl (s_assign (et (ds (ds (ds (ds (ds d2)))))) (dt (ps (ps (ps (ps (ps p0)))))) ?_)
          refine wnil ?_
          refine xn ?_
          refine cif (et (ds (ds (ds (ds (ds d0)))))) (fun h3 => ?_) (fun h3 => ?_)
          · refine cseq ?_
            refine cdraw (by kernel_rfl) rfl fun w10_ hh_ ho_ ht_ hu_ => ?_
            replace hS := hS.drew hh_ ho_ ht_ hu_
            refine sc_pu (i := 0) (blind_of fun _ _ _ h => h.2) rfl rfl rfl (u_move (et d6)) (ps (ps (ps (ps (ps p3))))) ?_
            refine sc_pu (i := 1) (blind_of fun _ _ _ h => h.2) rfl rfl rfl (u_move (et d6)) (ps (ps (ps (ps (ps p4))))) ?_
            refine sc_pu (i := 4) (blind_of fun _ _ _ h => h.2) rfl rfl rfl (u_fa fa30_0 (et d7) rfl) (ps (ps (ps (ps (ps p7))))) ?_
            refine sc1 rfl rfl rfl (s_callp isfn14 ef (e1 (et (ds (ds (ds (ds (ds d4)))))) (e1 ef e0)) (while_c _ digitB _ (Nat.le_trans (Nat.le_of_eq hdl) (by omega)) isfn16 digit_c) (dt (ps (ps (ps (ps (ps p5)))))) ?_)
            refine sc_pu (i := 3) (blind_of fun _ _ _ h => h.2) rfl rfl rfl (u_cuthin Tryd.underlying9 (et (ds (ds (ds (ds (ds d3)))))) (et (ds (ds (ds (ds (ds d5)))))) ((List.takeWhile_sublist _).length_le)) (ps (ps (ps (ps (ps p6))))) ?_
            refine sc1 rfl rfl rfl (s_store1 ti3 (et (ds (ds (ds (ds (ds d7)))))) ec rfl hS d0 p0 rfl p0 dn ?_)
            clear hS; intro w11_ hS
            refine sc_pu (i := 6) (blind_of fun _ _ _ h => h.2) rfl rfl rfl (u_fa fa30_1 (et d7) rfl) (ps (ps (ps (ps (ps p8))))) ?_
            refine sc1 rfl rfl rfl (s_store1 ti9 (et (ds (ds (ds (ds (ds d8)))))) (et (ds (ds (ds (ds (ds d6)))))) rfl hS d0 p1 rfl p0 dn ?_)
            clear hS; intro w12_ hS
            refine sc_nil ?_
            refine xn ?_
            refine cseq ?_
            refine cseq ?_
            refine creg ?_
            refine wl (s_fa fa30_1 (et d7) rfl (dt (ps (ps (ps (ps (ps p9)))))) ?_)
            refine wl (s_load ti9 (et (ds (ds (ds (ds (ds d9)))))) ((hS.blk d0).cell d1) (dt (ps (ps (ps (ps (ps (ps p0))))))) ?_)
            refine wl (s_lens Tryd.underlying9 (et (ds (ds (ds (ds (ds (ds d0))))))) (dt (ps (ps (ps (ps (ps (ps p1))))))) ?_)
            refine wl (s_gtr (et (ds (ds (ds (ds (ds (ds d1))))))) ec (dt (ps (ps (ps (ps (ps (ps p2))))))) ?_)
            refine wnil ?_
            refine xn ?_
            refine cifd (et (ds (ds (ds (ds (ds (ds d2))))))) (fun h4 => ?_) (fun h4 => ?_)
            · rw [tw_take] at h4
              have ht : tok1 k (l.drop k) = .error 3 := by rw [hd] at h4 ⊢; rw [tok1_num h2 h3, if_pos (by omega)]
              refine cseq ?_
              refine creg ?_
              refine wl (s_move (et d5) (dt (ps (ps (ps (ps (ps (ps p3))))))) ?_)
              refine wl (s_build ti26 pl26 (Fl.o rfl ec rfl rfl p0 (Fl.o rfl (et (ds (ds (ds (ds (ds (ds d3))))))) rfl rfl p1 Fl.z)) (dt (ps (ps (ps (ps (ps (ps p4))))))) ?_)
              refine wl (s_assign ec (dt p2) ?_)
              refine wl (s_store ti26 (et d3) (et (ds (ds (ds (ds (ds (ds d4))))))) rfl rfl rfl hS d2 (Spl.s p0 (of_decide_eq_true rfl) (Spl.s p1 (of_decide_eq_true rfl) Spl.z)) rfl p2 dn ?_)
              clear hS; intro w13_ hS
              refine wnil ?_
              refine xn ?_
              refine cret ?_
              refine (fun h => xr (br (xr (br (xr (xr (br (xr h)))))))) ?_
              refine retN rfl (RVs.s (.t d2) (RVs.s (.a d3 ti26 (hS.blk d2).cells rfl) RVs.z)) ?_
              first
                | (rw [if_pos (by omega)]; exact ⟨hS.keeps, rfl⟩)
                | (rw [if_neg (by omega), hr, lexr_err hne ht]; exact ⟨hS.keeps, rfl⟩)
                | (rw [if_neg (by omega), hr, List.drop_eq_nil_of_le (by omega), lexr_nil]; exact ⟨hS.keeps, _, rfl, by simp; omega, by simpa using hS.give d0 (B := Toks v ts) fun _ h => h⟩)
            · rw [tw_take] at h4 hS
              replace h4 : ¬ (15 : Int) < (List.takeWhile digitB (List.drop k l)).length := h4
              have ht : tok1 k (l.drop k) = .ok ⟨2, (l.drop k).takeWhile digitB, val ((l.drop k).takeWhile digitB), k⟩ := by rw [hd] at h4 ⊢; rw [tok1_num h2 h3, if_neg (by omega)]
              obtain ⟨hn1, hn2, hn3, -⟩ := tok1_len ht
              simp only at hn1 hn2 hn3
              refine cskip ?_
              refine xn ?_
              refine creg ?_
              refine wl (s_fa fa30_1 (et d7) rfl (dt (ps (ps (ps (ps (ps (ps p6))))))) ?_)
              refine wl (s_load ti9 (et (ds (ds (ds (ds (ds (ds d6))))))) ((hS.blk d0).cell d1) (dt (ps (ps (ps (ps (ps (ps p7))))))) ?_)
              refine wl (s_callv isfn17 ef (e1 (et (ds (ds (ds (ds (ds (ds d7))))))) (e1 ec (e1 ec e0))) (parseInt_c _ (List.length_pos_iff.1 hn1) (by omega) (tw_digits _) _) ?_)
              rintro _ w ⟨rfl, hg⟩; replace hS := hS.grow hg
              refine pu (dt (ps (ps (ps (ps (ps (ps p8))))))) ?_
              refine wl (s_move (et (ds (ds (ds (ds (ds (ds d8))))))) (dt (ps (ps (ps (ps (ps (ps p5))))))) ?_)
              refine wl (s_extr (et (ds (ds (ds (ds (ds (ds d5))))))) d0 (dt (ps (ps (ps (ps (ps (ps p9))))))) ?_)
              refine wl (s_extr (et (ds (ds (ds (ds (ds (ds d5))))))) d1 (dt (ps (ps (ps (ps (ps (ps (ps p0)))))))) ?_)
              refine wl (s_fa fa30_2 (et d7) rfl (dt (ps (ps (ps (ps (ps (ps (ps p1)))))))) ?_)
              refine wl (s_store1 ti2 (et (ds (ds (ds (ds (ds (ds (ds d1)))))))) (et (ds (ds (ds (ds (ds (ds d9))))))) rfl hS d0 p2 rfl p0 dn ?_)
              clear hS; intro w14_ hS
              refine wnil ?_
              refine (fun h => bn (xn h)) ?_
              refine cseq ?_
              refine creg ?_
              refine wl (s_move (et d4) (dt (ps (ps (ps (ps (ps (ps (ps p2)))))))) ?_)
              refine wl (s_loads ti30 (et d7) ((hS.blk d0).cells) rfl (dt (ps (ps (ps (ps (ps (ps (ps p3)))))))) ?_)
              refine wl (s_bsl1 Tryd.underlying23 ti30 rfl (et (ds (ds (ds (ds (ds (ds (ds d3)))))))) rfl hS ?_)
              clear hS; intro b15 w15_ hb15 hS
              refine pu (dt (ps (ps (ps (ps (ps (ps (ps p4)))))))) ?_
              refine wl (s_append Tryd.underlying23 ti30 rfl (et (ds (ds (ds (ds (ds (ds (ds d2)))))))) (et (ds (ds (ds (ds (ds (ds (ds d4)))))))) hS d2 ((hS.blk d0).cells) rfl rfl (by omega) ?_)
              clear hS; intro v16 w16_ rs_ hp_ hS; cases (show _ = rs_ from hp_)
              replace hS := Sep.reput hS p2
              refine pu (dt (ps (ps (ps (ps (ps (ps (ps p5)))))))) ?_
              replace hS := hS.drop Rm.z
              refine wl (s_assign (et (ds (ds (ds (ds (ds (ds (ds d5)))))))) (dt p4) ?_)
              refine wnil ?_
              refine xn ?_
              refine creg ?_
              refine wl (s_move (et d5) (dt (ps (ps (ps (ps (ps (ps (ps p6)))))))) ?_)
              refine wl (s_fa fa30_1 (et d7) rfl (dt (ps (ps (ps (ps (ps (ps (ps p7)))))))) ?_)
              refine wl (s_load ti9 (et (ds (ds (ds (ds (ds (ds (ds d7)))))))) ((hS.blk d0).cell d1) (dt (ps (ps (ps (ps (ps (ps (ps p8)))))))) ?_)
              refine wl (s_lens Tryd.underlying9 (et (ds (ds (ds (ds (ds (ds (ds d8)))))))) (dt (ps (ps (ps (ps (ps (ps (ps p9)))))))) ?_)
              refine wl (s_addn (et (ds (ds (ds (ds (ds (ds (ds d6)))))))) (et (ds (ds (ds (ds (ds (ds (ds d9)))))))) (by simp only [tw_take]; omega) (dt (ps (ps (ps (ps (ps (ps (ps (ps p0))))))))) ?_)
              refine wl (s_assign (et (ds (ds (ds (ds (ds (ds (ds (ds d0))))))))) (dt p5) ?_)
              refine wnil ?_
              refine (fun h => bn (xn h)) ?_
              refine creg ?_
              refine wl (s_move (et d5) (dt (ps p9)) ?_)
              refine wl (s_move (et d0) (dt (ps (ps p0))) ?_)
              refine wl (s_move (et d5) (dt (ps (ps p1))) ?_)
              refine wl (s_cutlon Tryd.underlying9 (et (ds (ds d0))) (et (ds (ds d1))) (by simp only [tw_take]; omega) (dt (ps (ps p2))) ?_)
              refine wl (s_callp isfn12 ef (e1 (et (ds (ds d2))) e0) (space_c _ (by rw [List.length_drop]; omega)) (dt (ps (ps p3))) ?_)
              refine wl (s_addn (et (ds d9)) (et (ds (ds d3))) (by refine Nat.le_trans (Nat.add_le_add_left (space_le _) _) ?_; rw [List.length_drop]; simp only [tw_take]; omega) (dt (ps (ps p4))) ?_)
              refine wl (s_assign (et (ds (ds d4))) (dt p5) ?_)
              refine wnil ?_
              refine xl ?_
              replace hS := hS.drop Rm.z
              exact ⟨(_, _, _), _, rfl, (Ag.k (Ag.k (Ag.o (Ag.k (Ag.i (Ag.i (Ag.o (Ag.o (Ag.o (Ag.k (Ag.k (Ag.k (Ag.k (Ag.k (Ag.k (Ag.o (Ag.o (Ag.o (Ag.o (Ag.o (Ag.o (Ag.o (Ag.o (Ag.o (Ag.o (Ag.o (Ag.o (Ag.o (Ag.o (Ag.o (Ag.o (Ag.o (Ag.o (Ag.o (Ag.o (Ag.o (Ag.o (Ag.o (Ag.o (Ag.o (Ag.o (Ag.o (Ag.o (Ag.o (Ag.o (Ag.o (Ag.o (Ag.o (Ag.o (Ag.o (Ag.o (Ag.o (Ag.o (Ag.o (Ag.o (Ag.o (Ag.o (Ag.o (Ag.o (Ag.o (Ag.o (Ag.o (Ag.o (Ag.o (Ag.o (Ag.o (Ag.o (Ag.o (Ag.o (Ag.o (Ag.o (Ag.o (Ag.o (Ag.o (Ag.o (Ag.o (Ag.o (Ag.o (Ag.o (Ag.o (Ag.o Ag.z))))))))))))))))))))))))))))))))))))))))))))))))))))))))))))))))))))))))))))))))), fin _ _ _ _ _ ht (by first | rfl | exact tw_take _ _) (by simp only [cells, tw_take]; rfl) hS⟩
          · refine cseq ?_
            refine creg ?_
            refine wl (s_move (et d6) (dt (ps (ps (ps p2)))) ?_)
            refine wl (s_callv isfn18 ef (e1 (et (ds (ds (ds d2)))) e0) (sign_c _ (Nat.le_trans (Nat.le_of_eq hdl) (by omega)) _) ?_)
            rintro _ w ⟨rfl, hg⟩; replace hS := hS.grow hg
            refine pu (dt (ps (ps (ps p3)))) ?_
            refine wl (s_fa fa30_0 (et d7) rfl (dt (ps (ps (ps p4)))) ?_)
            refine wl (s_store1 ti3 (et (ds (ds (ds d4)))) ec rfl hS d0 p0 rfl p0 dn ?_)
            clear hS; intro w17_ hS
            refine wl (s_fa fa30_1 (et d7) rfl (dt (ps (ps (ps p5)))) ?_)
            refine wl (s_store1 ti9 (et (ds (ds (ds d5)))) (et (ds (ds (ds d3)))) rfl hS d0 p1 rfl p0 dn ?_)
            clear hS; intro w18_ hS
            refine wnil ?_
            refine xn ?_
            refine cseq ?_
            refine creg ?_
            refine wl (s_fa fa30_1 (et d7) rfl (dt (ps (ps (ps p6)))) ?_)
            refine wl (s_load ti9 (et (ds (ds (ds d6)))) ((hS.blk d0).cell d1) (dt (ps (ps (ps p7)))) ?_)
            refine wl (s_eqs (et (ds (ds (ds d7)))) ec (dt (ps (ps (ps p8)))) ?_)
            refine wnil ?_
            refine xn ?_
            refine cifd (et (ds (ds (ds d8)))) (fun h5 => ?_) (fun h5 => ?_)
            · have ht : tok1 k (l.drop k) = .error 2 := by rw [hd] at h5 ⊢; rw [tok1_sign h2 h3, if_pos h5]
              refine cseq ?_
              refine creg ?_
              refine wl (s_move (et d5) (dt (ps (ps (ps p9)))) ?_)
              refine wl (s_build ti26 pl26 (Fl.o rfl ec rfl rfl p0 (Fl.o rfl (et (ds (ds (ds d9)))) rfl rfl p1 Fl.z)) (dt (ps (ps (ps (ps p0))))) ?_)
              refine wl (s_assign ec (dt p2) ?_)
              refine wl (s_store ti26 (et d3) (et (ds (ds (ds (ds d0))))) rfl rfl rfl hS d2 (Spl.s p0 (of_decide_eq_true rfl) (Spl.s p1 (of_decide_eq_true rfl) Spl.z)) rfl p2 dn ?_)
              clear hS; intro w19_ hS
              refine wnil ?_
              refine xn ?_
              refine cret ?_
              refine (fun h => br (xr (br (xr (xr (br (xr h))))))) ?_
              refine retN rfl (RVs.s (.t d2) (RVs.s (.a d3 ti26 (hS.blk d2).cells rfl) RVs.z)) ?_
              first
                | (rw [if_pos (by omega)]; exact ⟨hS.keeps, rfl⟩)
                | (rw [if_neg (by omega), hr, lexr_err hne ht]; exact ⟨hS.keeps, rfl⟩)
                | (rw [if_neg (by omega), hr, List.drop_eq_nil_of_le (by omega), lexr_nil]; exact ⟨hS.keeps, _, rfl, by simp; omega, by simpa using hS.give d0 (B := Toks v ts) fun _ h => h⟩)
            · have ht : tok1 k (l.drop k) = .ok ⟨3, sign (l.drop k), 0, k⟩ := by rw [hd] at h5 ⊢; rw [tok1_sign h2 h3, if_neg h5]
              obtain ⟨hn1, hn2, hn3, -⟩ := tok1_len ht
              simp only at hn1 hn2 hn3
              refine cskip ?_
              refine (fun h => bn (xn h)) ?_
              refine cseq ?_
              refine creg ?_
              refine wl (s_move (et d4) (dt (ps (ps (ps (ps (ps (ps (ps p2)))))))) ?_)
              refine wl (s_loads ti30 (et d7) ((hS.blk d0).cells) rfl (dt (ps (ps (ps (ps (ps (ps (ps p3)))))))) ?_)
              refine wl (s_bsl1 Tryd.underlying23 ti30 rfl (et (ds (ds (ds (ds (ds (ds (ds d3)))))))) rfl hS ?_)
              clear hS; intro b20 w20_ hb20 hS
              refine pu (dt (ps (ps (ps (ps (ps (ps (ps p4)))))))) ?_
              refine wl (s_append Tryd.underlying23 ti30 rfl (et (ds (ds (ds (ds (ds (ds (ds d2)))))))) (et (ds (ds (ds (ds (ds (ds (ds d4)))))))) hS d2 ((hS.blk d0).cells) rfl rfl (by omega) ?_)
              clear hS; intro v21 w21_ rs_ hp_ hS; cases (show _ = rs_ from hp_)
              replace hS := Sep.reput hS p2
              refine pu (dt (ps (ps (ps (ps (ps (ps (ps p5)))))))) ?_
              replace hS := hS.drop Rm.z
              refine wl (s_assign (et (ds (ds (ds (ds (ds (ds (ds d5)))))))) (dt p4) ?_)
              refine wnil ?_
              refine xn ?_
              refine creg ?_
              refine wl (s_move (et d5) (dt (ps (ps (ps (ps (ps (ps (ps p6)))))))) ?_)
              refine wl (s_fa fa30_1 (et d7) rfl (dt (ps (ps (ps (ps (ps (ps (ps p7)))))))) ?_)
              refine wl (s_load ti9 (et (ds (ds (ds (ds (ds (ds (ds d7)))))))) ((hS.blk d0).cell d1) (dt (ps (ps (ps (ps (ps (ps (ps p8)))))))) ?_)
              refine wl (s_lens Tryd.underlying9 (et (ds (ds (ds (ds (ds (ds (ds d8)))))))) (dt (ps (ps (ps (ps (ps (ps (ps p9)))))))) ?_)
              refine wl (s_addn (et (ds (ds (ds (ds (ds (ds (ds d6)))))))) (et (ds (ds (ds (ds (ds (ds (ds d9)))))))) (by simp only [tw_take]; omega) (dt (ps (ps (ps (ps (ps (ps (ps (ps p0))))))))) ?_)
              refine wl (s_assign (et (ds (ds (ds (ds (ds (ds (ds (ds d0))))))))) (dt p5) ?_)
              refine wnil ?_
              refine (fun h => bn (xn h)) ?_
              refine creg ?_
              refine wl (s_move (et d5) (dt (ps p9)) ?_)
              refine wl (s_move (et d0) (dt (ps (ps p0))) ?_)
              refine wl (s_move (et d5) (dt (ps (ps p1))) ?_)
              refine wl (s_cutlon Tryd.underlying9 (et (ds (ds d0))) (et (ds (ds d1))) (by simp only [tw_take]; omega) (dt (ps (ps p2))) ?_)
              refine wl (s_callp isfn12 ef (e1 (et (ds (ds d2))) e0) (space_c _ (by rw [List.length_drop]; omega)) (dt (ps (ps p3))) ?_)
              refine wl (s_addn (et (ds d9)) (et (ds (ds d3))) (by refine Nat.le_trans (Nat.add_le_add_left (space_le _) _) ?_; rw [List.length_drop]; simp only [tw_take]; omega) (dt (ps (ps p4))) ?_)
              refine wl (s_assign (et (ds (ds d4))) (dt p5) ?_)
              refine wnil ?_
              refine xl ?_
              replace hS := hS.drop Rm.z
              exact ⟨(_, _, _), _, rfl, (Ag.k (Ag.k (Ag.o (Ag.k (Ag.i (Ag.i (Ag.o (Ag.o (Ag.o (Ag.k (Ag.k (Ag.k (Ag.k (Ag.k (Ag.k (Ag.o (Ag.o (Ag.o (Ag.o (Ag.o (Ag.o (Ag.o (Ag.o (Ag.o (Ag.o (Ag.o (Ag.o (Ag.o (Ag.o (Ag.o (Ag.o (Ag.o (Ag.o (Ag.o (Ag.o (Ag.o (Ag.o (Ag.o (Ag.o (Ag.o (Ag.o (Ag.o (Ag.o (Ag.o (Ag.o (Ag.o (Ag.o (Ag.o (Ag.o (Ag.o (Ag.o (Ag.o (Ag.o (Ag.o (Ag.o (Ag.o (Ag.o (Ag.o (Ag.o (Ag.o (Ag.o (Ag.o (Ag.o (Ag.o (Ag.o (Ag.o (Ag.o (Ag.o (Ag.o (Ag.o (Ag.o (Ag.o (Ag.o (Ag.o (Ag.o (Ag.o (Ag.o (Ag.o (Ag.o (Ag.o (Ag.o Ag.z))))))))))))))))))))))))))))))))))))))))))))))))))))))))))))))))))))))))))))))))), fin _ _ _ _ _ ht (by first | rfl | exact tw_take _ _) (by simp only [cells, tw_take]; rfl) hS⟩
      · refine cexit ?_
        refine (fun h => xe (xe (bh h))) ?_
        refine xn ?_
        refine cseq ?_
        refine creg ?_
        refine wl (s_move (et d4) (dt (ps (ps (ps (ps (ps (ps (ps (ps p1))))))))) ?_)
        refine wl (s_build ti26 pl26 Fl.z (dt (ps (ps (ps (ps (ps (ps (ps (ps p2))))))))) ?_)
        refine wl (s_assign (et (ds (ds (ds (ds (ds (ds (ds (ds d1))))))))) (dt p2) ?_)
        refine wl (s_store ti26 (et d3) (et (ds (ds (ds (ds (ds (ds (ds (ds d2))))))))) rfl rfl rfl hS d1 (Spl.s p0 (of_decide_eq_true rfl) (Spl.s p1 (of_decide_eq_true rfl) Spl.z)) rfl p1 dn ?_)
        clear hS; intro w22_ hS
        refine wnil ?_
        refine xn ?_
        refine cret ?_
        refine retN rfl (RVs.s (.t d2) (RVs.s (.a d3 ti26 (hS.blk d1).cells rfl) RVs.z)) ?_
        first
          | (rw [if_pos (by omega)]; exact ⟨hS.keeps, rfl⟩)
          | (rw [if_neg (by omega), hr, lexr_err hne ht]; exact ⟨hS.keeps, rfl⟩)
          | (rw [if_neg (by omega), hr, List.drop_eq_nil_of_le (by omega), lexr_nil]; exact ⟨hS.keeps, _, rfl, by simp; omega, by simpa using hS.give d0 (B := Toks v ts) fun _ h => h⟩)

end Go.Proofs.YtjbmnfilgedebaaDoor
