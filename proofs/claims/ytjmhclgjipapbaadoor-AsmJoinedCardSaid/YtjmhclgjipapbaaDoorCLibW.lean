/- What the library does, said of what is owned and what is read. -/
import Derived.Test.YtjmhclgjipapbaaDoorCALib
import Derived.Test.YtjmhclgjipapbaaDoorCFc
import Derived.Test.YtjmhclgjipapbaaDoorCLxShelf
import Derived.Lib.SplitLaws
import Derived.KernelRfl
set_option linter.unusedSectionVars false
set_option linter.unusedSimpArgs false
set_option linter.unusedVariables false
namespace Go.Proofs.YtjmhclgjipapbaaDoor
open Go.Wk Go.Xt Go.Y Go.RowKit Go.Sort
theorem grow_of {w w' : World} (h : Below w.heap.size w w') : Grow w w' := ⟨h.os, h.tape, h.output, h.size, fun k hk _ => h.block k hk⟩
theorem grow_drewN (w : World) (n : Nat) : Grow w (w.drewN n) := ⟨rfl, rfl, rfl, Nat.le_refl _, fun _ _ _ => rfl⟩
theorem grow_grow' (w : World) (n : Nat) (os : Array Obj) : Grow w (grow (w.drewN n) os) := ⟨rfl, rfl, rfl, by simp [grow], fun k hk _ => by
  simp only [grow, World.heap_drewN]
  exact Array.getElem?_append_left hk⟩
def Gm : M := fun w => (∃ m, w.cell? ⟨0, 0, none⟩ = some (.int .i64 m)) ∧ Lib.TabIs Tryd.prog w "internal/strconv.uint64pow10" .u64 Lib.pow10Tab ∧ (∃ ev, w.cell? ⟨2, 0, none⟩ = some ev ∧ (ev = .nilIface ∨ ∃ te pe, ev = .iface te pe)) ∧ (∃ ev, w.cell? ⟨3, 0, none⟩ = some ev ∧ (ev = .nilIface ∨ ∃ te pe, ev = .iface te pe))
section
variable {μ0 : M} {w0 w : World} {rsF : List Res}
theorem s_cut_w {a b : List UInt8} {r : List UInt8 × List UInt8 × Bool} (hg : Le Gm μ0) (g : s_cut a b = some r) (hS : Sq μ0 w0 w rsF) :
    CallsV Tryd.prog 13 [S a, S b] w (fun v w' => v = .tuple ⟨[S r.1, S r.2.1, .bool r.2.2]⟩ ∧ Sq μ0 w0 w' rsF) := by
  unfold s_cut at g
  split at g
  · rename_i hl
    obtain rfl := Option.some.inj g
    obtain ⟨⟨m, hm⟩, -⟩ := hg w hS.a
    exact ⟨(Tryd.strings_Cut ⟨⟨a⟩⟩ ⟨⟨b⟩⟩ m w hl hm).mono fun e w' he => by
      obtain ⟨rfl, n, rfl⟩ := he
      exact ⟨rfl, hS.grow (grow_drewN w n)⟩⟩
  · cases g
theorem s_pre_w {a b : List UInt8} {r : List UInt8 × Bool} (g : s_pre a b = some r) (hS : Sq μ0 w0 w rsF) :
    CallsV Tryd.prog 14 [S a, S b] w (fun v w' => v = .tuple ⟨[S r.1, .bool r.2]⟩ ∧ Sq μ0 w0 w' rsF) := by
  obtain rfl := Option.some.inj g
  exact ⟨(Tryd.strings_CutPrefix ⟨⟨a⟩⟩ ⟨⟨b⟩⟩ w).mono fun e w' he => by
    obtain ⟨rfl, rfl⟩ := he
    exact ⟨rfl, hS⟩⟩
theorem rw_strings {μ : M} : ∀ (l : List ByteArray), Rw μ (l.map Value.string) (l.map (·.data.toList))
  | [] => Rw.nil
  | x :: l => Rw.cons (cs := [.string x]) (show [Value.string x] = [S x.data.toList] by simp [S]) (rw_strings l)
theorem s_split_w {a b : List UInt8} {r : List (List UInt8)} (hg : Le Gm μ0) (g : s_split a b = some r) (hS : Sq μ0 w0 w rsF) :
    CallsV Tryd.prog 33 [S a, S b] w (fun v w' => ∃ (μ' : M) (p : Option Addr) (c : Nat), v = .slice p r.length c ∧ Le μ0 μ' ∧ Sq μ' w0 w' rsF ∧ Sl μ' p c r) := by
  unfold s_split at g
  split at g
  · rename_i hl
    obtain ⟨hl, h1⟩ := hl
    obtain rfl := Option.some.inj g
    obtain ⟨⟨m, hm⟩, -⟩ := hg w hS.a
    refine ⟨(Tryd.strings_Split ⟨⟨a⟩⟩ ⟨⟨b⟩⟩ m w hl hm h1).mono fun e w' he => ?_⟩
    obtain ⟨rfl, rfl⟩ := he
    have hn := Lib.splitB_all ⟨⟨b⟩⟩ h1 0 _ ⟨⟨a⟩⟩ rfl
    have hc := Lib.countB_le ⟨⟨b⟩⟩ h1 _ ⟨⟨a⟩⟩ (Nat.le_refl _)
    have hsz : (⟨⟨a⟩⟩ : ByteArray).size < 4294967281 := hl
    have key : Sq μ0 w0 (w.alloc (.cells ((Lib.splitB ⟨⟨b⟩⟩ 0 (Lib.countB ⟨⟨a⟩⟩ ⟨⟨b⟩⟩) ⟨⟨a⟩⟩).map Value.string).toArray 9)) (.row (.slice (some ⟨w.heap.size, 0, none⟩) (Lib.countB ⟨⟨a⟩⟩ ⟨⟨b⟩⟩ + 1) (Lib.countB ⟨⟨a⟩⟩ ⟨⟨b⟩⟩ + 1)) 9 1 (Lib.countB ⟨⟨a⟩⟩ ⟨⟨b⟩⟩ + 1) ((Lib.splitB ⟨⟨b⟩⟩ 0 (Lib.countB ⟨⟨a⟩⟩ ⟨⟨b⟩⟩) ⟨⟨a⟩⟩).map Value.string) :: rsF) := by
      refine hS.alloc rfl ⟨by simp [hn], .inr ⟨_, 0, _, _, rfl, heap_alloc_new w _, Nat.le_refl _, ?_, ?_, ?_⟩⟩
      · simp only [maxLen]; omega
      · simp [hn]
      · simp only [List.drop_zero, Nat.mul_one]
        exact List.take_of_length_le (by simp [hn])
    obtain ⟨μ', p, c, e, hle, hs, hS'⟩ := Sep.frzRow (α := List UInt8) key (rw_strings _) (by simp [hn])
    exact ⟨μ', p, c, by rw [← e], hle, hS', hs⟩
  · cases g
theorem s_idx_w {l : List (List UInt8)} {x : List UInt8} {r : Int} {p : Option Addr} {c : Nat} (hl : Sl μ0 p c l) (g : s_idx l x = some r) (hS : Sq μ0 w0 w rsF) :
    CallsV Tryd.prog 34 [.slice p l.length c, S x] w (fun v w' => v = .int .i64 r ∧ Sq μ0 w0 w' rsF) := by
  obtain rfl := Option.some.inj g
  cases l with
  | nil => exact ⟨(Tryd.slices_Index_string_empty p c ⟨⟨x⟩⟩ w).mono fun e w' he => by
      obtain ⟨rfl, rfl⟩ := he
      exact ⟨rfl, hS⟩⟩
  | cons y l =>
    have hlen := Sl.len hl
    rcases hl.el with h | ⟨b, o, rfl, gg, hel⟩
    · cases h
    · refine ⟨(Tryd.slices_Index_string b o (y :: l).length c ((y :: l).map fun y => ⟨⟨y⟩⟩) ⟨⟨x⟩⟩ w (by simp) hlen ?_).mono fun e w' he => ?_⟩
      · intro j hj
        have hj2 : j < (y :: l).length := by simpa using hj
        obtain ⟨h1, h2⟩ := hel j _ (List.getElem?_eq_getElem hj2)
        have h3 : gg j = [S (y :: l)[j]] := h2
        rw [h3] at h1
        have h4 := h1 w hS.a 0 _ rfl
        have h5 : o + j * Mo.sz (List UInt8) + 0 = o + j := by show o + j * 1 + 0 = _; omega
        rw [h5] at h4
        rw [h4]
        simp only [List.getD_eq_getElem?_getD, List.getElem?_map, List.getElem?_eq_getElem hj2]
        rfl
      · obtain ⟨rfl, rfl⟩ := he
        refine ⟨?_, hS⟩
        rw [List.take_of_length_le (by simp)]

theorem eq_ifc {P : Program} {T : TypeId} {ms : Array (String × TypeId)} {v : Value} {b : Bool} (hu : P.underlying T = some (.interface ms)) (hv : (v = .nilIface ∧ b = true) ∨ ((∃ a c, v = .iface a c) ∧ b = false)) : EqV P 1 T v .nilIface b := ⟨fun d w hd => by
  cases d with
  | zero => omega
  | succ d => rcases hv with ⟨rfl, rfl⟩ | ⟨⟨a, c, rfl⟩, rfl⟩ <;> simp [Op.equalIn, run_underlying hu]⟩
theorem s_eqni {P : Program} {Q : Exit → Act → World → Prop} {K : List Value → List Deferred → World → Prop} {fr fr' : List Value} {ds : List Deferred} {dst : Option Tmp} {ty : TypeId} {pos : String} {after : Array Edge} {g : Option (Nat × Bool)} {x : Operand} {t t' : TypeId} {v : Value} {b : Bool} {ms : Array (String × TypeId)} (hu : P.underlying t = some (.interface ms)) (hx : Ev fr x v) (hv : (v = .nilIface ∧ b = true) ∨ ((∃ a c, v = .iface a c) ∧ b = false)) (hp : Dt fr dst (.bool b) fr') (k : K fr' ds w) :
    OW P (Oper.mk dst (.binOp .eql t x (.const .nilIface) t') ty pos after g) fr ds w K Q := by
  refine su ⟨fun ds w => ?_⟩ hp k
  have h1 := hx ds
  have h2 : (F fr ds).eval (.const .nilIface) = .nilIface := rfl
  have h3 := (eq_ifc hu hv).out Op.maxDepth w (by decide)
  rcases hv with ⟨rfl, rfl⟩ | ⟨⟨a, c, rfl⟩, rfl⟩ <;> simp [execOp, h1, h2, eqGuard, binOp, Op.equal, h3]
theorem parse_w {s : List UInt8} (hg : Le Gm μ0) (hl : s.length ≤ 281474976710656) (hS : Sq μ0 w0 w rsF) :
    CallsV Tryd.prog 45 [S s, .int .i64 10, .int .i64 64] w (fun v w' => ∃ n e, v = .tuple ⟨[.int .i64 n, e]⟩ ∧ Sq μ0 w0 w' rsF ∧ (match Lib.parseIntB 64 s with | .ok k => n = k ∧ e = .nilIface | .range => n = Lib.intSat 64 s ∧ ∃ a c, e = .iface a c | _ => n = 0 ∧ ∃ a c, e = .iface a c)) := by
  have hsz : (⟨⟨s⟩⟩ : ByteArray).size = s.length := rfl
  obtain ⟨-, -, ⟨e1, h1, h1'⟩, ⟨e2, h2, h2'⟩⟩ := hg w hS.a
  cases hp : Lib.parseIntB 64 s
  · rename_i k
    refine ⟨(Tryd.strconv_ParseInt_10_at64_ok ⟨⟨s⟩⟩ (by omega) k hp w).mono fun e w' he => ?_⟩
    obtain ⟨rfl, hw⟩ := he
    refine ⟨k, .nilIface, rfl, ?_, rfl, rfl⟩
    rcases hw with rfl | ⟨t, rfl⟩
    · exact hS
    · exact hS.grow (grow_of (Lib.bytesWorld_below w 5 t))
  · refine ⟨(Tryd.strconv_ParseInt_10_at64_syntax ⟨⟨s⟩⟩ (by omega) (by rw [show (⟨⟨s⟩⟩ : ByteArray).data.toList = s from rfl, hp]) e1 w h1 h1').mono fun e w' he => ?_⟩
    obtain ⟨N, rfl, -, -, hb⟩ := he
    exact ⟨_, _, rfl, hS.grow (grow_of hb), rfl, _, _, rfl⟩
  · refine ⟨(Tryd.strconv_ParseInt_10_at64_range ⟨⟨s⟩⟩ (by omega) hp e2 w h2 h2').mono fun e w' he => ?_⟩
    obtain ⟨N, rfl, -, -, hb⟩ := he
    exact ⟨_, _, rfl, hS.grow (grow_of hb), rfl, _, _, rfl⟩
theorem format_w {n : Int} (hg : Le Gm μ0) (h0 : -9223372036854775808 ≤ n) (h1 : n ≤ 9223372036854775807) (hS : Sq μ0 w0 w rsF) :
    CallsV Tryd.prog 25 [.int .i64 n, .int .i64 10] w (fun v w' => v = S (Lib.itoa n) ∧ Sq μ0 w0 w' rsF) := by
  obtain ⟨-, ht, -⟩ := hg w hS.a
  refine ⟨(Tryd.strconv_FormatInt_10 n h0 h1 w ht).mono fun e w' he => ?_⟩
  obtain ⟨rfl, k, os, rfl⟩ := he
  exact ⟨rfl, hS.grow (grow_grow' w k os)⟩
theorem parse_range {s : List UInt8} {k : Int} (h : Lib.parseIntB 64 s = .ok k) : -9223372036854775808 ≤ k ∧ k ≤ 9223372036854775807 := by
  unfold Lib.parseIntB at h
  split at h
  · cases h
  · rename_i c r
    dsimp only at h
    split at h
    · cases h
    · cases h
    · rename_i u hu
      split at h
      · cases h
      · split at h
        · cases h
        · simp at h
          split at h <;> omega
theorem asm_number_w {s : List UInt8} {r : Int × Bool} (hg : Le Gm μ0) (g : asm_number s = some r) (hS : Sq μ0 w0 w rsF) :
    CallsV Tryd.prog 35 [S s] w (fun v w' => v = .tuple ⟨[.int .i64 r.1, .bool r.2]⟩ ∧ Sq μ0 w0 w' rsF) := by
  unfold asm_number at g
  split at g
  · rename_i hl
    obtain rfl := Option.some.inj g
    clear g
    refine enter Tryd.func35 rfl (frm := [_, _, _, _, _, _, _, _, _, _, _, _, _, _, _, _, _, _, _, _]) rfl ?_
    refine cseq ?_
    refine creg ?_
    refine wl (s_assign ec (dt p2) ?_)
    refine wl (s_assign ec (dt p3) ?_)
    refine wnil ?_
    refine xn ?_
    refine cseq ?_
    refine creg ?_
    refine wl (s_move (et d0) (dt p7) ?_)
    refine wl (s_callv isfn45 ef (e1 (et d7) (e1 ec (e1 ec e0))) (parse_w hg hl hS) ?_)
    rintro _ w1 ⟨n, e, rfl, hS, hp⟩
    refine pu (dt p8) ?_
    refine wl (s_move (et d8) (dt p6) ?_)
    refine wl (s_extr (et d6) d0 (dt p9) ?_)
    refine wl (s_extr (et d6) d1 (dt (ps p0)) ?_)
    refine wl (s_assign (et d9) (dt p4) ?_)
    refine wl (s_assign (et (ds d0)) (dt p5) ?_)
    refine wnil ?_
    refine xn ?_
    refine cseq ?_
    refine creg ?_
    refine wl (s_move (et d4) (dt (ps p1)) ?_)
    refine wl (s_move (et d5) (dt (ps p2)) ?_)
    cases hpp : Lib.parseIntB 64 s
    · rename_i k
      rw [hpp] at hp
      obtain ⟨rfl, rfl⟩ := hp
      obtain ⟨h0, h1⟩ := parse_range hpp
      refine wl (s_eqni Tryd.underlying63 (et (ds d2)) (.inl ⟨rfl, rfl⟩) (dt (ps p3)) ?_)
      refine wl (s_move (et (ds d3)) (dt (ps p4)) ?_)
      refine wy rfl (ds d4) (s_move (et d4) (dt (ps p5)) ?_)
      refine wy rfl (ds d4) (s_callv isfn25 ef (e1 (et (ds d5)) (e1 ec e0)) (format_w hg h0 h1 hS) ?_)
      rintro _ w2 ⟨rfl, hS⟩
      refine pu (dt (ps p6)) ?_
      refine wy rfl (ds d4) (s_move (et d0) (dt (ps p7)) ?_)
      refine wy rfl (ds d4) (s_eqs (et (ds d6)) (et (ds d7)) (dt (ps p8)) ?_)
      refine wl (s_pickt (et (ds d4)) (et (ds d8)) (dt (ps p9)) ?_)
      refine wl (s_assign (et (ds d1)) (dt p2) ?_)
      refine wl (s_assign (et (ds d9)) (dt p3) ?_)
      refine wnil ?_
      refine xn ?_
      refine cret ?_
      refine ret2 rfl d2 d3 ?_
      exact ⟨rfl, hS⟩
    · rw [hpp] at hp
      obtain ⟨rfl, a, c, rfl⟩ := hp
      refine wl (s_eqni Tryd.underlying63 (et (ds d2)) (.inr ⟨⟨_, _, rfl⟩, rfl⟩) (dt (ps p3)) ?_)
      refine wl (s_move (et (ds d3)) (dt (ps p4)) ?_)
      refine wn rfl (ds d4) rfl (dt (ps p5)) ?_
      refine wn rfl (ds d4) rfl (dt (ps p6)) ?_
      refine wn rfl (ds d4) rfl (dt (ps p7)) ?_
      refine wn rfl (ds d4) rfl (dt (ps p8)) ?_
      refine wl (s_pickf (et (ds d4)) ec (dt (ps p9)) ?_)
      refine wl (s_assign (et (ds d1)) (dt p2) ?_)
      refine wl (s_assign (et (ds d9)) (dt p3) ?_)
      refine wnil ?_
      refine xn ?_
      refine cret ?_
      refine ret2 rfl d2 d3 ?_
      exact ⟨rfl, hS⟩
    · rw [hpp] at hp
      obtain ⟨rfl, a, c, rfl⟩ := hp
      refine wl (s_eqni Tryd.underlying63 (et (ds d2)) (.inr ⟨⟨_, _, rfl⟩, rfl⟩) (dt (ps p3)) ?_)
      refine wl (s_move (et (ds d3)) (dt (ps p4)) ?_)
      refine wn rfl (ds d4) rfl (dt (ps p5)) ?_
      refine wn rfl (ds d4) rfl (dt (ps p6)) ?_
      refine wn rfl (ds d4) rfl (dt (ps p7)) ?_
      refine wn rfl (ds d4) rfl (dt (ps p8)) ?_
      refine wl (s_pickf (et (ds d4)) ec (dt (ps p9)) ?_)
      refine wl (s_assign (et (ds d1)) (dt p2) ?_)
      refine wl (s_assign (et (ds d9)) (dt p3) ?_)
      refine wnil ?_
      refine xn ?_
      refine cret ?_
      refine ret2 rfl d2 d3 ?_
      exact ⟨rfl, hS⟩
  · cases g
end
end Go.Proofs.YtjmhclgjipapbaaDoor
