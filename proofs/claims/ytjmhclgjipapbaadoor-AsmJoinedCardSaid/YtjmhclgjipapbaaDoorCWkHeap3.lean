/- The calculus, fourth part: structs that are built. -/
import Derived.Test.YtjmhclgjipapbaaDoorCWkHeap2
set_option linter.unusedSectionVars false
set_option linter.unusedVariables false
set_option linter.unusedSimpArgs false
namespace Go.Wk
open Go.RowKit

/- structs that are built; small steps more -/
section
variable {P : Program} {Q : Exit → Act → World → Prop} {K : List Value → List Deferred → World → Prop} {fr fr' : List Value} {ds : List Deferred} {w : World}
variable {dst : Option Tmp} {ty : TypeId} {pos : String} {after : Array Edge} {g : Option (Nat × Bool)}
variable {S S0 : Nat → Prop} {w0 : World} {rs rs' : List Res} {A : World → Prop}
variable {T : TypeId} {d : TypeDesc} {ag : Bool} {zc : List Value} {n m : Nat}

theorem Sep.blk {k b : Nat} {cs : List Value} (h : Sep S S0 w0 w rs A) (hl : Lk rs k (.blk b T cs)) : Blk w b T cs := h.get hl
theorem Sep.rowOf {k : Nat} {v : Value} {sz : Nat} {xs : List Value} (h : Sep S S0 w0 w rs A) (hl : Lk rs k (.row v T sz n xs)) : Row w v T sz n xs := h.get hl
/-- A part of a list. -/
inductive Sb : List Value → Nat → List Value → Prop where
  | z {cs : List Value} {o : Nat} : Sb cs o []
  | s {cs : List Value} {o : Nat} {v : Value} {vs : List Value} (h : Lk cs o v) (t : Sb cs (o + 1) vs) : Sb cs o (v :: vs)
theorem Sb.at {cs : List Value} {o : Nat} {vs : List Value} (h : Sb cs o vs) : ∀ j v, vs[j]? = some v → cs[o + j]? = some v := by
  induction h with
  | z => intro j v h; simp at h
  | @s o v vs h t ih =>
    intro j u hj
    cases j with
    | zero => simp at hj; subst hj; exact h
    | succ j => have := ih j u (by simpa using hj); rw [show o + (j + 1) = o + 1 + j by omega]; exact this
theorem Blk.cellsAt {b o : Nat} {cs vs : List Value} (h : Blk w b T cs) (hs : Sb cs o vs) : CellsAt w b o vs := fun j v hj => h.cell (hs.at j v hj)
theorem CellsAt.sub {b o p : Nat} {cs vs : List Value} (h : CellsAt w b o cs) (hs : Sb cs p vs) : CellsAt w b (o + p) vs := fun j v hj => by
  rw [Nat.add_assoc]; exact h _ v (hs.at j v hj)
/-- A store of one cell. -/
theorem s_store1 {x y : Operand} {b o k : Nat} {v : Value} {cs cs' : List Value} (hT : TI P T ag zc 1 m) (hx : Ev fr x (.pointer (some ⟨b, o, none⟩))) (hy : Ev fr y v) (hv : cellV v = true)
    (hS : Sep S S0 w0 w rs A) {T' : TypeId} (hl : Lk rs k (.blk b T' cs)) (hs : Pt cs o v cs') (ho : (decide (o < cs.length)) = true) (hp : Pt rs k (.blk b T' cs') rs')
    (hd : Dt fr dst undef fr') (h : ∀ w', Sep S S0 w0 w' rs' A → K fr' ds w') : OW P (Oper.mk dst (.store T x y) ty pos after g) fr ds w K Q :=
  s_store (vs := [v]) hT hx hy (cells_one hv) rfl (by simp [hv]) hS hl (.s hs (of_decide_eq_true ho) .z) (decide_eq_true (Nat.le_of_lt (of_decide_eq_true ho))) hp hd h

/-- Where the fields of a struct lie. -/
structure PL (P : Program) (T : TypeId) (pl : Array (Nat × Nat)) : Prop where
  out : ∃ fs, P.underlying T = some (.struct fs) ∧ ∀ w, ((fs.mapM fun f => do pure (f.offset, ← Go.sizeOf f.type) : Sem (Array (Nat × Nat))).run P w) = .ok pl w
theorem pl_of {fs : Array Field} {pl : Array (Nat × Nat)} (hu : P.underlying T = some (.struct fs)) (h : ∀ w, ((fs.mapM fun f => do pure (f.offset, ← Go.sizeOf f.type) : Sem (Array (Nat × Nat))).run P w) = .ok pl w) : PL P T pl := ⟨fs, hu, h⟩
/-- The parts of a struct that is built. -/
inductive Fl (fr : List Value) (pl : Array (Nat × Nat)) : List Value → List (Nat × Operand) → List Value → Prop where
  | z {cs : List Value} : Fl fr pl cs [] cs
  | o {cs cs1 out : List Value} {i off : Nat} {x : Operand} {v : Value} {xs : List (Nat × Operand)} (hi : pl[i]? = some (off, 1)) (hx : Ev fr x v) (hv : cellV v = true) (ho : decide (off < cs.length) = true) (hp : Pt cs off v cs1) (t : Fl fr pl cs1 xs out) : Fl fr pl cs ((i, x) :: xs) out
  | n {cs cs1 out vs : List Value} {i off n : Nat} {x : Operand} {xs : List (Nat × Operand)} (hi : pl[i]? = some (off, n)) (hx : Ev fr x (.agg ⟨vs⟩)) (hn : vs.length = n) (ho : decide (off + n ≤ cs.length) = true) (hp : Spl cs off vs cs1) (t : Fl fr pl cs1 xs out) : Fl fr pl cs ((i, x) :: xs) out
theorem foldl_splice : ∀ (vs : List Value) (off j : Nat) (cs : List Value), off + j + vs.length ≤ cs.length →
    ((vs.zipIdx j).foldl (fun (cs : Array Value) (p : Value × Nat) => cs.setIfInBounds (off + p.2) p.1) ⟨cs⟩) = ⟨cs.take (off + j) ++ vs ++ cs.drop (off + j + vs.length)⟩
  | [], off, j, cs, _ => by simp
  | v :: vs, off, j, cs, h => by
    have hlt : off + j < cs.length := by simp at h; omega
    rw [List.zipIdx_cons, List.foldl_cons]
    have e0 : (⟨cs⟩ : Array Value).setIfInBounds (off + j) v = ⟨cs.set (off + j) v⟩ := by simp
    simp only [e0]
    rw [foldl_splice vs off (j + 1) (cs.set (off + j) v) (by simp at h ⊢; omega)]
    have e2 : (cs.set (off + j) v).take (off + (j + 1)) = cs.take (off + j) ++ [v] := by
      rw [show off + (j + 1) = off + j + 1 by omega, List.take_set, List.take_add_one, List.getElem?_eq_getElem hlt]
      rw [List.set_append_right _ _ (by simp; omega)]
      simp [Nat.min_eq_left (Nat.le_of_lt hlt)]
    have e3 : (cs.set (off + j) v).drop (off + (j + 1) + vs.length) = cs.drop (off + j + (v :: vs).length) := by
      rw [List.drop_set_of_lt (by omega)]
      congr 1
      simp; omega
    rw [e2, e3]
    simp
theorem Fl.run {pl : Array (Nat × Nat)} {cs out : List Value} {xs : List (Nat × Operand)} (h : Fl fr pl cs xs out) : Instr.fill (pl[·]?) ⟨cs⟩ (xs.map fun p => (p.1, (F fr ds).eval p.2)) = some ⟨out⟩ := by
  induction h with
  | z => rfl
  | @o cs cs1 out i off x v xs hi hx hv ho hp t ih =>
    have hlt := of_decide_eq_true ho
    simp only [List.map_cons, Instr.fill, hi, hx ds, cells_one hv]
    have e0 : ¬ ((#[v].size ≠ 1 || off + #[v].size > (⟨cs⟩ : Array Value).size) = true) := by simp; omega
    rw [if_neg e0]
    have e1 : (#[v].zipIdx.foldl (fun cs (c, j) => cs.setIfInBounds (off + j) c) (⟨cs⟩ : Array Value)) = ⟨cs1⟩ := by
      unfold Pt at hp
      subst hp
      simp [Array.zipIdx]
    rw [e1]
    exact ih
  | @n cs cs1 out vs i off n x xs hi hx hn ho hp t ih =>
    have hlt := of_decide_eq_true ho
    simp only [List.map_cons, Instr.fill, hi, hx ds]
    have e0 : ¬ (((Value.agg ⟨vs⟩).cells.size ≠ n || off + (Value.agg ⟨vs⟩).cells.size > (⟨cs⟩ : Array Value).size) = true) := by simp [Value.cells, hn]; omega
    rw [if_neg e0]
    have e1 : ((Value.agg ⟨vs⟩).cells.zipIdx.foldl (fun cs (c, j) => cs.setIfInBounds (off + j) c) (⟨cs⟩ : Array Value)) = ⟨cs1⟩ := by
      have := foldl_splice vs off 0 cs (by omega)
      rw [hp.res (by omega)]
      simp only [Nat.add_zero] at this
      rw [← this]
      rw [← Array.foldl_toList]
      simp [Value.cells]
    rw [e1]
    exact ih
theorem s_build {pl : Array (Nat × Nat)} {xs : List (Nat × Operand)} {out : List Value} (hT : TI P T ag zc n m) (hpl : PL P T pl) (hf : Fl fr pl zc xs out) (hp : Dt fr dst (.agg ⟨out⟩) fr') (h : K fr' ds w) :
    OW P (Oper.mk dst (.build T ⟨xs⟩) ty pos after g) fr ds w K Q := by
  refine op_v (v := .agg ⟨out⟩) (w' := w) ?_ hp h
  obtain ⟨z, hz, hc⟩ := hT.zero (w := w)
  have hr := hf.run (ds := ds)
  obtain ⟨fs, hund, hmm⟩ := hpl.out
  have hm := hmm w
  have hl : ((⟨xs⟩ : Array (Nat × Operand)).map fun (i, x) => (i, (F fr ds).eval x)).toList = xs.map fun p => (p.1, (F fr ds).eval p.2) := by simp
  unfold execOp
  simp only [Instr.build, Sem.run_bind, hz, Result.andThen_ok, run_underlying hund]
  rw [hm]
  simp only [Result.andThen_ok, hc, hl]
  rw [hr]
  simp
/-- A slice of one struct that is written out. -/
theorem s_bsl1 {e : TypeId} {x : Operand} {cs : List Value} (hT : P.underlying T = some (.slice e)) (hE : TI P e ag zc n m) (hz : (zc.length == n && decide (0 < n) && decide (n ≤ 1000)) = true) (hx : Ev fr x (.agg ⟨cs⟩)) (hn : cs.length = n) (hS : Sep S S0 w0 w rs A)
    (h : ∀ b w', w.heap.size ≤ b → Sep S S0 w0 w' (.blk b e cs :: rs) A → Put fr dst (.slice (some ⟨b, 0, none⟩) 1 1) fun fr' => K fr' ds w') : OW P (Oper.mk dst (.buildSlice T 1 #[(0, x)]) ty pos after g) fr ds w K Q := by
  obtain ⟨fr', hd⟩ := dt_ex fr dst (.slice (some ⟨w.heap.size, 0, none⟩) 1 1)
  refine op_v (v := .slice (some ⟨w.heap.size, 0, none⟩) 1 1) (w' := w.alloc (.cells ⟨cs⟩ e)) ?_ hd (h _ _ (Nat.le_refl _) (hS.alloc rfl (heap_alloc_new w _)) fr' hd)
  obtain ⟨z, hzz, hc⟩ := hE.zero (w := w)
  have hE1 := hE.sizeOf (w := w)
  simp only [Bool.and_eq_true, beq_iff_eq, decide_eq_true_eq] at hz
  have h2 : ¬ (1 * n > 2 ^ 24) := by have := hz.2; omega
  have h0 : ¬ (1 * n = 0) := by have := hz.1.2; omega
  have hfill : ∀ zs : Array Value, zs.size = n → Instr.fill (fun i => some (i * n, n)) zs [(0, Value.agg ⟨cs⟩)] = some ⟨cs⟩ := by
    intro zs hzs
    simp only [Instr.fill]
    have e0 : ¬ (((Value.agg ⟨cs⟩).cells.size ≠ n || 0 * n + (Value.agg ⟨cs⟩).cells.size > zs.size) = true) := by simp [Value.cells, hn, hzs]
    rw [if_neg e0]
    congr 1
    have h1 := foldl_splice cs (0 * n) 0 zs.toList (by simp [hn, hzs])
    rw [← Array.foldl_toList]
    have e1 : (Value.agg ⟨cs⟩).cells.zipIdx.toList = cs.zipIdx 0 := by simp [Value.cells]
    rw [e1]
    refine h1.trans ?_
    rw [List.drop_eq_nil_of_le (by simp [hn, hzs])]
    simp
  have hl : (#[(0, x)].map fun (i, x) => (i, (F fr ds).eval x)).toList = [(0, Value.agg ⟨cs⟩)] := by simp [hx ds]
  unfold execOp
  simp only [Instr.buildSlice, Sem.run_bind, run_underlying hT, Result.andThen_ok, hE1, if_neg h2, hl, if_neg h0, Sem.run_pure, hzz]
  rw [hfill _ (by simp)]
  simp [newRow]
end
theorem Sep.reput {S S0 : Nat → Prop} {w0 w : World} {rs rs' : List Res} {A : World → Prop} {k : Nat} {r : Res} (h : Sep S S0 w0 w (rs.set k r) A) (hp : Pt rs k r rs') : Sep S S0 w0 w rs' A := by
  unfold Pt at hp
  rw [← hp]
  exact h
theorem Sep.drew {S S0 : Nat → Prop} {w0 w w' : World} {rs : List Res} {A : World → Prop} (h : Sep S S0 w0 w rs A) (hh : w'.heap = w.heap) (ho : w'.os = w.os) (ht : w'.tape = w.tape) (hu : w'.output = w.output) : Sep S S0 w0 w' rs A :=
  h.grow ⟨ho, ht, hu, by rw [hh]; exact Nat.le_refl _, fun k _ _ => by rw [hh]⟩
/-- What is owned and new is a fact of every world to come. -/
theorem Sep.give {S0 : Nat → Prop} {w0 w : World} {rs : List Res} {A : World → Prop} {k : Nat} {r : Res} {B : World → Prop} (h : Sep (fun _ => True) S0 w0 w rs A) (hl : Lk rs k r) (hB : ∀ w, r.holds w → B w) : Rob (fun b => w0.heap.size ≤ b) w B :=
  fun w' _ h2 => hB w' (holds_of (h.get hl) fun b hb => h2 b (h.lt (mem_blocks (lk_mem hl) hb)) ((h.new b (mem_blocks (lk_mem hl) hb)).resolve_right fun hn => hn trivial))

/- structs that are compared; slices of which the length alone is known -/
section
variable {P : Program} {Q : Exit → Act → World → Prop} {K : List Value → List Deferred → World → Prop} {fr fr' : List Value} {ds : List Deferred} {w : World}
variable {dst : Option Tmp} {ty : TypeId} {pos : String} {after : Array Edge} {g : Option (Nat × Bool)}
variable {T : TypeId}
theorem bytes_eq (a b : ByteArray) : (a == b) = true ↔ a = b := by
  obtain ⟨x⟩ := a
  obtain ⟨y⟩ := b
  constructor
  · intro h
    have e : x = y := by simpa using (show (x == y) = true from h)
    rw [e]
  · intro h
    cases h
    show (x == x) = true
    simp
/-- Two values of a type, compared: m deep. -/
structure EqV (P : Program) (m : Nat) (T : TypeId) (v v' : Value) (b : Bool) : Prop where
  out : ∀ d w, m ≤ d → (Op.equalIn d T v v').run P w = .ok b w
theorem eq_int {k k' : IntKind} {a b : Int} (hu : P.underlying T = some (.int k)) : EqV P 1 T (.int k' a) (.int k' b) (decide (a = b)) := ⟨fun d w hd => by
  cases d with
  | zero => omega
  | succ d => simp [Op.equalIn, run_underlying hu]; by_cases h : a = b <;> simp [h]⟩
theorem eq_str {a b : List UInt8} (hu : P.underlying T = some .string) : EqV P 1 T (S a) (S b) (decide (a = b)) := ⟨fun d w hd => by
  cases d with
  | zero => omega
  | succ d =>
    simp only [Op.equalIn, run_underlying hu, S, Sem.run_bind, Result.andThen_ok, Sem.run_pure]
    congr 1
    rw [Bool.eq_iff_iff, bytes_eq]
    simp⟩
theorem eq_bool {a b : Bool} (hu : P.underlying T = some .bool) : EqV P 1 T (.bool a) (.bool b) (a == b) := ⟨fun d w hd => by
  cases d with
  | zero => omega
  | succ d => simp [Op.equalIn, run_underlying hu]⟩
/-- All of them. -/
def andL : List Bool → Bool
  | [] => true
  | [b] => b
  | b :: bs => b && andL bs
theorem andL_cons (b : Bool) (bs : List Bool) : andL (b :: bs) = (b && andL bs) := by cases bs <;> simp [andL]
/-- The fields of two structs, compared. -/
inductive EqFs (P : Program) (m : Nat) (xs ys : List Value) : List Field → List Bool → Prop where
  | z : EqFs P m xs ys [] []
  | o {f : Field} {fl : List Field} {v v' : Value} {b : Bool} {bs : List Bool} {T : TypeId} {off : Nat} {zc : List Value} {n k : Nat} (hn : (f.name == "_") = false) (hft : f.type = T) (hfo : f.offset = off) (hT : TI P T false zc n k) (hx : Lk xs off v) (hy : Lk ys off v') (he : EqV P m T v v' b) (t : EqFs P m xs ys fl bs) : EqFs P m xs ys (f :: fl) (b :: bs)
  | n {f : Field} {fl : List Field} {vs vs' : List Value} {b : Bool} {bs : List Bool} {T : TypeId} {off : Nat} {zc : List Value} {n k : Nat} (hn : (f.name == "_") = false) (hft : f.type = T) (hfo : f.offset = off) (hT : TI P T true zc n k) (hx : Sb xs off vs) (hy : Sb ys off vs') (hl : vs.length = n) (hl' : vs'.length = n) (he : EqV P m T (.agg ⟨vs⟩) (.agg ⟨vs'⟩) b) (t : EqFs P m xs ys fl bs) : EqFs P m xs ys (f :: fl) (b :: bs)
/-- A struct type that may be compared. -/
structure ES (P : Program) (T : TypeId) (fl : List Field) : Prop where
  und : P.underlying T = some (.struct ⟨fl⟩)
  held : P.stoodInHeld T = false
  guard : P.eqGuardType P.depth T = false
theorem run_part1 {zc : List Value} {n k off : Nat} {xs : List Value} {v : Value} (hT : TI P T false zc n k) (hx : Lk xs off v) : (part T ⟨xs⟩ off).run P w = .ok v w := by
  unfold Lk at hx
  simp [part, hT.isAgg, hx]
theorem Sb.extract {cs vs : List Value} {o : Nat} (h : Sb cs o vs) : (cs.drop o).take vs.length = vs := by
  induction h with
  | z => simp
  | @s o v vs hv t ih =>
    unfold Lk at hv
    have hlt : o < cs.length := (List.getElem?_eq_some_iff.1 hv).1
    rw [List.drop_eq_getElem_cons hlt, (List.getElem?_eq_some_iff.1 hv).2]
    simp [ih]
theorem run_partn {zc : List Value} {n k off : Nat} {xs vs : List Value} (hT : TI P T true zc n k) (hx : Sb xs off vs) (hn : vs.length = n) : (part T ⟨xs⟩ off).run P w = .ok (.agg ⟨vs⟩) w := by
  have := hx.extract
  rw [hn] at this
  simp [part, hT.isAgg, hT.sizeOf, this]
theorem EqFs.run {m : Nat} {xs ys : List Value} {fl : List Field} {bs : List Bool} (h : EqFs P m xs ys fl bs) (d : Nat) (hd : m ≤ d) :
    (forIn (⟨fl⟩ : Array Field) ((none, ()) : Option Bool × Unit) (fun f _ => (if f.name ≠ "_" then do
          if !(← Op.equalIn d f.type (← part f.type ⟨xs⟩ f.offset) (← part f.type ⟨ys⟩ f.offset)) then pure (ForInStep.done (some false, ())) else pure (ForInStep.yield (none, ()))
        else pure (ForInStep.yield (none, ())) : Sem (ForInStep (Option Bool × Unit))))).run P w = .ok (if andL bs then (none, ()) else (some false, ())) w := by
  induction h with
  | z => simp [andL]
  | @o f fl v v' b bs T off zc n k hn hft hfo hT hx hy he t ih =>
    subst hft; subst hfo
    have hn' : f.name ≠ "_" := by simpa using hn
    simp only [List.forIn_toArray] at ih ⊢
    rw [List.forIn_cons]
    simp only [ne_eq, hn', not_false_eq_true, if_true, Sem.run_bind, run_part1 hT hx, run_part1 hT hy, Result.andThen_ok, he.out d w hd]
    cases b with
    | true => simpa [andL_cons] using ih
    | false => simp [andL_cons]
  | @n f fl vs vs' b bs T off zc n k hn hft hfo hT hx hy hl hl' he t ih =>
    subst hft; subst hfo
    have hn' : f.name ≠ "_" := by simpa using hn
    simp only [List.forIn_toArray] at ih ⊢
    rw [List.forIn_cons]
    simp only [ne_eq, hn', not_false_eq_true, if_true, Sem.run_bind, run_partn hT hx hl, run_partn hT hy hl', Result.andThen_ok, he.out d w hd]
    cases b with
    | true => simpa [andL_cons] using ih
    | false => simp [andL_cons]
theorem eq_agg {m : Nat} {xs ys : List Value} {fl : List Field} {bs : List Bool} (hE : ES P T fl) (h : EqFs P m xs ys fl bs) : EqV P (m + 1) T (.agg ⟨xs⟩) (.agg ⟨ys⟩) (andL bs) := ⟨fun d w hd => by
  cases d with
  | zero => omega
  | succ d =>
    have := h.run (w := w) d (by omega)
    simp only [Op.equalIn, Sem.run_bind, run_underlying hE.und, Result.andThen_ok]
    rw [show (program).run P w = .ok P w from rfl]
    simp only [Result.andThen_ok, hE.held, Bool.false_eq_true, if_false, Sem.run_bind]
    rw [this]
    cases andL bs <;> rfl⟩
/-- A slice of that length. -/
def IsSl (v : Value) (n : Nat) : Prop := ∃ a c, v = .slice a n c
theorem u_lenv {x : Operand} {t e : TypeId} {v : Value} {n : Nat} (ht : P.underlying t = some (.slice e)) (hx : Ev fr x v) (hv : IsSl v n) : PU P (Oper.mk dst (.call { callee := .builtin .len, args := #[x], argTypes := #[t] }) ty pos after g) fr ((.int .i64 n)) := by
  obtain ⟨a, c, rfl⟩ := hv
  exact u_lensl ht hx
theorem s_lenv {x : Operand} {t e : TypeId} {v : Value} {n : Nat} (ht : P.underlying t = some (.slice e)) (hx : Ev fr x v) (hv : IsSl v n) (hp : Dt fr dst ((.int .i64 n)) fr') (h : K fr' ds w) : OW P (Oper.mk dst (.call { callee := .builtin .len, args := #[x], argTypes := #[t] }) ty pos after g) fr ds w K Q := su (u_lenv ht hx hv) hp h
theorem Row.isSl {v : Value} {sz n : Nat} {xs : List Value} (h : Row w v T sz n xs) : IsSl v n := by
  rcases h.2 with ⟨rfl, rfl⟩ | ⟨g, o, cap, cur, rfl, -⟩
  · exact ⟨_, _, rfl⟩
  · exact ⟨_, _, rfl⟩
theorem Row.some' {v : Value} {sz n : Nat} {xs : List Value} (h : Row w v T sz n xs) (hn : 0 < n) : ∃ b o c, v = .slice (some ⟨b, o, none⟩) n c ∧ CellsAt w b o xs := by
  rcases h.2 with ⟨rfl, rfl⟩ | ⟨g, o, cap, cur, rfl, hg, h1, h2, h3, h4⟩
  · omega
  · refine ⟨g, o, cap, rfl, fun j u hj => ?_⟩
    rw [cell_of_row w g (o + j) cur T (0, 0) hg]
    rw [← h4, List.getElem?_take] at hj
    split at hj
    · rw [List.getElem?_drop] at hj; simpa using hj
    · cases hj
end
section
variable {P : Program} {Q : Exit → Act → World → Prop} {K : List Value → List Deferred → World → Prop} {fr fr' : List Value} {ds : List Deferred} {w : World}
variable {dst : Option Tmp} {ty : TypeId} {pos : String} {after : Array Edge} {g : Option (Nat × Bool)}
variable {T : TypeId}
theorem run_guard {fl : List Field} {op : BinOp} {x y : Operand} {xs ys : Array Value} (hE : ES P T fl) : (eqGuard op T x y (.agg xs) (.agg ys)).run P w = .ok () w := by
  have hp : (program).run P w = .ok P w := rfl
  cases op <;> simp [eqGuard, hp, hE.guard]
theorem u_eqa {x y : Operand} {t' : TypeId} {m : Nat} {xs ys : List Value} {fl : List Field} {bs : List Bool} (hE : ES P T fl) (hx : Ev fr x (.agg ⟨xs⟩)) (hy : Ev fr y (.agg ⟨ys⟩)) (h : EqFs P m xs ys fl bs) (hm : (decide (m < 1000)) = true) :
    PU P (Oper.mk dst (.binOp .eql T x y t') ty pos after g) fr (.bool (andL bs)) := ⟨fun ds w => by
  have h1 := hx ds
  have h2 := hy ds
  have h3 := (eq_agg hE h).out Op.maxDepth w (by have := of_decide_eq_true hm; unfold Op.maxDepth; omega)
  have h4 := run_guard (w := w) (op := .eql) (x := x) (y := y) (xs := ⟨xs⟩) (ys := ⟨ys⟩) hE
  simp [execOp, h1, h2, h4, binOp, Op.equal, h3]⟩
theorem u_nea {x y : Operand} {t' : TypeId} {m : Nat} {xs ys : List Value} {fl : List Field} {bs : List Bool} (hE : ES P T fl) (hx : Ev fr x (.agg ⟨xs⟩)) (hy : Ev fr y (.agg ⟨ys⟩)) (h : EqFs P m xs ys fl bs) (hm : (decide (m < 1000)) = true) :
    PU P (Oper.mk dst (.binOp .neq T x y t') ty pos after g) fr (.bool (!andL bs)) := ⟨fun ds w => by
  have h1 := hx ds
  have h2 := hy ds
  have h3 := (eq_agg hE h).out Op.maxDepth w (by have := of_decide_eq_true hm; unfold Op.maxDepth; omega)
  have h4 := run_guard (w := w) (op := .neq) (x := x) (y := y) (xs := ⟨xs⟩) (ys := ⟨ys⟩) hE
  simp [execOp, h1, h2, h4, binOp, Op.equal, h3]⟩
theorem s_eqa {x y : Operand} {t' : TypeId} {m : Nat} {xs ys : List Value} {fl : List Field} {bs : List Bool} (hE : ES P T fl) (hx : Ev fr x (.agg ⟨xs⟩)) (hy : Ev fr y (.agg ⟨ys⟩)) (he : EqFs P m xs ys fl bs) (hm : (decide (m < 1000)) = true)
    (hp : Dt fr dst (.bool (andL bs)) fr') (h : K fr' ds w) : OW P (Oper.mk dst (.binOp .eql T x y t') ty pos after g) fr ds w K Q := su (u_eqa hE hx hy he hm) hp h
theorem s_nea {x y : Operand} {t' : TypeId} {m : Nat} {xs ys : List Value} {fl : List Field} {bs : List Bool} (hE : ES P T fl) (hx : Ev fr x (.agg ⟨xs⟩)) (hy : Ev fr y (.agg ⟨ys⟩)) (he : EqFs P m xs ys fl bs) (hm : (decide (m < 1000)) = true)
    (hp : Dt fr dst (.bool (!andL bs)) fr') (h : K fr' ds w) : OW P (Oper.mk dst (.binOp .neq T x y t') ty pos after g) fr ds w K Q := su (u_nea hE hx hy he hm) hp h
theorem u_eqb {x y : Operand} {t t' : TypeId} {a b : Bool} (hu : P.underlying t = some .bool) (hx : Ev fr x (.bool a)) (hy : Ev fr y (.bool b)) : PU P (Oper.mk dst (.binOp .eql t x y t') ty pos after g) fr (.bool (a == b)) := ⟨fun ds w => by
  have h1 := hx ds
  have h2 := hy ds
  have h3 := (eq_bool (a := a) (b := b) hu).out Op.maxDepth w (by decide)
  simp [execOp, h1, h2, eqGuard, binOp, Op.equal, h3]⟩
theorem s_eqb {x y : Operand} {t t' : TypeId} {a b : Bool} (hu : P.underlying t = some .bool) (hx : Ev fr x (.bool a)) (hy : Ev fr y (.bool b)) (hp : Dt fr dst (.bool (a == b)) fr') (h : K fr' ds w) : OW P (Oper.mk dst (.binOp .eql t x y t') ty pos after g) fr ds w K Q := su (u_eqb hu hx hy) hp h
theorem u_neb {x y : Operand} {t t' : TypeId} {a b : Bool} (hu : P.underlying t = some .bool) (hx : Ev fr x (.bool a)) (hy : Ev fr y (.bool b)) : PU P (Oper.mk dst (.binOp .neq t x y t') ty pos after g) fr (.bool (!(a == b))) := ⟨fun ds w => by
  have h1 := hx ds
  have h2 := hy ds
  have h3 := (eq_bool (a := a) (b := b) hu).out Op.maxDepth w (by decide)
  simp [execOp, h1, h2, eqGuard, binOp, Op.equal, h3]⟩
theorem s_neb {x y : Operand} {t t' : TypeId} {a b : Bool} (hu : P.underlying t = some .bool) (hx : Ev fr x (.bool a)) (hy : Ev fr y (.bool b)) (hp : Dt fr dst (.bool (!(a == b))) fr') (h : K fr' ds w) : OW P (Oper.mk dst (.binOp .neq t x y t') ty pos after g) fr ds w K Q := su (u_neb hu hx hy) hp h
end
theorem Row.at' {w : World} {T : TypeId} {sz n b o c m : Nat} {xs : List Value} (h : Row w (.slice (some ⟨b, o, none⟩) m c) T sz n xs) : CellsAt w b o xs := by
  rcases h.2 with ⟨h1, -⟩ | ⟨g, o, cap, cur, h1, hg, h2, h3, h4, h5⟩
  · cases h1
  · cases h1
    exact fun j u hj => by
      rw [cell_of_row w b (o + j) cur T (0, 0) hg]
      rw [← h5, List.getElem?_take] at hj
      split at hj
      · rw [List.getElem?_drop] at hj; simpa using hj
      · cases hj
theorem Sep.growNew {S S0 : Nat → Prop} {w0 w w' : World} {rs : List Res} {A B : World → Prop} (h : Sep S S0 w0 w rs A) (hg : Grow w w') (hB : Rob (fun b => w.heap.size ≤ b) w' B) : Sep S S0 w0 w' rs fun w => A w ∧ B w :=
  h.growAdd hg (hB.mono fun _ _ hk => .inr hk)

/- a string that is gone through; conversions -/
section
variable {P : Program} {Q : Exit → Act → World → Prop} {K : List Value → List Deferred → World → Prop} {fr fr' : List Value} {ds : List Deferred} {w : World}
variable {dst : Option Tmp} {ty : TypeId} {pos : String} {after : Array Edge} {g : Option (Nat × Bool)}
variable {S S0 : Nat → Prop} {w0 : World} {rs rs' : List Res} {A : World → Prop}
variable {T : TypeId}
theorem s_range {x : Operand} {l : List UInt8} (hT : P.underlying T = some .string) (hx : Ev fr x (Wk.S l)) (hS : Sep S S0 w0 w rs A)
    (h : ∀ b w', w.heap.size ≤ b → Sep S S0 w0 w' (.itr b ⟨⟨l⟩⟩ 0 :: rs) A → Put fr dst (.pointer (some ⟨b, 0, none⟩)) fun fr' => K fr' ds w') : OW P (Oper.mk dst (.range T x) ty pos after g) fr ds w K Q := by
  obtain ⟨fr', hd⟩ := dt_ex fr dst (.pointer (some ⟨w.heap.size, 0, none⟩))
  refine op_v (v := .pointer (some ⟨w.heap.size, 0, none⟩)) (w' := w.alloc (.stringIter ⟨⟨l⟩⟩ 0)) ?_ hd (h _ _ (Nat.le_refl _) (hS.alloc rfl (heap_alloc_new w _)) fr' hd)
  simp [execOp, hx ds, Wk.S, Instr.range, run_underlying hT]
theorem s_next {x : Operand} {l : List UInt8} {b p k : Nat} (hx : Ev fr x (.pointer (some ⟨b, 0, none⟩))) (hS : Sep S S0 w0 w rs A) (hl : Lk rs k (.itr b ⟨⟨l⟩⟩ p))
    (hy : p < l.length → ∀ w' rs', Pt rs k (.itr b ⟨⟨l⟩⟩ (p + (Utf8.decode ⟨⟨l⟩⟩ p).2)) rs' → Sep S S0 w0 w' rs' A → Put fr dst (.tuple #[.bool true, .int .i64 (p : Nat), .int .i32 (Utf8.decode ⟨⟨l⟩⟩ p).1]) fun fr' => K fr' ds w')
    (hn : ¬ p < l.length → Put fr dst (.tuple #[.bool false]) fun fr' => K fr' ds w) : OW P (Oper.mk dst (.next x true) ty pos after g) fr ds w K Q := by
  have hb : w.heap[b]? = some (.stringIter ⟨⟨l⟩⟩ p) := hS.get hl
  have hlt : b < w.heap.size := (Array.getElem?_eq_some_iff.1 hb).1
  by_cases h : p < l.length
  · have hp : p < (⟨⟨l⟩⟩ : ByteArray).size := h
    let w' : World := { w with heap := w.heap.setIfInBounds b (.stringIter ⟨⟨l⟩⟩ (p + (Utf8.decode ⟨⟨l⟩⟩ p).2)) }
    have hk : Keeps (fun k => k ≠ b) w w' := ⟨rfl, rfl, rfl, by simp [w'], fun j _ hj => by simp [w', Array.getElem?_setIfInBounds, Ne.symm hj]⟩
    obtain ⟨fr', hd⟩ := dt_ex fr dst (.tuple #[.bool true, .int .i64 (p : Nat), .int .i32 (Utf8.decode ⟨⟨l⟩⟩ p).1])
    refine op_v (w' := w') ?_ hd (hy h w' _ rfl (hS.put (b := b) hl rfl rfl rfl (by show w'.heap[b]? = _; simp [w', hlt]) hk) fr' hd)
    simp [execOp, hx ds, Instr.next, getObj, setObj, Sem.run, hb, hp, goInt, Result.andThen, w']
  · have hp : ¬ p < (⟨⟨l⟩⟩ : ByteArray).size := h
    obtain ⟨fr', hd⟩ := dt_ex fr dst (.tuple #[.bool false])
    refine op_v (w' := w) ?_ hd (hn h fr' hd)
    simp [execOp, hx ds, Instr.next, getObj, Sem.run, hb, hp, Result.andThen]
theorem u_cvi {x : Operand} {s d : TypeId} {k k' : IntKind} {u : TypeDesc} {a c : Int} (hs : P.underlying s = some u) (hd : P.underlying d = some (.int k)) (hx : Ev fr x (.int k' a)) (hw : k.wrap a = c) : PU P (Oper.mk dst (.convert s d x) ty pos after g) fr (.int k c) := by
  subst hw
  exact ⟨fun ds w => by simp [execOp, hx ds, convert, run_underlying hs, run_underlying hd, Conv.intToInt]⟩
theorem s_cvi {x : Operand} {s d : TypeId} {k k' : IntKind} {u : TypeDesc} {a c : Int} (hs : P.underlying s = some u) (hd : P.underlying d = some (.int k)) (hx : Ev fr x (.int k' a)) (hw : k.wrap a = c) (hp : Dt fr dst (.int k c) fr') (h : K fr' ds w) : OW P (Oper.mk dst (.convert s d x) ty pos after g) fr ds w K Q := su (u_cvi hs hd hx hw) hp h
theorem s_cvb {x : Operand} {e : TypeId} {b n c k : Nat} {cs : List Value} (hT : P.underlying T = some (.slice e)) (he : P.underlying e = some (.int .u8)) (hx : Ev fr x (.slice (some ⟨b, 0, none⟩) n c)) (hS : Sep S S0 w0 w rs A) (hl : Lk rs k (.blk b e cs))
    (h : ∀ w' rs', Pt rs k (.ro b e cs) rs' → Sep S S0 w0 w' rs' A → Put fr dst (.slice (some ⟨b, 0, none⟩) n c) fun fr' => K fr' ds w') : OW P (Oper.mk dst (.convert T T x) ty pos after g) fr ds w K Q := by
  have hb : w.heap[b]? = some (.cells ⟨cs⟩ e (0, 0)) := hS.get hl
  have hlt : b < w.heap.size := (Array.getElem?_eq_some_iff.1 hb).1
  have hk : Keeps (fun k => k ≠ b) w (w.freeze ⟨b, cs.length, none⟩ 1) := by
    refine ⟨rfl, rfl, rfl, by simp [World.freeze], fun j _ hj => ?_⟩
    simp [World.freeze, Array.getElem?_modify, Ne.symm hj]
  have hr : (Res.ro b e cs).holds (w.freeze ⟨b, cs.length, none⟩ 1) := by
    refine ⟨(cs.length, cs.length + 1), ?_⟩
    simp [World.freeze, Array.getElem?_modify, hb]
  obtain ⟨fr', hd⟩ := dt_ex fr dst (.slice (some ⟨b, 0, none⟩) n c)
  refine op_v (w' := w.freeze ⟨b, cs.length, none⟩ 1) ?_ hd (h _ _ rfl (hS.put (b := b) hl rfl rfl rfl hr hk) fr' hd)
  simp [execOp, hx ds, convert, run_underlying hT, run_underlying he, markStringish, World.shape?, hb, Result.andThen]
theorem Sep.ro {k b : Nat} {cs : List Value} (h : Sep S S0 w0 w rs A) (hl : Lk rs k (.ro b T cs)) : CellsAt w b 0 cs := by
  obtain ⟨z, hz⟩ := h.get hl
  exact fun j v hj => by simp [World.cell?, hz, hj]
end
end Go.Wk
