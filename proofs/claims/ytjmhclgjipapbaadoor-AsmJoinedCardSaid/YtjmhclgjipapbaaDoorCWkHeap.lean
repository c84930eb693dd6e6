/- The calculus, second part: memory. What a walk owns (rows of cells), what it only reads, and the steps that allocate, load, store and append. Over any program. -/
import Derived.Test.YtjmhclgjipapbaaDoorCWkOps
import Derived.Laws.AppendOwn
set_option linter.unusedSectionVars false
set_option linter.unusedVariables false
set_option linter.unusedSimpArgs false
namespace Go.Wk
open Go.RowKit

/-- What was there stays, at the blocks of S; the streams stay. -/
structure Keeps (S : Nat → Prop) (w w' : World) : Prop where
  os : w'.os = w.os
  tape : w'.tape = w.tape
  output : w'.output = w.output
  size : w.heap.size ≤ w'.heap.size
  blk : ∀ k, k < w.heap.size → S k → w'.heap[k]? = w.heap[k]?
/-- Nothing that was there has turned. -/
def Grow (w w' : World) : Prop := Keeps (fun _ => True) w w'
theorem Keeps.refl {S : Nat → Prop} (w : World) : Keeps S w w := ⟨rfl, rfl, rfl, Nat.le_refl _, fun _ _ _ => rfl⟩
theorem Keeps.trans {S : Nat → Prop} {a b c : World} (h : Keeps S a b) (k : Keeps S b c) : Keeps S a c :=
  ⟨k.os.trans h.os, k.tape.trans h.tape, k.output.trans h.output, Nat.le_trans h.size k.size, fun i hi hs => (k.blk i (Nat.lt_of_lt_of_le hi h.size) hs).trans (h.blk i hi hs)⟩
theorem Keeps.mono {S S' : Nat → Prop} {a b : World} (h : Keeps S a b) (hs : ∀ k, S' k → S k) : Keeps S' a b := ⟨h.os, h.tape, h.output, h.size, fun i hi k => h.blk i hi (hs i k)⟩
theorem Grow.refl (w : World) : Grow w w := Keeps.refl w
theorem Grow.trans {a b c : World} (h : Grow a b) (k : Grow b c) : Grow a c := Keeps.trans h k
theorem Grow.keeps {S : Nat → Prop} {a b : World} (h : Grow a b) : Keeps S a b := Keeps.mono h fun _ _ => trivial
theorem Grow.below {a b : World} (h : Grow a b) : Below a.heap.size a b := ⟨h.os, h.tape, h.output, h.size, fun k hk => h.blk k hk trivial⟩
theorem Grow.alloc (w : World) (o : Obj) : Grow w (w.alloc o) := ⟨rfl, rfl, rfl, by simp, fun k hk _ => heap_alloc_old w o k hk⟩

/-- A holds, and goes on holding as long as the blocks of S stay. -/
def Rob (S : Nat → Prop) (w : World) (A : World → Prop) : Prop := ∀ w', w.heap.size ≤ w'.heap.size → (∀ k, k < w.heap.size → S k → w'.heap[k]? = w.heap[k]?) → A w'
theorem Rob.now {S : Nat → Prop} {w : World} {A : World → Prop} (h : Rob S w A) : A w := h w (Nat.le_refl _) fun _ _ _ => rfl
theorem Rob.mono {S S' : Nat → Prop} {w : World} {A : World → Prop} (h : Rob S w A) (hs : ∀ k, k < w.heap.size → S k → S' k) : Rob S' w A := fun w' h1 h2 => h w' h1 fun k hk ks => h2 k hk (hs k hk ks)
theorem Rob.imp {S : Nat → Prop} {w : World} {A B : World → Prop} (h : Rob S w A) (hi : ∀ w', A w' → B w') : Rob S w B := fun w' h1 h2 => hi _ (h w' h1 h2)
theorem Rob.and {S : Nat → Prop} {w : World} {A B : World → Prop} (h : Rob S w A) (k : Rob S w B) : Rob S w fun w' => A w' ∧ B w' := fun w' h1 h2 => ⟨h w' h1 h2, k w' h1 h2⟩
theorem Rob.const {S : Nat → Prop} {w : World} {p : Prop} (h : p) : Rob S w fun _ => p := fun _ _ _ => h
/-- A fact goes on behind what keeps its blocks. -/
theorem Rob.keeps {S : Nat → Prop} {w w' : World} {A : World → Prop} (h : Rob S w A) (k : Keeps S w w') : Rob S w' A :=
  fun w'' h1 h2 => h w'' (Nat.le_trans k.size h1) fun b hb hs => (h2 b (Nat.lt_of_lt_of_le hb k.size) hs).trans (k.blk b hb hs)

/-- What is owned: a row of cells; a slice that is appended to. -/
inductive Res where
  | blk (b : Nat) (T : TypeId) (cs : List Value)
  | row (v : Value) (T : TypeId) (sz n : Nat) (xs : List Value)
  | map (b : Nat) (es : List MapEntry) (clock : Nat)
  | itr (b : Nat) (s : ByteArray) (pos : Nat)
  | ro (b : Nat) (T : TypeId) (cs : List Value)
  | mit (b m since : Nat) (seen : List Nat) (last : Nat)
def Blk (w : World) (b : Nat) (T : TypeId) (cs : List Value) : Prop := w.heap[b]? = some (.cells ⟨cs⟩ T (0, 0))
/-- A slice's value, and its elements' cells: nil, or a row whose first cells they are. -/
def Row (w : World) (v : Value) (T : TypeId) (sz n : Nat) (xs : List Value) : Prop :=
  xs.length = n * sz ∧ ((v = .slice none 0 0 ∧ n = 0) ∨ ∃ g o cap cur, v = .slice (some ⟨g, o, none⟩) n cap ∧ w.heap[g]? = some (.cells cur T (0, 0)) ∧ n ≤ cap ∧ cap ≤ maxLen ∧ o + cap * sz ≤ cur.size ∧ (cur.toList.drop o).take (n * sz) = xs)
def Res.block : Res → Option Nat
  | .blk b _ _ => some b
  | .row v _ _ _ _ => v.ownBlock
  | .map b _ _ => some b
  | .itr b _ _ => some b
  | .ro b _ _ => some b
  | .mit b _ _ _ _ => some b
def Res.holds (w : World) : Res → Prop
  | .blk b T cs => Blk w b T cs
  | .row v T sz n xs => Row w v T sz n xs
  | .map b es clock => w.heap[b]? = some (.map ⟨es⟩ clock)
  | .itr b s pos => w.heap[b]? = some (.stringIter s pos)
  | .ro b T cs => ∃ z, w.heap[b]? = some (.cells ⟨cs⟩ T z)
  | .mit b m since seen last => w.heap[b]? = some (.mapIter (some m) since ⟨seen⟩ last)
/-- The blocks of what is owned. -/
def blocks (rs : List Res) : List Nat := rs.filterMap Res.block
/-- How a walk stands: since the world w0 the blocks of S stayed; rs is owned, block by block; A holds, of blocks that were in S0, or are new, and are not owned. -/
structure Sep (S S0 : Nat → Prop) (w0 w : World) (rs : List Res) (A : World → Prop) : Prop where
  keeps : Keeps S w0 w
  all : ∀ r ∈ rs, r.holds w
  dis : (blocks rs).Nodup
  new : ∀ b ∈ blocks rs, w0.heap.size ≤ b ∨ ¬ S b
  imm : Rob (fun b => (S0 b ∨ w0.heap.size ≤ b) ∧ b ∉ blocks rs) w A

theorem holds_block {w : World} {r : Res} (h : r.holds w) {b : Nat} (hb : r.block = some b) : b < w.heap.size := by
  cases r with
  | blk b' T cs => simp [Res.block] at hb; subst hb; exact (Array.getElem?_eq_some_iff.1 h).1
  | map b' es cl => simp [Res.block] at hb; subst hb; exact (Array.getElem?_eq_some_iff.1 h).1
  | itr b' s p => simp [Res.block] at hb; subst hb; exact (Array.getElem?_eq_some_iff.1 h).1
  | mit b' m s e l => simp [Res.block] at hb; subst hb; exact (Array.getElem?_eq_some_iff.1 h).1
  | ro b' T cs => obtain ⟨z, h⟩ := h; simp [Res.block] at hb; subst hb; exact (Array.getElem?_eq_some_iff.1 h).1
  | row v T sz n xs =>
    rcases h.2 with ⟨rfl, _⟩ | ⟨g, o, cap, cur, rfl, hg, _⟩
    · simp [Res.block, Value.ownBlock] at hb
    · simp [Res.block, Value.ownBlock] at hb; subst hb; exact (Array.getElem?_eq_some_iff.1 hg).1
theorem holds_of {w w' : World} {r : Res} (h : r.holds w) (hk : ∀ b, r.block = some b → w'.heap[b]? = w.heap[b]?) : r.holds w' := by
  cases r with
  | blk b' T cs => exact (hk b' rfl).trans h
  | map b' es cl => exact (hk b' rfl).trans h
  | itr b' s p => exact (hk b' rfl).trans h
  | mit b' m s e l => exact (hk b' rfl).trans h
  | ro b' T cs => obtain ⟨z, h⟩ := h; exact ⟨z, (hk b' rfl).trans h⟩
  | row v T sz n xs =>
    refine ⟨h.1, ?_⟩
    rcases h.2 with h | ⟨g, o, cap, cur, rfl, hg, h⟩
    · exact .inl h
    · exact .inr ⟨g, o, cap, cur, rfl, by rw [hk g rfl]; exact hg, h⟩

section
variable {S S0 : Nat → Prop} {w0 w w' : World} {rs rs' : List Res} {A B : World → Prop}
theorem Sep.a (h : Sep S S0 w0 w rs A) : A w := h.imm.now
theorem Sep.start (w : World) (S S0 : Nat → Prop) (hA : Rob S0 w A) : Sep S S0 w w [] A :=
  ⟨.refl w, by simp, by simp [blocks], by simp [blocks], hA.mono fun k _ hs => ⟨.inl hs, by simp [blocks]⟩⟩
theorem mem_blocks {r : Res} {b : Nat} (hr : r ∈ rs) (hb : r.block = some b) : b ∈ blocks rs := List.mem_filterMap.2 ⟨r, hr, hb⟩
theorem Sep.lt (h : Sep S S0 w0 w rs A) {b : Nat} (hb : b ∈ blocks rs) : b < w.heap.size := by
  obtain ⟨r, hr, hb⟩ := List.mem_filterMap.1 hb
  exact holds_block (h.all r hr) hb
/-- What grows, and turns nothing. -/
theorem Sep.grow (h : Sep S S0 w0 w rs A) (hg : Grow w w') : Sep S S0 w0 w' rs A where
  keeps := h.keeps.trans hg.keeps
  all r hr := holds_of (h.all r hr) fun b hb => hg.blk b (h.lt (mem_blocks hr hb)) trivial
  dis := h.dis
  new := h.new
  imm := h.imm.keeps hg.keeps
/-- A fact more, of new memory, or of what the facts speak of. -/
theorem Sep.growAdd (h : Sep S S0 w0 w rs A) (hg : Grow w w') (hB : Rob (fun b => ((S0 b ∨ w0.heap.size ≤ b) ∧ b ∉ blocks rs) ∨ w.heap.size ≤ b) w' B) : Sep S S0 w0 w' rs fun w => A w ∧ B w where
  keeps := (h.grow hg).keeps
  all := (h.grow hg).all
  dis := h.dis
  new := h.new
  imm := (h.grow hg).imm.and (hB.mono fun k hk hs => by
    rcases hs with hs | hs
    · exact hs
    · exact ⟨.inr (Nat.le_trans h.keeps.size hs), fun hm => by have := h.lt hm; omega⟩)
theorem Sep.add (h : Sep S S0 w0 w rs A) (hB : Rob (fun b => ((S0 b ∨ w0.heap.size ≤ b) ∧ b ∉ blocks rs) ∨ w.heap.size ≤ b) w B) : Sep S S0 w0 w rs fun w => A w ∧ B w := h.growAdd (.refl w) hB
theorem Sep.conv (h : Sep S S0 w0 w rs A) (hi : ∀ w, A w → B w) : Sep S S0 w0 w rs B := ⟨h.keeps, h.all, h.dis, h.new, h.imm.imp hi⟩
/-- A new block, that is owned. -/
theorem Sep.alloc (h : Sep S S0 w0 w rs A) {o : Obj} {r : Res} (hr : r.block = some w.heap.size) (ho : r.holds (w.alloc o)) : Sep S S0 w0 (w.alloc o) (r :: rs) A where
  keeps := h.keeps.trans (Grow.alloc w o).keeps
  all r' hr' := by
    rcases List.mem_cons.1 hr' with rfl | hr'
    · exact ho
    · exact (h.grow (Grow.alloc w o)).all r' hr'
  dis := by
    simp only [blocks, List.filterMap_cons, hr, List.nodup_cons]
    exact ⟨fun hm => Nat.lt_irrefl _ (h.lt hm), h.dis⟩
  new b hb := by
    simp only [blocks, List.filterMap_cons, hr, List.mem_cons] at hb
    rcases hb with rfl | hb
    · exact .inl h.keeps.size
    · exact h.new b hb
  imm := fun w' h1 h2 => h.imm w' (by simp at h1; omega) fun k hk hs => by
    have := h2 k (by simp; omega) ⟨hs.1, by
      simp only [blocks, List.filterMap_cons, hr, List.mem_cons, not_or]
      exact ⟨by omega, hs.2⟩⟩
    rw [this]
    exact heap_alloc_old w o k hk
theorem lk_mem {r : Res} {n : Nat} (hl : Lk rs n r) : r ∈ rs := List.mem_of_getElem? hl
theorem Sep.get (h : Sep S S0 w0 w rs A) {n : Nat} {r : Res} (hl : Lk rs n r) : r.holds w := h.all r (lk_mem hl)
theorem blocks_set {n : Nat} {r r' : Res} (hl : Lk rs n r) (hb : r'.block = r.block) : blocks (rs.set n r') = blocks rs := by
  unfold Lk at hl
  unfold blocks
  induction rs generalizing n with
  | nil => rfl
  | cons a rs ih =>
    cases n with
    | zero => simp at hl; subst hl; simp [List.filterMap_cons, hb]
    | succ n => simp at hl; simp only [List.set_cons_succ, List.filterMap_cons, ih hl]
theorem other_block {n m : Nat} {r r2 : Res} (hd : (blocks rs).Nodup) (hl : Lk rs n r) (hm : Lk rs m r2) (hne : n ≠ m) {b : Nat} (hb : r.block = some b) : r2.block ≠ some b := by
  unfold Lk at hl hm
  unfold blocks at hd
  induction rs generalizing n m with
  | nil => simp at hl
  | cons a rs ih =>
    have hd' : (List.filterMap Res.block rs).Nodup := by
      cases ha : a.block with
      | none => simpa [List.filterMap_cons, ha] using hd
      | some c => simp only [List.filterMap_cons, ha, List.nodup_cons] at hd; exact hd.2
    cases n with
    | zero =>
      cases m with
      | zero => exact absurd rfl hne
      | succ m =>
        simp at hl hm; subst hl
        intro e
        simp only [List.filterMap_cons, hb, List.nodup_cons] at hd
        exact hd.1 (List.mem_filterMap.2 ⟨r2, List.mem_of_getElem? hm, e⟩)
    | succ n =>
      cases m with
      | zero =>
        simp at hl hm; subst hm
        intro e
        simp only [List.filterMap_cons, e, List.nodup_cons] at hd
        exact hd.1 (List.mem_filterMap.2 ⟨r, List.mem_of_getElem? hl, hb⟩)
      | succ m => simp at hl hm; exact ih hd' hl hm (by omega)
/-- A write to what is owned at place n. -/
theorem Sep.put (h : Sep S S0 w0 w rs A) {n : Nat} {r r' : Res} {b : Nat} (hl : Lk rs n r) (hb : r.block = some b) (hb' : r'.block = some b) (hp : Pt rs n r' rs')
    (hr : r'.holds w') (hk : Keeps (fun k => k ≠ b) w w') : Sep S S0 w0 w' rs' A := by
  unfold Pt at hp
  subst hp
  have hbm := mem_blocks (lk_mem hl) hb
  have hbs := blocks_set (r' := r') hl (hb'.trans hb.symm)
  refine ⟨?_, ?_, ?_, ?_, ?_⟩
  · refine ⟨hk.os.trans h.keeps.os, hk.tape.trans h.keeps.tape, hk.output.trans h.keeps.output, Nat.le_trans h.keeps.size hk.size, fun k hkk hs => ?_⟩
    rw [hk.blk k (Nat.lt_of_lt_of_le hkk h.keeps.size) (fun e => by subst e; rcases h.new k hbm with h | h; exact absurd hkk (by omega); exact h hs)]
    exact h.keeps.blk k hkk hs
  · intro r2 hr2
    obtain ⟨m, hm⟩ := List.mem_iff_getElem?.1 hr2
    by_cases e : n = m
    · subst e
      have hlt : n < rs.length := (List.getElem?_eq_some_iff.1 hl).1
      rw [List.getElem?_set_self hlt] at hm
      cases hm
      exact hr
    · rw [List.getElem?_set_ne e] at hm
      refine holds_of (h.all r2 (List.mem_of_getElem? hm)) fun c hc => hk.blk c (h.lt (mem_blocks (List.mem_of_getElem? hm) hc)) fun e2 => ?_
      subst e2
      exact other_block h.dis hl hm e hb hc
  · rw [hbs]; exact h.dis
  · rw [hbs]; exact h.new
  · rw [hbs]
    exact h.imm.keeps (hk.mono fun k hs e => hs.2 (by subst e; exact hbm))
end

/- types -/
def aggD : TypeDesc → Bool
  | .struct _ | .array _ _ => true
  | _ => false
/-- A type: what it is, its zero cells, how many cells and bytes. -/
structure TI (P : Program) (T : TypeId) (ag : Bool) (zc : List Value) (n m : Nat) : Prop where
  und : ∃ d, P.underlying T = some d ∧ aggD d = ag
  inf : ∃ i z, P.info? T = some i ∧ i.zero = some z ∧ z.cells = ⟨zc⟩ ∧ i.size = n ∧ i.bytes = m
theorem ti_of {P : Program} {T : TypeId} {d : TypeDesc} {ag : Bool} {z : Value} {zc : List Value} {n m : Nat} (hu : P.underlying T = some d) (ha : aggD d = ag) (h : (P.info? T).map (fun i => (i.zero, i.size, i.bytes)) = some (some z, n, m)) (hz : z.cells = ⟨zc⟩) : TI P T ag zc n m := by
  refine ⟨⟨d, hu, ha⟩, ?_⟩
  cases hi : P.info? T with
  | none => rw [hi] at h; cases h
  | some i =>
    rw [hi] at h
    simp only [Option.map_some, Option.some.injEq, Prod.mk.injEq] at h
    exact ⟨i, z, rfl, h.1, hz, h.2.1, h.2.2⟩
/-- A value of one cell. -/
def cellV : Value → Bool
  | .agg _ | .tuple _ => false
  | _ => true

section
variable {P : Program} {Q : Exit → Act → World → Prop} {K : List Value → List Deferred → World → Prop} {fr fr' : List Value} {ds : List Deferred} {w : World}
variable {dst : Option Tmp} {ty : TypeId} {pos : String} {after : Array Edge} {g : Option (Nat × Bool)}
variable {S S0 : Nat → Prop} {w0 : World} {rs rs' : List Res} {A : World → Prop}
variable {T : TypeId} {d : TypeDesc} {ag : Bool} {zc : List Value} {n m : Nat}

theorem run_isAgg (h : P.underlying T = some d) : (isAgg T).run P w = .ok (aggD d) w := by
  unfold isAgg
  simp only [Sem.run_bind, run_underlying h, Result.andThen_ok]
  cases d <;> rfl
theorem TI.isAgg (h : TI P T ag zc n m) : (Go.isAgg T).run P w = .ok ag w := by
  obtain ⟨d, hd, rfl⟩ := h.und
  exact run_isAgg hd
theorem TI.sizeOf (h : TI P T ag zc n m) : (Go.sizeOf T).run P w = .ok n w := by
  obtain ⟨i, z, hi, hz, hc, hn, hm⟩ := h.inf
  simp [Go.sizeOf, typeInfo, hi, hn]
theorem TI.zero (h : TI P T ag zc n m) : ∃ z, (zeroValue T).run P w = .ok z w ∧ z.cells = ⟨zc⟩ := by
  obtain ⟨i, z, hi, hz, hc, hn, hm⟩ := h.inf
  exact ⟨z, by simp [zeroValue, typeInfo, hi, hz], hc⟩

/-- The cells at an address. -/
def CellsAt (w : World) (b o : Nat) (cs : List Value) : Prop := ∀ j v, cs[j]? = some v → w.cell? ⟨b, o + j, none⟩ = some v
theorem add_addr (b o j : Nat) : (⟨b, o, none⟩ : Addr).add j = ⟨b, o + j, none⟩ := by
  unfold Addr.add
  split
  · rename_i h; subst h; rfl
  · rfl
theorem Blk.cell {b : Nat} {cs : List Value} {j : Nat} {v : Value} (h : Blk w b T cs) (hl : Lk cs j v) : w.cell? ⟨b, j, none⟩ = some v := by
  unfold Lk at hl
  unfold Blk at h
  simp [World.cell?, h, hl]
theorem Blk.cells {b : Nat} {cs : List Value} (h : Blk w b T cs) : CellsAt w b 0 cs := fun j v hl => by
  rw [Nat.zero_add]; exact h.cell hl
theorem CellsAt.one {b o : Nat} {cs : List Value} {j : Nat} {v : Value} (h : CellsAt w b o cs) (hl : Lk cs j v) : w.cell? ⟨b, o + j, none⟩ = some v := h j v hl

theorem s_alloc (hT : TI P T ag zc n m) (hS : Sep S S0 w0 w rs A)
    (h : ∀ b w', w.heap.size ≤ b → Sep S S0 w0 w' (.blk b T zc :: rs) A → Put fr dst (.pointer (some ⟨b, 0, none⟩)) fun fr' => K fr' ds w') : OW P (Oper.mk dst (.alloc T) ty pos after g) fr ds w K Q := by
  obtain ⟨z, hz, hc⟩ := hT.zero (w := w)
  obtain ⟨fr', hd⟩ := dt_ex fr dst (.pointer (some ⟨w.heap.size, 0, none⟩))
  refine op_v (v := .pointer (some ⟨w.heap.size, 0, none⟩)) (w' := w.alloc (.cells ⟨zc⟩ T)) ?_ hd (h _ _ (Nat.le_refl _) (hS.alloc rfl (heap_alloc_new w _)) fr' hd)
  simp [execOp, Instr.alloc, hz, newVar, newRow, hc]
theorem s_box {x : Operand} {v : Value} {cs : List Value} (hx : Ev fr x v) (hc : v.cells = ⟨cs⟩) (hS : Sep S S0 w0 w rs A)
    (h : ∀ b w', w.heap.size ≤ b → Sep S S0 w0 w' (.blk b T cs :: rs) A → Put fr dst (.pointer (some ⟨b, 0, none⟩)) fun fr' => K fr' ds w') : OW P (Oper.mk dst (.box T x) ty pos after g) fr ds w K Q := by
  obtain ⟨fr', hd⟩ := dt_ex fr dst (.pointer (some ⟨w.heap.size, 0, none⟩))
  refine op_v (v := .pointer (some ⟨w.heap.size, 0, none⟩)) (w' := w.alloc (.cells ⟨cs⟩ T)) ?_ hd (h _ _ (Nat.le_refl _) (hS.alloc rfl (heap_alloc_new w _)) fr' hd)
  simp [execOp, Instr.box, hx ds, newVar, newRow, hc]
/-- An operation that looks at this world alone. -/
structure LU (P : Program) (o : Oper) (fr : List Value) (w : World) (v : Value) : Prop where
  out : ∀ ds, (execOp (F fr ds).eval o).run P w = .ok (.value v) w
theorem sl {o : Oper} {v : Value} (hu : LU P o fr w v) (hp : Dt fr o.dst v fr') (h : K fr' ds w) : OW P o fr ds w K Q := op_v (hu.out ds) hp h
theorem u_load {x : Operand} {b o : Nat} {v : Value} (hT : TI P T false zc n m) (hx : Ev fr x (.pointer (some ⟨b, o, none⟩))) (hc : w.cell? ⟨b, o, none⟩ = some v) : LU P (Oper.mk dst (.load T x) ty pos after g) fr w v :=
  ⟨fun ds => by simp [execOp, Instr.loadAt, hx ds, Instr.sureAddr, loadVar, hT.isAgg, hc]⟩
theorem s_load {x : Operand} {b o : Nat} {v : Value} (hT : TI P T false zc n m) (hx : Ev fr x (.pointer (some ⟨b, o, none⟩))) (hc : w.cell? ⟨b, o, none⟩ = some v)
    (hp : Dt fr dst v fr') (h : K fr' ds w) : OW P (Oper.mk dst (.load T x) ty pos after g) fr ds w K Q := sl (u_load hT hx hc) hp h
theorem u_loads {x : Operand} {b o : Nat} {cs : List Value} (hT : TI P T true zc n m) (hx : Ev fr x (.pointer (some ⟨b, o, none⟩))) (hc : CellsAt w b o cs) (hn : cs.length = n) : LU P (Oper.mk dst (.load T x) ty pos after g) fr w (.agg ⟨cs⟩) := ⟨fun ds => by
  have hl := run_loadCells_list (P := P) w ⟨b, o, none⟩ cs (fun j v hj => by rw [add_addr]; exact hc j v hj)
  rw [hn] at hl
  simp [execOp, Instr.loadAt, hx ds, Instr.sureAddr, loadVar, hT.isAgg, hT.sizeOf, hl]⟩
theorem s_loads {x : Operand} {b o : Nat} {cs : List Value} (hT : TI P T true zc n m) (hx : Ev fr x (.pointer (some ⟨b, o, none⟩))) (hc : CellsAt w b o cs) (hn : cs.length = n)
    (hp : Dt fr dst (.agg ⟨cs⟩) fr') (h : K fr' ds w) : OW P (Oper.mk dst (.load T x) ty pos after g) fr ds w K Q := sl (u_loads hT hx hc hn) hp h
/-- A row of values in a row of cells. -/
inductive Spl : List Value → Nat → List Value → List Value → Prop where
  | z {cs : List Value} {o : Nat} : Spl cs o [] cs
  | s {cs cs1 cs' : List Value} {o : Nat} {v : Value} {vs : List Value} (h : Pt cs o v cs1) (hl : o < cs.length) (k : Spl cs1 (o + 1) vs cs') : Spl cs o (v :: vs) cs'
theorem Spl.eq {cs : List Value} {o : Nat} {vs cs' : List Value} (h : Spl cs o vs cs') : o + vs.length ≤ cs.length ∨ vs = [] := by
  induction h with
  | z => exact .inr rfl
  | @s cs cs1 cs' o v vs h hl k ih =>
    left
    unfold Pt at h
    subst h
    rcases ih with ih | rfl
    · simp at ih ⊢; omega
    · simp; omega
theorem Spl.res {cs : List Value} {o : Nat} {vs cs' : List Value} (h : Spl cs o vs cs') (hl : o ≤ cs.length) : cs' = cs.take o ++ vs ++ cs.drop (o + vs.length) := by
  induction h with
  | z => simp
  | @s cs cs1 cs' o v vs h hlt k ih =>
    unfold Pt at h
    subst h
    rw [ih (by simp; omega)]
    have e1 : (cs.set o v).take (o + 1) = cs.take o ++ [v] := by
      rw [List.take_set, List.take_add_one, List.getElem?_eq_getElem hlt]
      rw [List.set_append_right _ _ (by simp; omega)]
      simp [Nat.min_eq_left (Nat.le_of_lt hlt)]
    rw [e1]
    have e2 : (cs.set o v).drop (o + 1 + vs.length) = cs.drop (o + (v :: vs).length) := by
      rw [List.drop_set_of_lt (by omega)]
      congr 1
      simp; omega
    rw [e2]
    simp
theorem cell_one {v : Value} (h : cellV v = true) : v.oneCell' = true := by cases v <;> first | rfl | simp [cellV] at h
theorem run_stores {b : Nat} {cs : List Value} (hb : Blk w b T cs) {o : Nat} {vs cs' : List Value} (hs : Spl cs o vs cs') (ho : o ≤ cs.length) (h1 : vs.all cellV = true) :
    ∃ w', (storeCells ⟨b, o, none⟩ vs).run P w = .ok () w' ∧ Blk w' b T cs' ∧ Keeps (fun k => k ≠ b) w w' := by
  have hle : o + 0 + vs.length ≤ (⟨cs⟩ : Array Value).size := by
    rcases hs.eq with h | rfl
    · simpa using h
    · simpa using ho
  refine ⟨_, run_storeCells_at P b o T vs 0 ⟨cs⟩ w hb hle fun v hv => cell_one (List.all_eq_true.1 h1 v hv), ?_, ?_⟩
  · rw [hs.res ho]
    exact setRow_heap w b ⟨cs⟩ _ T (0, 0) hb
  · exact ⟨rfl, rfl, rfl, by simp [World.setRow], fun k hk hs => setRow_other w b k _ hs⟩
/-- A store into a row of cells that is owned. -/
theorem s_store {x y : Operand} {b o k : Nat} {v : Value} {cs cs' vs : List Value} (hT : TI P T ag zc n m) (hx : Ev fr x (.pointer (some ⟨b, o, none⟩))) (hy : Ev fr y v) (hv : v.cells = ⟨vs⟩) (hn : vs.length = n) (hvc : vs.all cellV = true)
    (hS : Sep S S0 w0 w rs A) {T' : TypeId} (hl : Lk rs k (.blk b T' cs)) (hs : Spl cs o vs cs') (ho : (decide (o ≤ cs.length)) = true) (hp : Pt rs k (.blk b T' cs') rs')
    (hd : Dt fr dst undef fr') (h : ∀ w', Sep S S0 w0 w' rs' A → K fr' ds w') : OW P (Oper.mk dst (.store T x y) ty pos after g) fr ds w K Q := by
  obtain ⟨w', hr, hb, hk⟩ := run_stores (P := P) (hS.get hl) hs (of_decide_eq_true ho) hvc
  refine op_u (w' := w') ?_ hd (h w' (hS.put hl rfl rfl hp hb hk))
  have e1 : v.cells.toList = vs := by rw [hv]
  have e2 : ¬ (v.cells.size ≠ n) := by rw [hv]; simpa using hn
  have hT1 := hT.sizeOf (w := w)
  simp only [execOp, Instr.storeAt, hx ds, hy ds, Instr.sureAddr, storeVar, Sem.run_bind, hT1, Result.andThen_ok, if_neg e2, e1, hr, Sem.run_pure]

/-- The address of a struct's field. -/
structure FA (P : Program) (T : TypeId) (i off : Nat) : Prop where
  out : ∀ b o w, (Instr.fieldAt T (.pointer (some ⟨b, o, none⟩)) i).run P w = .ok (.pointer (some ⟨b, o + off, none⟩)) w
theorem fa_of {fs : Array Field} {i off : Nat} {f : Field} {T' : TypeId} {zc' : List Value} {n' m' : Nat} {ag' : Bool} (hT : P.underlying T = some (.struct fs)) (hf : fs[i]? = some f) (ho : f.offset = off) (ht : f.type = T') (hF : TI P T' ag' zc' n' m') (h0 : (n' == 0) = false) : FA P T i off := by
  constructor
  intro b o w
  have hn : ¬ n' = 0 := by simpa using h0
  simp [Instr.fieldAt, run_underlying hT, hf, Instr.sureAddr, fieldPlace, ht, hF.sizeOf, hn, add_addr, ho]
theorem u_fa {x : Operand} {b o i off o' : Nat} (hF : FA P T i off) (hx : Ev fr x (.pointer (some ⟨b, o, none⟩))) (ho : o + off = o') : PU P (Oper.mk dst (.fieldAddr T x i) ty pos after g) fr ((.pointer (some ⟨b, o', none⟩))) := by
  subst ho
  exact ⟨fun ds w => by simp [execOp, hx ds, hF.out]⟩
theorem s_fa {x : Operand} {b o i off o' : Nat} (hF : FA P T i off) (hx : Ev fr x (.pointer (some ⟨b, o, none⟩))) (ho : o + off = o') (hp : Dt fr dst ((.pointer (some ⟨b, o', none⟩))) fr') (h : K fr' ds w) : OW P (Oper.mk dst (.fieldAddr T x i) ty pos after g) fr ds w K Q := su (u_fa hF hx ho) hp h
/-- A field of a struct's value. -/
theorem u_field {x : Operand} {i off : Nat} {cs : List Value} {v : Value} {fs : Array Field} {f : Field} {T' : TypeId} {zc' : List Value} {n' m' : Nat} (hT : P.underlying T = some (.struct fs)) (hf : fs[i]? = some f) (ho : f.offset = off) (ht : f.type = T') (hF : TI P T' false zc' n' m')
    (hx : Ev fr x (.agg ⟨cs⟩)) (hl : Lk cs off v) : PU P (Oper.mk dst (.field T x i) ty pos after g) fr (v) := by
  subst ho ht
  unfold Lk at hl
  refine ⟨fun ds w => ?_⟩
  simp [execOp, hx ds, Instr.field, run_underlying hT, hf, asAgg, part, hF.isAgg, hl]
theorem s_field {x : Operand} {i off : Nat} {cs : List Value} {v : Value} {fs : Array Field} {f : Field} {T' : TypeId} {zc' : List Value} {n' m' : Nat} (hT : P.underlying T = some (.struct fs)) (hf : fs[i]? = some f) (ho : f.offset = off) (ht : f.type = T') (hF : TI P T' false zc' n' m')
    (hx : Ev fr x (.agg ⟨cs⟩)) (hl : Lk cs off v) (hp : Dt fr dst (v) fr') (h : K fr' ds w) : OW P (Oper.mk dst (.field T x i) ty pos after g) fr ds w K Q := su (u_field hT hf ho ht hF hx hl) hp h
theorem u_fieldn {x : Operand} {i off : Nat} {cs vs : List Value} {fs : Array Field} {f : Field} {T' : TypeId} {zc' : List Value} {n' m' : Nat} (hT : P.underlying T = some (.struct fs)) (hf : fs[i]? = some f) (ho : f.offset = off) (ht : f.type = T') (hF : TI P T' true zc' n' m')
    (hx : Ev fr x (.agg ⟨cs⟩)) (hl : (cs.drop off).take n' = vs) : PU P (Oper.mk dst (.field T x i) ty pos after g) fr ((.agg ⟨vs⟩)) := by
  subst ho ht hl
  refine ⟨fun ds w => ?_⟩
  simp [execOp, hx ds, Instr.field, run_underlying hT, hf, asAgg, part, hF.isAgg, hF.sizeOf]
theorem s_fieldn {x : Operand} {i off : Nat} {cs vs : List Value} {fs : Array Field} {f : Field} {T' : TypeId} {zc' : List Value} {n' m' : Nat} (hT : P.underlying T = some (.struct fs)) (hf : fs[i]? = some f) (ho : f.offset = off) (ht : f.type = T') (hF : TI P T' true zc' n' m')
    (hx : Ev fr x (.agg ⟨cs⟩)) (hl : (cs.drop off).take n' = vs) (hp : Dt fr dst ((.agg ⟨vs⟩)) fr') (h : K fr' ds w) : OW P (Oper.mk dst (.field T x i) ty pos after g) fr ds w K Q := su (u_fieldn hT hf ho ht hF hx hl) hp h
/-- The address of a slice's element. -/
theorem u_ia {x y : Operand} {b o len cap : Nat} {k : IntKind} {i : Int} {e : TypeId} {o' : Nat} (hT : P.underlying T = some (.slice e)) (hE : TI P e ag zc n m) (hx : Ev fr x (.slice (some ⟨b, o, none⟩) len cap)) (hy : Ev fr y (.int k i)) (hi : 0 ≤ i ∧ i < len) (ho : o + i.toNat * n = o') : PU P (Oper.mk dst (.indexAddr T x y) ty pos after g) fr ((.pointer (some ⟨b, o', none⟩))) := by
  subst ho
  refine ⟨fun ds w => ?_⟩
  simp [execOp, hx ds, hy ds, Instr.indexAt, asIntOf, run_underlying hT, hi, hE.sizeOf, add_addr]
theorem s_ia {x y : Operand} {b o len cap : Nat} {k : IntKind} {i : Int} {e : TypeId} {o' : Nat} (hT : P.underlying T = some (.slice e)) (hE : TI P e ag zc n m) (hx : Ev fr x (.slice (some ⟨b, o, none⟩) len cap)) (hy : Ev fr y (.int k i)) (hi : 0 ≤ i ∧ i < len) (ho : o + i.toNat * n = o') (hp : Dt fr dst ((.pointer (some ⟨b, o', none⟩))) fr') (h : K fr' ds w) : OW P (Oper.mk dst (.indexAddr T x y) ty pos after g) fr ds w K Q := su (u_ia hT hE hx hy hi ho) hp h
theorem u_nilck {x : Operand} {a : Addr} (hx : Ev fr x (.pointer (some a))) : PU P (Oper.mk dst (.nilCheck x) ty pos after g) fr ((.pointer (some a))) := ⟨fun ds w => by simp [execOp, hx ds]⟩
theorem s_nilck {x : Operand} {a : Addr} (hx : Ev fr x (.pointer (some a))) (hp : Dt fr dst ((.pointer (some a))) fr') (h : K fr' ds w) : OW P (Oper.mk dst (.nilCheck x) ty pos after g) fr ds w K Q := su (u_nilck hx) hp h
end
end Go.Wk
