/- The calculus, third part: slices, structs, results. -/
import Derived.Test.YtjmhclgjipapbaaDoorCWkHeap
set_option linter.unusedSectionVars false
set_option linter.unusedVariables false
set_option linter.unusedSimpArgs false
namespace Go.Wk
open Go.RowKit

/- slices that are made, appended to; structs that are built; results -/
section
variable {P : Program} {Q : Exit → Act → World → Prop} {K : List Value → List Deferred → World → Prop} {fr fr' : List Value} {ds : List Deferred} {w : World}
variable {dst : Option Tmp} {ty : TypeId} {pos : String} {after : Array Edge} {g : Option (Nat × Bool)}
variable {S S0 : Nat → Prop} {w0 : World} {rs rs' : List Res} {A : World → Prop}
variable {T : TypeId} {d : TypeDesc} {ag : Bool} {zc : List Value} {n m : Nat}

/-- What is owned at place k is forgotten. -/
inductive Rm : List Res → Nat → List Res → Prop where
  | z {r : Res} {rs : List Res} : Rm (r :: rs) 0 rs
  | s {r : Res} {rs rs' : List Res} {k : Nat} (h : Rm rs k rs') : Rm (r :: rs) (k + 1) (r :: rs')
theorem Rm.mem {k : Nat} (h : Rm rs k rs') : ∀ r ∈ rs', r ∈ rs := by
  induction h with
  | z => intro r hr; exact List.mem_cons_of_mem _ hr
  | s _ ih => intro r hr; rcases List.mem_cons.1 hr with rfl | hr; exact List.mem_cons_self; exact List.mem_cons_of_mem _ (ih r hr)
theorem Rm.sub {k : Nat} (h : Rm rs k rs') : rs'.Sublist rs := by
  induction h with
  | z => exact List.sublist_cons_self _ _
  | s _ ih => exact ih.cons_cons _
theorem Sep.drop {k : Nat} (h : Sep S S0 w0 w rs A) (hr : Rm rs k rs') : Sep S S0 w0 w rs' A where
  keeps := h.keeps
  all r hr' := h.all r (hr.mem r hr')
  dis := (hr.sub.filterMap _).nodup h.dis
  new b hb := h.new b ((hr.sub.filterMap _).subset hb)
  imm := h.imm.mono fun _ _ hs => ⟨hs.1, fun hm => hs.2 ((hr.sub.filterMap _).subset hm)⟩
/-- What is owned at place k is a fact from now on. -/
theorem Sep.freeze {k : Nat} {r : Res} {B : World → Prop} (h : Sep S S0 w0 w rs A) (hl : Lk rs k r) (hr : Rm rs k rs') (hnew : ∀ b, r.block = some b → S0 b ∨ w0.heap.size ≤ b) (hB : ∀ w, r.holds w → B w) :
    Sep S S0 w0 w rs' fun w => A w ∧ B w where
  keeps := (h.drop hr).keeps
  all := (h.drop hr).all
  dis := (h.drop hr).dis
  new := (h.drop hr).new
  imm := (h.drop hr).imm.and fun w' h1 h2 => hB w' (holds_of (h.get hl) fun b hb => h2 b (h.lt (mem_blocks (lk_mem hl) hb)) ⟨hnew b hb, by
    intro hm
    have : blocks rs' = (blocks rs).erase b ∨ True := .inr trivial
    clear this
    have hd := h.dis
    clear hB hnew h1 h2 h
    unfold blocks at hm hd
    unfold Lk at hl
    induction hr with
    | z => simp at hl; subst hl; simp only [List.filterMap_cons, hb, List.nodup_cons] at hd; exact hd.1 hm
    | @s r' rs rs' k hr ih =>
      simp at hl
      cases hc : r'.block with
      | none => simp only [List.filterMap_cons, hc] at hm hd; exact ih hl hm hd
      | some c =>
        simp only [List.filterMap_cons, hc, List.nodup_cons, List.mem_cons] at hm hd
        rcases hm with rfl | hm
        · exact hd.1 (List.mem_filterMap.2 ⟨r, List.mem_of_getElem? hl, hb⟩)
        · exact ih hl hm hd.2⟩)

/-- The parts of a slice that is written out, each of one cell. -/
inductive Parts (fr : List Value) : Nat → List (Nat × Operand) → List Value → Prop where
  | z {i : Nat} : Parts fr i [] []
  | s {i : Nat} {x : Operand} {v : Value} {xs : List (Nat × Operand)} {vs : List Value} (h : Ev fr x v) (hc : cellV v = true) (t : Parts fr (i + 1) xs vs) : Parts fr i ((i, x) :: xs) (v :: vs)
theorem Parts.eval {i : Nat} {xs : List (Nat × Operand)} {vs : List Value} (h : Parts fr i xs vs) : xs.map (fun p => (p.1, (F fr ds).eval p.2)) = (vs.zipIdx i).map fun p => (p.2, p.1) := by
  induction h with
  | z => rfl
  | s h _ _ ih => simp [h ds, ih]
theorem Parts.cell {i : Nat} {xs : List (Nat × Operand)} {vs : List Value} (h : Parts fr i xs vs) : ∀ v ∈ vs, cellV v = true := by
  induction h with
  | z => simp
  | s _ hc _ ih => intro v hv; rcases List.mem_cons.1 hv with rfl | hv; exact hc; exact ih v hv
theorem cells_one {v : Value} (h : cellV v = true) : v.cells = #[v] := by cases v <;> first | rfl | simp [cellV] at h
theorem fill_ones (pl : Nat → Option (Nat × Nat)) (hpl : ∀ i, pl i = some (i, 1)) : ∀ (vs : List Value) (i : Nat) (cs : List Value), (∀ v ∈ vs, cellV v = true) → i + vs.length ≤ cs.length →
    Instr.fill pl ⟨cs⟩ ((vs.zipIdx i).map fun p => (p.2, p.1)) = some ⟨cs.take i ++ vs ++ cs.drop (i + vs.length)⟩
  | [], i, cs, _, h => by simp [Instr.fill]
  | v :: vs, i, cs, hv, h => by
    have hc := cells_one (hv v (by simp))
    have hlt : i < cs.length := by simp at h; omega
    have ih := fill_ones pl hpl vs (i + 1) (cs.set i v) (fun u hu => hv u (by simp [hu])) (by simp at h ⊢; omega)
    simp only [List.zipIdx_cons, List.map_cons, Instr.fill, hpl, hc]
    have e0 : ¬ ((#[v].size ≠ 1 || i + #[v].size > (⟨cs⟩ : Array Value).size) = true) := by simp; omega
    rw [if_neg e0]
    have e1 : (#[v].zipIdx.foldl (fun cs (c, j) => cs.setIfInBounds (i + j) c) (⟨cs⟩ : Array Value)) = ⟨cs.set i v⟩ := by
      simp [Array.zipIdx]
    rw [e1, ih]
    have e2 : (cs.set i v).take (i + 1) = cs.take i ++ [v] := by
      rw [List.take_set, List.take_add_one, List.getElem?_eq_getElem hlt]
      rw [List.set_append_right _ _ (by simp; omega)]
      simp [Nat.min_eq_left (Nat.le_of_lt hlt)]
    have e3 : (cs.set i v).drop (i + 1 + vs.length) = cs.drop (i + (v :: vs).length) := by
      rw [List.drop_set_of_lt (by omega)]
      congr 1
      simp; omega
    rw [e2, e3]
    simp
/-- A slice of cells that is written out. -/
theorem s_bsl {e : TypeId} {len : Nat} {xs : List (Nat × Operand)} {vs : List Value} (hT : P.underlying T = some (.slice e)) (hE : TI P e ag zc 1 m) (hx : Parts fr 0 xs vs) (hn : vs.length = len) (h24 : (decide (len ≤ 16777216)) = true) (hS : Sep S S0 w0 w rs A)
    (h : ∀ b w', w.heap.size ≤ b → Sep S S0 w0 w' (.blk b e vs :: rs) A → Put fr dst (.slice (some ⟨b, 0, none⟩) len len) fun fr' => K fr' ds w') : OW P (Oper.mk dst (.buildSlice T len ⟨xs⟩) ty pos after g) fr ds w K Q := by
  obtain ⟨fr', hd⟩ := dt_ex fr dst (.slice (some ⟨w.heap.size, 0, none⟩) len len)
  refine op_v (v := .slice (some ⟨w.heap.size, 0, none⟩) len len) (w' := w.alloc (.cells ⟨vs⟩ e)) ?_ hd (h _ _ (Nat.le_refl _) (hS.alloc rfl (heap_alloc_new w _)) fr' hd)
  obtain ⟨z, hz, hc⟩ := hE.zero (w := w)
  have hE1 := hE.sizeOf (w := w)
  have h2 : ¬ (len * 1 > 2 ^ 24) := by have := of_decide_eq_true h24; omega
  have hev := hx.eval (ds := ds)
  have hfill2 : ∀ cs : Array Value, cs.size = len → Instr.fill (fun i => some (i * 1, 1)) cs ((vs.zipIdx 0).map fun p => (p.2, p.1)) = some ⟨vs⟩ := by
    intro cs hcs
    have := fill_ones (fun i => some (i * 1, 1)) (fun i => by rw [Nat.mul_one]) vs 0 cs.toList hx.cell (by simp [hn, hcs])
    rw [this, List.drop_eq_nil_of_le (by simp [hn, hcs])]
    simp
  have hl : ((⟨xs⟩ : Array (Nat × Operand)).map fun (i, x) => (i, (F fr ds).eval x)).toList = (vs.zipIdx 0).map fun p => (p.2, p.1) := by
    simp only [Array.toList_map]
    exact hev
  unfold execOp
  simp only [Instr.buildSlice, Sem.run_bind, run_underlying hT, Result.andThen_ok, hE1, if_neg h2, hl]
  by_cases h0 : len * 1 = 0
  · simp only [if_pos h0, Sem.run_bind, Sem.run_pure, Result.andThen_ok]
    rw [hfill2 _ (by simp)]
    simp [newRow]
  · simp only [if_neg h0, Sem.run_bind, Sem.run_pure, Result.andThen_ok, hz]
    rw [hfill2 _ (by simp)]
    simp [newRow]

/-- A value that is appended to, at the place k. -/
theorem Row.lt {v : Value} {sz : Nat} {xs : List Value} (h : Row w v T sz n xs) {b : Nat} (hb : v.ownBlock = some b) : b < w.heap.size := holds_block (r := .row v T sz n xs) h hb
theorem Sep.row {k : Nat} {v v' : Value} {sz n' : Nat} {xs xs' : List Value} {w' : World} (hS : Sep S S0 w0 w rs A) (hl : Lk rs k (.row v T sz n xs)) (hp : Pt rs k (.row v' T sz n' xs') rs') (hr : Row w' v' T sz n' xs')
    (hk : Keeps (fun b => some b ≠ v.ownBlock) w w') (hv : v'.ownBlock = v.ownBlock ∨ ∃ b, v'.ownBlock = some b ∧ w.heap.size ≤ b) : Sep S S0 w0 w' rs' A := by
  unfold Pt at hp
  subst hp
  have hsub : ∀ b, v.ownBlock = some b → b ∈ blocks rs := fun b hb => mem_blocks (lk_mem hl) hb
  have hmem : ∀ b ∈ blocks (rs.set k (.row v' T sz n' xs')), (b ∈ blocks rs) ∨ (v'.ownBlock = some b ∧ w.heap.size ≤ b) := by
    intro b hb
    obtain ⟨r, hr', hrb⟩ := List.mem_filterMap.1 hb
    rcases List.mem_or_eq_of_mem_set hr' with hm | rfl
    · exact .inl (mem_blocks hm hrb)
    · rcases hv with hv | ⟨c, hc, hle⟩
      · exact .inl (hsub b (hv ▸ hrb))
      · have : c = b := by simpa [Res.block, hc] using hrb
        subst this
        exact .inr ⟨hc, hle⟩
  have hother : ∀ b ∈ blocks rs, b ∈ blocks (rs.set k (.row v' T sz n' xs')) ∨ v.ownBlock = some b := by
    intro b hb
    obtain ⟨r, hr', hrb⟩ := List.mem_filterMap.1 hb
    obtain ⟨j, hj⟩ := List.mem_iff_getElem?.1 hr'
    by_cases e : k = j
    · subst e
      unfold Lk at hl
      rw [hl] at hj
      cases hj
      exact .inr hrb
    · exact .inl (mem_blocks (r := r) (List.mem_of_getElem? (i := j) (by rw [List.getElem?_set_ne e]; exact hj)) hrb)
  refine ⟨?_, ?_, ?_, ?_, ?_⟩
  · refine ⟨hk.os.trans hS.keeps.os, hk.tape.trans hS.keeps.tape, hk.output.trans hS.keeps.output, Nat.le_trans hS.keeps.size hk.size, fun b hb hs => ?_⟩
    rw [hk.blk b (Nat.lt_of_lt_of_le hb hS.keeps.size) (fun e => by rcases hS.new b (hsub b e.symm) with h | h; exact absurd hb (by omega); exact h hs)]
    exact hS.keeps.blk b hb hs
  · intro r2 hr2
    obtain ⟨j, hm⟩ := List.mem_iff_getElem?.1 hr2
    by_cases e : k = j
    · subst e
      have hlt : k < rs.length := (List.getElem?_eq_some_iff.1 hl).1
      rw [List.getElem?_set_self hlt] at hm
      cases hm
      exact hr
    · rw [List.getElem?_set_ne e] at hm
      refine holds_of (hS.all r2 (List.mem_of_getElem? hm)) fun c hc => hk.blk c (hS.lt (mem_blocks (List.mem_of_getElem? hm) hc)) fun e2 => ?_
      exact other_block hS.dis hl hm e (b := c) e2.symm hc
  · have hd := hS.dis
    have hlt := fun b (hb : b ∈ blocks rs) => hS.lt hb
    clear hmem hother hsub
    unfold Lk at hl
    revert hl hd hlt
    generalize rs = l
    unfold blocks
    intro hl hd hlt
    induction l generalizing k with
    | nil => simp at hl
    | cons a l ih =>
      cases k with
      | zero =>
        simp at hl
        subst hl
        simp only [List.set_cons_zero, List.filterMap_cons, Res.block] at hd hlt ⊢
        rcases hv with hv | ⟨c, hc, hle⟩
        · rw [hv]; exact hd
        · rw [hc]
          cases hb : v.ownBlock with
          | none =>
            rw [hb] at hd hlt
            exact List.nodup_cons.2 ⟨fun hm => by have := hlt c hm; omega, hd⟩
          | some b =>
            rw [hb] at hd hlt
            exact List.nodup_cons.2 ⟨fun hm => by have := hlt c (List.mem_cons_of_mem _ hm); omega, (List.nodup_cons.1 hd).2⟩
      | succ k =>
        simp at hl
        simp only [List.set_cons_succ, List.filterMap_cons] at hd hlt ⊢
        cases ha : a.block with
        | none => rw [ha] at hd hlt; exact ih hl hd hlt
        | some c =>
          rw [ha] at hd hlt
          simp only [List.nodup_cons] at hd ⊢
          refine ⟨fun hm => ?_, ih hl hd.2 fun b hb => hlt b (List.mem_cons_of_mem _ hb)⟩
          obtain ⟨r, hr', hrb⟩ := List.mem_filterMap.1 hm
          rcases List.mem_or_eq_of_mem_set hr' with hm | rfl
          · exact hd.1 (List.mem_filterMap.2 ⟨r, hm, hrb⟩)
          · rcases hv with hv | ⟨c', hc', hle⟩
            · exact hd.1 (List.mem_filterMap.2 ⟨_, List.mem_of_getElem? hl, by rw [← hrb]; exact hv.symm⟩)
            · have : c' = c := by simpa [Res.block, hc'] using hrb
              have := hlt c (by simp)
              omega
  · intro b hb
    rcases hmem b hb with h | h
    · exact hS.new b h
    · exact .inl (Nat.le_trans hS.keeps.size h.2)
  · intro w'' h1 h2
    refine hS.imm w'' (Nat.le_trans hk.size h1) fun b hb hs => ?_
    rw [h2 b (Nat.lt_of_lt_of_le hb hk.size) ⟨hs.1, fun hm => by rcases hmem b hm with h | h; exact hs.2 h; exact absurd hb (by omega)⟩]
    exact hk.blk b hb fun e => hs.2 (hsub b e.symm)
end

/- append -/
section
variable {P : Program} {Q : Exit → Act → World → Prop} {K : List Value → List Deferred → World → Prop} {fr fr' : List Value} {ds : List Deferred} {w : World}
variable {dst : Option Tmp} {ty : TypeId} {pos : String} {after : Array Edge} {g : Option (Nat × Bool)}
variable {S S0 : Nat → Prop} {w0 : World} {rs rs' : List Res} {A : World → Prop}
variable {T : TypeId} {d : TypeDesc} {ag : Bool} {zc : List Value} {n m : Nat}

theorem run_append_row {t ty : TypeId} {sz bytes : Nat} (ht : P.underlying t = some (.slice T)) (hE : TI P T ag zc sz bytes) (hz : zc.length = sz) (h0 : 0 < sz)
    {v : Value} {xs : List Value} (hown : Row w v T sz n xs) {a : Addr} {m c : Nat} {news : List Value} (hl : news.length = m * sz) (hnews : ∀ j u, news[j]? = some u → w.cell? (a.add j) = some u) (h1 : ∀ u ∈ news, u.oneCell' = true)
    (h63 : n + m ≤ maxLen) (hbytes : (n + m) * bytes ≤ 140737488355328) :
    ∃ v' w', (Builtin.append_ #[t, t] ty #[v, .slice (some a) m c]).run P w = .ok v' w' ∧ Row w' v' T sz (n + m) (xs ++ news) ∧ Keeps (fun b => some b ≠ v.ownBlock) w w' ∧
      (v'.ownBlock = v.ownBlock ∨ ∃ b, v'.ownBlock = some b ∧ w.heap.size ≤ b) := by
  obtain ⟨i, z, hi, hiz, hzc, hsz, hby⟩ := hE.inf
  have hzs : z.cells.size = i.size := by rw [hzc, hsz]; simpa using hz
  subst hsz
  subst hby
  have hsmall : n + m ≤ 9223372036854775807 := by simp only [maxLen] at h63; omega
  have hlen : (xs ++ news).length = (n + m) * i.size := by rw [List.length_append, hown.1, hl, Nat.add_mul]
  have grown : ∀ (old : Nat), old < n + m → ∀ (row : Option Nat),
      Row (w.drew.alloc (.cells (xs.toArray ++ news.toArray ++ Builtin.zeroCells z.cells (grownCap w (n + m) old T - (n + m))) T)) (.slice (some ⟨w.heap.size, 0, none⟩) (n + m) (grownCap w (n + m) old T)) T i.size (n + m) (xs ++ news) ∧
      Keeps (fun b => some b ≠ row) w (w.drew.alloc (.cells (xs.toArray ++ news.toArray ++ Builtin.zeroCells z.cells (grownCap w (n + m) old T - (n + m))) T)) := by
    intro old ho row
    have hge := grownCap_ge w (n + m) old T
    have hcm : grownCap w (n + m) old T ≤ maxLen := grownCap_le_maxLen w (n + m) old T h63
    refine ⟨⟨hlen, .inr ⟨w.heap.size, 0, _, _, rfl, heap_alloc_new w.drew _, hge, hcm, ?_, ?_⟩⟩, ⟨rfl, rfl, rfl, by simp, fun k hk _ => heap_alloc_old w.drew _ k hk⟩⟩
    · simp only [Array.size_append, List.size_toArray, size_zeroCells, hzs, hown.1, hl, ← Nat.add_mul, Nat.zero_add]
      exact Nat.mul_le_mul_right _ (by omega)
    · simp only [Array.toList_append, List.append_assoc, List.drop_zero]
      rw [← List.append_assoc, ← hlen]
      exact List.take_left
  rcases hown.2 with ⟨rfl, rfl⟩ | ⟨g, o, cap, cur, rfl, hg, hnc, hcm, hcs, htake⟩
  · have hx : xs = [] := List.eq_nil_of_length_eq_zero (by simpa using hown.1)
    subst hx
    by_cases hm : m = 0
    · subst hm
      have hn : news = [] := List.eq_nil_of_length_eq_zero (by simpa using hl)
      subst hn
      refine ⟨.slice none 0 0, w, ?_, ⟨by simp, .inl ⟨rfl, rfl⟩⟩, .refl w, .inl rfl⟩
      simp [Builtin.append_, run_underlying ht, sizeOf, typeInfo, hi, Builtin.lenOf, Builtin.firstCells, loadCells, loadCellsFrom]
    · have hr := run_append_nil (P := P) w t ty T i z ht hi hiz a m c news hl hnews (by omega) (by omega) (by have hb := hbytes; simp only [Nat.zero_add] at hb; omega)
      have hgr := grown 0 (by omega) (Value.ownBlock (.slice none 0 0))
      simp only [Nat.zero_add, List.nil_append, Array.empty_append] at hgr ⊢
      exact ⟨_, _, hr, hgr.1, hgr.2, .inr ⟨_, rfl, Nat.le_refl _⟩⟩
  · by_cases hroom : n + m ≤ cap
    · have hmul : n * i.size + news.length ≤ cap * i.size := by rw [hl, ← Nat.add_mul]; exact Nat.mul_le_mul_right _ hroom
      have hfit : o + n * i.size + news.length ≤ cur.size := by omega
      have hr : (Builtin.append_ #[t, t] ty #[.slice (some ⟨g, o, none⟩) n cap, .slice (some a) m c]).run P w =
          .ok (.slice (some ⟨g, o, none⟩) (n + m) cap) (w.setRow g (cur.toList.take (o + n * i.size) ++ news ++ cur.toList.drop (o + n * i.size + news.length)).toArray) := by
        have hf := run_firstCells_some (P := P) w i.size m a m c news hl hnews
        have hst := run_storeCells_at P g (o + n * i.size) T news 0 cur w hg (by simpa using hfit) h1
        simp only [Nat.add_zero] at hst
        simp [Builtin.append_, run_underlying ht, sizeOf, typeInfo, hi, Builtin.lenOf, hroom, hf, add_addr, hst]
      refine ⟨_, _, hr, ⟨hlen, .inr ⟨g, o, cap, _, rfl, setRow_heap w g cur _ T _ hg, hroom, hcm, ?_, ?_⟩⟩, ⟨rfl, rfl, rfl, by simp [World.setRow], fun k _ hk => setRow_other w g k _ (fun e => hk (by simp [Value.ownBlock, e]))⟩, .inl rfl⟩
      · simp only [List.size_toArray, List.length_append, List.length_take, List.length_drop, Array.length_toList]
        omega
      · rw [← hlen, ← htake]
        have e1 : (cur.toList.take (o + n * i.size)).drop o = (cur.toList.drop o).take (n * i.size) := by
          rw [List.drop_take]; congr 1; omega
        have hlo : o ≤ (cur.toList.take (o + n * i.size)).length := by simp; omega
        rw [List.append_assoc, List.drop_append_of_le_length hlo, e1, ← List.append_assoc]
        exact List.take_left
    · have holds : ∀ j u, xs[j]? = some u → w.cell? ((⟨g, o, none⟩ : Addr).add j) = some u := by
        intro j u hu
        rw [add_addr, cell_of_row w g (o + j) cur T (0, 0) hg]
        rw [← htake, List.getElem?_take] at hu
        split at hu
        · rw [List.getElem?_drop] at hu; simpa using hu
        · cases hu
      have hr := run_append_grow (P := P) w t ty T i z ht hi hiz ⟨g, o, none⟩ n cap xs hown.1 holds a m c news hl hnews (by omega) (by omega) (growslice_fits (by omega) hbytes)
      have hgr := grown cap (by omega) (Value.ownBlock (.slice (some ⟨g, o, none⟩) n cap))
      exact ⟨_, _, hr, hgr.1, hgr.2, .inr ⟨_, rfl, Nat.le_refl _⟩⟩
/-- A fresh row: nil. -/
theorem Sep.nilRow (h : Sep S S0 w0 w rs A) (T : TypeId) (sz : Nat) : Sep S S0 w0 w (.row (.slice none 0 0) T sz 0 [] :: rs) A where
  keeps := h.keeps
  all r hr := by
    rcases List.mem_cons.1 hr with rfl | hr
    · exact ⟨by simp, .inl ⟨rfl, rfl⟩⟩
    · exact h.all r hr
  dis := h.dis
  new := h.new
  imm := h.imm
/-- append(s, x..): s is owned at place k; x is a slice whose cells are news. -/
theorem s_append {t : TypeId} {s x : Operand} {v : Value} {sz bytes k b o mm c : Nat} {xs news : List Value} (ht : P.underlying t = some (.slice T)) (hE : TI P T ag zc sz bytes) (hz : (zc.length == sz && decide (0 < sz)) = true)
    (hs : Ev fr s v) (hx : Ev fr x (.slice (some ⟨b, o, none⟩) mm c)) (hS : Sep S S0 w0 w rs A) (hl : Lk rs k (.row v T sz n xs)) (hnews : CellsAt w b o news) (hlen : news.length = mm * sz) (h1 : news.all cellV = true)
    (hb : n + mm ≤ 4294967296 ∧ bytes ≤ 4096)
    (h : ∀ v' w' rs', Pt rs k (.row v' T sz (n + mm) (xs ++ news)) rs' → Sep S S0 w0 w' rs' A → Put fr dst v' fun fr' => K fr' ds w') :
    OW P (Oper.mk dst (.call { callee := .builtin .append, args := #[s, x], argTypes := #[t, t] }) ty pos after g) fr ds w K Q := by
  simp only [Bool.and_eq_true, beq_iff_eq, decide_eq_true_eq] at hz
  have hbytes : (n + mm) * bytes ≤ 140737488355328 := Nat.le_trans (Nat.mul_le_mul hb.1 hb.2) (by decide)
  obtain ⟨v', w', hr, hrow, hk, hv⟩ := run_append_row (P := P) (ty := ty) ht hE hz.1 hz.2 (hS.get hl) (a := ⟨b, o, none⟩) (c := c) hlen (fun j u hu => by rw [add_addr]; exact hnews j u hu) (fun u hu => cell_one (List.all_eq_true.1 h1 u hu)) (by unfold maxLen; omega) hbytes
  obtain ⟨fr', hd⟩ := dt_ex fr dst v'
  refine op_v (v := v') (w' := w') ?_ hd (h v' w' _ rfl (hS.row hl rfl hrow hk hv) fr' hd)
  have e1 := hs ds
  have e2 := hx ds
  simp [execOp, resolve, invoke, builtin, e1, e2, hr]

/- results -/
/-- What a result variable holds at the end. -/
inductive RV (P : Program) (fr : List Value) (w : World) : ResultVar → Value → Prop where
  | t {n : Nat} {v : Value} (h : Lk fr n v) : RV P fr w (.tmp n) v
  | c {n b o : Nat} {v : Value} {T : TypeId} {zc : List Value} {k m : Nat} (h : Lk fr n (.pointer (some ⟨b, o, none⟩))) (hT : TI P T false zc k m) (hc : w.cell? ⟨b, o, none⟩ = some v) : RV P fr w (.cell n T) v
  | a {n b o : Nat} {cs : List Value} {T : TypeId} {zc : List Value} {k m : Nat} (h : Lk fr n (.pointer (some ⟨b, o, none⟩))) (hT : TI P T true zc k m) (hc : CellsAt w b o cs) (hk : cs.length = k) : RV P fr w (.cell n T) (.agg ⟨cs⟩)
inductive RVs (P : Program) (fr : List Value) (w : World) : List ResultVar → List Value → Prop where
  | z : RVs P fr w [] []
  | s {r : ResultVar} {v : Value} {rs : List ResultVar} {vs : List Value} (h : RV P fr w r v) (t : RVs P fr w rs vs) : RVs P fr w (r :: rs) (v :: vs)
def readRV (tmps : Array Value) : ResultVar → Sem Value
  | .tmp t => pure (tmps.getD t undef)
  | .cell a t => do loadVar t (← asAddr (tmps.getD a undef))
theorem results_eq (fn : Func) (tmps : Array Value) : results fn tmps = (do
    let vs ← fn.results.mapM (readRV tmps)
    pure (if h : vs.size = 1 then vs[0] else .tuple vs)) := by
  unfold results
  congr 1
theorem RV.run {r : ResultVar} {v : Value} (h : RV P fr w r v) : (readRV (F fr ds).tmps r).run P w = .ok v w := by
  cases h with
  | t h => unfold Lk at h; simp [readRV, F, h]
  | c h hT hc => unfold Lk at h; simp [readRV, F, h, asAddr, loadVar, hT.isAgg, hc]
  | a h hT hc hk =>
    unfold Lk at h
    rename_i n b o cs T zc k m
    have hl := run_loadCells_list (P := P) w ⟨b, o, none⟩ cs (fun j v hj => by rw [add_addr]; exact hc j v hj)
    rw [hk] at hl
    simp [readRV, F, h, asAddr, loadVar, hT.isAgg, hT.sizeOf, hl]
theorem RVs.run {rs : List ResultVar} {vs : List Value} (h : RVs P fr w rs vs) : (rs.mapM (readRV (F fr ds).tmps)).run P w = .ok vs w := by
  induction h with
  | z => simp
  | @s r v rs vs h _ ih =>
    have h1 := h.run (ds := ds)
    simp only [List.mapM_cons, Sem.run_bind]
    rw [h1]
    simp only [Result.andThen_ok]
    rw [ih]
    simp
def tupV : List Value → Value
  | [v] => v
  | vs => .tuple ⟨vs⟩
theorem run_results {fn : Func} {rl : List ResultVar} {vs : List Value} (hr : fn.results = ⟨rl⟩) (h : RVs P fr w rl vs) : (results fn (F fr ds).tmps).run P w = .ok (tupV vs) w := by
  have hm := h.run (ds := ds)
  rw [results_eq, hr]
  rw [Array.mapM_eq_mapM_toList]
  simp only [Sem.run_bind, Sem.run_map, hm, Result.andThen_ok]
  match vs with
  | [] => simp [tupV]
  | [v] => simp [tupV]
  | v :: v' :: vs => simp [tupV]
theorem retN {fn : Func} {R : Value → World → Prop} {rl : List ResultVar} {vs : List Value} (hr : fn.results = ⟨rl⟩) (hv : RVs P fr w rl vs) (h : R (tupV vs) w) : Post P fn R .ret (F fr []) w :=
  bodyPost_ret (run_results hr hv) rfl h
end
end Go.Wk
