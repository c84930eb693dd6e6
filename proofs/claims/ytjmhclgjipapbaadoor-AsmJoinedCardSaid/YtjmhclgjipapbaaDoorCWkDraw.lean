/- The calculus, fifth part: a statement whose operations may be carried out in more than one order. Over any program. -/
import Derived.Test.YtjmhclgjipapbaaDoorCWkHeap3
set_option linter.unusedSectionVars false
set_option linter.unusedVariables false
set_option linter.unusedSimpArgs false
namespace Go.Wk
open Go.RowKit

theorem map_congr_arr {α β : Type} {f g : α → β} {xs : Array α} (h : ∀ x ∈ xs, f x = g x) : xs.map f = xs.map g := Array.map_congr_left h
/-- An operation looks at its operands alone. -/
def noSel : Op → Bool
  | .select _ _ => false
  | _ => true
theorem execOp_congr {f g : Operand → Value} (o : Oper) (hs : noSel o.op = true) (h : ∀ x ∈ o.op.operands, f x = g x) : execOp f o = execOp g o := by
  obtain ⟨dst, op, ty, pos, after, gd⟩ := o
  have hc : ∀ c : Call, (∀ x ∈ c.operands, f x = g x) → resolve f c ty = resolve g c ty := by
    intro c hc
    have ha : c.args.map f = c.args.map g := map_congr_arr fun x hx => hc x (by simp [Call.operands, hx])
    unfold resolve
    rw [ha]
    obtain ⟨callee, args, tys⟩ := c
    cases callee with
    | value x => simp only; rw [hc x (by simp [Call.operands])]
    | invoke x m => simp only; rw [hc x (by simp [Call.operands])]
    | builtin b => rfl
  cases op <;> simp only [Op.operands, List.mem_toArray, List.mem_cons, List.not_mem_nil, or_false, forall_eq_or_imp, forall_eq, Array.mem_append, List.mem_map] at h <;> simp only [execOp]
  case build t ps =>
    have : (ps.map fun (i, x) => (i, f x)) = ps.map fun (i, x) => (i, g x) := map_congr_arr fun p hp => by simp only; rw [h p.2 ⟨p, by simpa using hp, rfl⟩]
    rw [this]
  case buildSlice t n ps =>
    have : (ps.map fun (i, x) => (i, f x)) = ps.map fun (i, x) => (i, g x) := map_congr_arr fun p hp => by simp only; rw [h p.2 ⟨p, by simpa using hp, rfl⟩]
    rw [this]
  case makeFunc fn a b =>
    rw [map_congr_arr (f := f) (g := g) (xs := a) fun x hx => h x (.inl hx), map_congr_arr (f := f) (g := g) (xs := b) fun x hx => h x (.inr hx)]
  case makeMap t r => cases r with
    | none => rfl
    | some x => simp only [Option.map]; rw [h x (by simp)]
  case slice t x lo hi mx =>
    have hx := h x (by simp)
    have h1 : lo.map f = lo.map g := by cases lo with
      | none => rfl
      | some y => simp only [Option.map]; rw [h y (by simp)]
    have h2 : hi.map f = hi.map g := by cases hi with
      | none => rfl
      | some y => simp only [Option.map]; rw [h y (by simp)]
    have h3 : mx.map f = mx.map g := by cases mx with
      | none => rfl
      | some y => simp only [Option.map]; rw [h y (by simp)]
    rw [hx, h1, h2, h3]
  case call c => rw [hc c h]
  case go c => rw [hc c h]
  case defer c => rw [hc c h]
  case select cs b => exact absurd hs (by simp [noSel])
  all_goals (try (simp only [h]))

/-- What an operation waits for. -/
def deps (ops : Array Oper) (i : Nat) : List Nat := match ops[i]? with
  | some o => (o.after.toList.filter (Region.binds .any)).map (·.on)
  | none => []
/-- Of what is left, i may be next. -/
def enabled (ops : Array Oper) (R : List Nat) (i : Nat) : Bool := R.contains i && (deps ops i).all fun j => !R.contains j
/-- An order of what is left. -/
inductive LinExt (ops : Array Oper) : List Nat → List Nat → Prop where
  | z : LinExt ops [] []
  | s {R π : List Nat} {i : Nat} (h : enabled ops R i = true) (t : LinExt ops (R.erase i) π) : LinExt ops R (i :: π)
theorem enabled_mem {ops : Array Oper} {R : List Nat} {i : Nat} (h : enabled ops R i = true) : i ∈ R := by
  simp only [enabled, Bool.and_eq_true, List.contains_iff_mem] at h
  exact h.1
theorem enabled_dep {ops : Array Oper} {R : List Nat} {i j : Nat} (h : enabled ops R i = true) (hj : j ∈ deps ops i) : j ∉ R := by
  simp only [enabled, Bool.and_eq_true, List.all_eq_true] at h
  have := h.2 j hj
  simpa using this

def left (n : Nat) (listed : Array Bool) : List Nat := (List.range n).filter fun i => !listed.getD i true
theorem left_nodup (n : Nat) (listed : Array Bool) : (left n listed).Nodup := List.nodup_range.filter _
theorem left_set {n : Nat} {listed : Array Bool} (hs : listed.size = n) {i : Nat} (hi : i ∈ left n listed) : left n (listed.setIfInBounds i true) = (left n listed).erase i := by
  rw [(left_nodup n listed).erase_eq_filter]
  unfold left
  rw [List.filter_filter]
  apply List.filter_congr
  intro j hj
  have hjn : j < n := List.mem_range.1 hj
  have hjl : j < listed.size := by omega
  simp only [Array.getD_eq_getD_getElem?, Array.getElem?_setIfInBounds]
  by_cases e : i = j
  · subst e
    simp [hjl]
  · simp [e, Ne.symm e]
theorem low_of {ops : Array Oper} {n : Nat} (hlow : (List.range n).all (fun i => (deps ops i).all fun j => decide (j < i)) = true) {i j : Nat} (hi : i < n) (hj : j ∈ deps ops i) : j < i := by
  simp only [List.all_eq_true, List.mem_range, decide_eq_true_eq] at hlow
  exact hlow i hi j hj
theorem go_lin {ops : Array Oper} (hlow : (List.range ops.size).all (fun i => (deps ops i).all fun j => decide (j < i)) = true) :
    ∀ (fuel t : Nat) (listed : Array Bool) (acc : List Nat), listed.size = ops.size → (left ops.size listed).length ≤ fuel → ∃ π, Region.linearise.go .any ops fuel t listed acc = acc.reverse ++ π ∧ LinExt ops (left ops.size listed) π
  | 0, t, listed, acc, hs, hf => by
    have h0 : left ops.size listed = [] := List.eq_nil_of_length_eq_zero (by omega)
    exact ⟨[], by simp [Region.linearise.go], by rw [h0]; exact .z⟩
  | fuel + 1, t, listed, acc, hs, hf => by
    rw [Region.linearise.go]
    generalize hrs : (List.filter (fun i => !listed.getD i true && (Option.map (fun x => x.after.all fun e => !Region.binds .any e || listed.getD e.on false) ops[i]?).getD false) (List.range ops.size)) = rs
    have hmem : ∀ i, i ∈ rs ↔ enabled ops (left ops.size listed) i = true := by
      intro i
      rw [← hrs]
      simp only [List.mem_filter, List.mem_range, Bool.and_eq_true, enabled, List.contains_iff_mem, left, deps]
      constructor
      · rintro ⟨h1, h2, h3⟩
        refine ⟨⟨h1, h2⟩, ?_⟩
        rw [Array.getElem?_eq_getElem h1] at h3 ⊢
        simp only [Option.map_some, Option.getD_some, Array.all_eq_true', Bool.or_eq_true, Bool.not_eq_true'] at h3
        simp only [List.all_eq_true, List.mem_map, List.mem_filter, forall_exists_index, and_imp]
        rintro j e he hb rfl
        have := h3 e (by simpa using he)
        rcases this with h | h
        · rw [h] at hb; cases hb
        · simp only [Bool.not_eq_true', List.contains_eq_mem, decide_eq_false_iff_not, List.mem_filter, List.mem_range, not_and, Bool.not_eq_true, Bool.not_eq_false]
          intro hlt
          have hlt' : e.on < listed.size := by omega
          simp only [Array.getD, hlt', dif_pos] at h ⊢
          exact h
      · rintro ⟨⟨h1, h2⟩, h3⟩
        refine ⟨h1, h2, ?_⟩
        rw [Array.getElem?_eq_getElem h1] at h3 ⊢
        simp only [Option.map_some, Option.getD_some, Array.all_eq_true', Bool.or_eq_true, Bool.not_eq_true']
        simp only [List.all_eq_true, List.mem_map, List.mem_filter, forall_exists_index, and_imp] at h3
        intro e he
        cases hb : Region.binds .any e with
        | false => exact .inl rfl
        | true =>
          right
          have := h3 e.on e (by simpa using he) hb rfl
          simp only [Bool.not_eq_true', List.contains_eq_mem, decide_eq_false_iff_not, List.mem_filter, List.mem_range, not_and, Bool.not_eq_true, Bool.not_eq_false] at this
          have hlt : e.on < i := low_of hlow h1 (by
            unfold deps
            rw [Array.getElem?_eq_getElem h1]
            simp only [List.mem_map, List.mem_filter]
            exact ⟨e, ⟨by simpa using he, hb⟩, rfl⟩)
          have h4 := this (by omega)
          have hlt' : e.on < listed.size := by omega
          simp only [Array.getD, hlt', dif_pos] at h4 ⊢
          exact h4
    by_cases h0 : left ops.size listed = []
    · have hr0 : rs = [] := by
        rw [List.eq_nil_iff_forall_not_mem]
        intro i hi
        have := enabled_mem ((hmem i).1 hi)
        rw [h0] at this
        cases this
      rw [hr0]
      simp only [List.length_nil, Nat.mod_zero, List.getElem?_nil]
      exact ⟨[], by simp, by rw [h0]; exact .z⟩
    · -- the least of what is left may be next
      have hpos : 0 < rs.length := by
        obtain ⟨i, hi, hmin⟩ : ∃ i, i ∈ left ops.size listed ∧ ∀ j, j < i → j ∉ left ops.size listed := by
          obtain ⟨a, ha⟩ := List.exists_mem_of_ne_nil _ h0
          induction a using Nat.strongRecOn with
          | _ a ih =>
            by_cases hex : ∃ j, j < a ∧ j ∈ left ops.size listed
            · obtain ⟨j, hj, hjm⟩ := hex
              exact ih j hj hjm
            · exact ⟨a, ha, fun j hj hm => hex ⟨j, hj, hm⟩⟩
        have hen : enabled ops (left ops.size listed) i = true := by
          simp only [enabled, Bool.and_eq_true, List.contains_iff_mem, List.all_eq_true]
          refine ⟨hi, fun j hj => ?_⟩
          have := hmin j (low_of hlow (List.mem_range.1 (List.mem_filter.1 hi).1) hj)
          simpa using this
        exact List.length_pos_of_mem ((hmem i).2 hen)
      have hlt : t % rs.length < rs.length := Nat.mod_lt _ hpos
      rw [List.getElem?_eq_getElem hlt]
      simp only
      have hen := (hmem _).1 (List.getElem_mem hlt)
      generalize rs[t % rs.length] = i at hen ⊢
      have hi := enabled_mem hen
      obtain ⟨π, h1, h2⟩ := go_lin hlow fuel (t / rs.length) (listed.setIfInBounds i true) (i :: acc) (by simpa using hs) (by
        rw [left_set hs hi, List.length_erase_of_mem hi]
        omega)
      refine ⟨i :: π, ?_, .s hen ?_⟩
      · rw [h1]; simp
      · rw [← left_set hs hi]; exact h2
theorem linearise_lin {ops : Array Oper} (hlow : (List.range ops.size).all (fun i => (deps ops i).all fun j => decide (j < i)) = true) (t : Nat) : LinExt ops (List.range ops.size) (Region.linearise .any ops t) := by
  have hl : left ops.size (Array.replicate ops.size false) = List.range ops.size := by
    unfold left
    rw [List.filter_eq_self]
    intro i hi
    have := List.mem_range.1 hi
    simp [Array.getD, this]
  obtain ⟨π, h1, h2⟩ := go_lin hlow ops.size t (Array.replicate ops.size false) [] (by simp) (by rw [hl]; simp)
  unfold Region.linearise
  rw [h1]
  rw [hl] at h2
  simpa using h2

/-- The slot that an operand names. -/
def slotOf : Operand → Option Nat
  | .tmp t => some t
  | _ => none
/-- The slots that an operation reads: its operands, and its guard's. -/
def reads (ops : Array Oper) (o : Oper) : List Nat :=
  o.op.operands.toList.filterMap slotOf ++ (match o.guard with
    | some (j, _) => ((ops[j]?).bind (·.dst)).toList
    | none => [])
/-- Operations that only look at memory. -/
def quiet : Op → Bool
  | .move _ | .assign _ | .pick _ _ _ | .load _ _ | .fieldAddr _ _ _ | .indexAddr _ _ _ | .index _ _ _ | .field _ _ _ | .extract _ _ => true
  | _ => false
/-- Operation i may be carried out ahead of all others that are left: those that do not wait for it do not touch its slot, nor it theirs; (rd) and only look at memory. -/
def apart (ops : Array Oper) (rd : Bool) (R : List Nat) (i : Nat) : Bool :=
  match ops[i]? with
  | some o => match o.dst, o.guard with
    | some d, none => noSel o.op && R.all fun j => j == i || (deps ops j).contains i || (match ops[j]? with
        | some p => noSel p.op && !(reads ops p).contains d && p.dst != some d && (match p.dst with | some e => !(reads ops o).contains e | none => true) && (!rd || quiet p.op)
        | none => true)
    | _, _ => false
  | none => false

/-- What does not turn the world. -/
def RO (P : Program) {α : Type} (x : Sem α) : Prop := ∀ w b w', x.run P w = .ok b w' → w' = w
section
variable {P : Program} {α β : Type}
theorem RO.pure (a : α) : RO P (pure a : Sem α) := fun w b w' h => by simp at h; exact h.2.symm
theorem RO.bind {x : Sem α} {f : α → Sem β} (h : RO P x) (k : ∀ a, RO P (f a)) : RO P (x >>= f) := fun w b w' hr => by
  rw [Sem.run_bind] at hr
  cases hx : x.run P w with
  | ok a w1 =>
    rw [hx] at hr
    have := h w a w1 hx
    subst this
    exact k a _ b w' hr
  | halt e w1 => rw [hx] at hr; cases hr
theorem RO.stuck (s : String) : RO P (Go.stuck s : Sem α) := fun w b w' h => by simp [Go.stuck] at h
theorem RO.unsupported (u : Unsupported) : RO P (Go.unsupported u : Sem α) := fun w b w' h => by simp [Go.unsupported] at h
theorem RO.goPanic (v : Value) : RO P (Go.goPanic v : Sem α) := fun w b w' h => by simp [Go.goPanic] at h
theorem RO.program : RO P Go.program := fun w b w' h => by simp at h; exact h.2.symm
theorem RO.load (a : Addr) (m : Mode) : RO P (Go.load a m) := fun w b w' h => by
  unfold Go.load Sem.run at h
  split at h
  · simp [Sem.run] at h; exact h.2.symm
  · split at h
    · simp [Sem.run] at h; exact h.2.symm
    · cases h
theorem RO.shape (r : Nat) : RO P (Go.shape r) := fun w b w' h => by simp [Go.shape, Sem.run] at h; exact h.2.symm
theorem RO.getObj (r : Nat) : RO P (Go.getObj r) := fun w b w' h => by
  unfold Go.getObj Sem.run at h
  split at h
  · cases h
  · simp [Sem.run] at h; exact h.2.symm
  · cases h
/-- What never goes on. -/
def NO (P : Program) {α : Type} (x : Sem α) : Prop := ∀ w b w', x.run P w ≠ .ok b w'
theorem NO.ro {x : Sem α} (h : NO P x) : RO P x := fun w b w' hr => absurd hr (h w b w')
theorem NO.bind {x : Sem α} {f : α → Sem β} (k : ∀ a, NO P (f a)) : NO P (x >>= f) := fun w b w' hr => by
  rw [Sem.run_bind] at hr
  cases hx : x.run P w with
  | ok a w1 => rw [hx] at hr; exact k a _ _ _ hr
  | halt e w1 => rw [hx] at hr; cases hr
theorem NO.goPanic (v : Value) : NO P (Go.goPanic v : Sem α) := fun w b w' h => by simp [Go.goPanic] at h
theorem NO.runtimePanic (e : RuntimeError) : NO P (Go.runtimePanic e : Sem α) := by
  unfold Go.runtimePanic
  refine NO.bind fun p => ?_
  cases e <;> first | exact NO.goPanic _ | exact NO.bind fun _ => NO.bind fun _ => NO.goPanic _ | exact NO.bind fun _ => NO.goPanic _ | skip
  all_goals (simp only; first | exact NO.goPanic _ | exact NO.bind fun _ => NO.bind fun _ => NO.goPanic _)
theorem NO.boundsPanic (k : IntKind) (x y : Int) (c : BoundsCode) : NO P (Go.boundsPanic k x y c : Sem α) := by
  unfold Go.boundsPanic
  dsimp only
  split <;> exact NO.bind fun _ => NO.runtimePanic _
theorem RO.underlying (t : TypeId) : RO P (Go.underlying t) := by
  unfold Go.underlying
  refine RO.bind RO.program fun p => ?_
  split
  · exact RO.pure _
  · exact RO.stuck _
theorem RO.typeInfo (t : TypeId) : RO P (Go.typeInfo t) := by
  unfold Go.typeInfo
  refine RO.bind RO.program fun p => ?_
  split
  · exact RO.pure _
  · exact RO.stuck _
theorem RO.sizeOf (t : TypeId) : RO P (Go.sizeOf t) := by
  unfold Go.sizeOf
  exact RO.bind (RO.typeInfo t) fun _ => RO.pure _
theorem RO.isAgg (t : TypeId) : RO P (Go.isAgg t) := by
  unfold Go.isAgg
  refine RO.bind (RO.underlying t) fun d => ?_
  split <;> exact RO.pure _
theorem RO.loadCellsFrom (a : Addr) : ∀ (n i : Nat) (acc : Array Value), RO P (Go.loadCellsFrom a i n acc)
  | 0, _, _ => RO.pure _
  | n + 1, i, _ => RO.bind (RO.load _ _) fun v => RO.loadCellsFrom a n (i + 1) _
theorem RO.loadVar (t : TypeId) (a : Addr) : RO P (Go.loadVar t a) := by
  unfold Go.loadVar
  refine RO.bind (RO.isAgg t) fun b => ?_
  split
  · exact RO.bind (RO.sizeOf t) fun n => RO.bind (RO.loadCellsFrom a n 0 _) fun _ => RO.pure _
  · exact RO.load _ _
theorem RO.part (t : TypeId) (cs : Array Value) (off : Nat) : RO P (Go.part t cs off) := by
  unfold Go.part
  refine RO.bind (RO.isAgg t) fun b => ?_
  split
  · exact RO.bind (RO.sizeOf t) fun n => RO.pure _
  · split
    · exact RO.pure _
    · exact RO.stuck _
theorem RO.viewAt (r : Nat) : RO P (Go.viewAt r) := by
  unfold Go.viewAt
  refine RO.bind (RO.shape r) fun s => ?_
  split
  · exact RO.pure _
  · refine RO.bind (RO.getObj r) fun o => ?_
    split <;> exact RO.pure _
theorem RO.byteOf (a : Addr) : RO P (Go.byteOf a) := by
  unfold Go.byteOf
  split
  · exact RO.pure _
  · refine RO.bind RO.program fun p => ?_
    refine RO.bind (by
      unfold noView
      refine RO.bind (RO.viewAt _) fun v => ?_
      split
      · exact RO.unsupported _
      · exact RO.pure _) fun _ => ?_
    refine RO.bind (RO.shape _) fun s => ?_
    split
    · dsimp only
      split
      · exact RO.pure _
      · split
        · exact RO.pure _
        · exact RO.stuck _
    · exact RO.stuck _
theorem RO.fieldPlace (a : Addr) (f : Field) : RO P (Go.fieldPlace a f) := by
  unfold Go.fieldPlace
  refine RO.bind (RO.sizeOf _) fun n => ?_
  split
  · unfold partAt
    exact RO.bind (RO.byteOf a) fun b => RO.bind (RO.byteOf _) fun _ => RO.pure _
  · exact RO.pure _
theorem RO.asIntOf (v : Value) : RO P (Go.asIntOf v) := by
  unfold Go.asIntOf
  split
  · exact RO.pure _
  · exact RO.unsupported _
  · exact RO.stuck _
theorem RO.sureAddr (v : Value) : RO P (Instr.sureAddr v) := by
  unfold Instr.sureAddr
  split
  · exact RO.pure _
  · exact RO.stuck _
theorem quiet_run {ρ : Operand → Value} {o : Oper} {w w' : World} {r : Next} (hq : quiet o.op = true) (h : (execOp ρ o).run P w = .ok r w') : w' = w ∧ ∃ v, r = .value v := by
  have val : ∀ {x : Sem Value}, RO P x → (do pure (.value (← x)) : Sem Next).run P w = .ok r w' → w' = w ∧ ∃ v, r = .value v := by
    clear h
    intro x hx hin
    rw [Sem.run_bind] at hin
    cases hr : x.run P w with
    | ok v w1 =>
      rw [hr] at hin
      have hw := hx w v w1 hr
      have h2 : Result.ok (Next.value v) w1 = Result.ok r w' := hin
      cases h2
      exact ⟨hw, v, rfl⟩
    | halt e w1 => rw [hr] at hin; cases hin
  obtain ⟨dst, op, ty, pos, after, gd⟩ := o
  cases op <;> simp only [quiet, Bool.false_eq_true] at hq
  case move x => simp [execOp] at h; exact ⟨h.2.symm, _, h.1.symm⟩
  case assign x => simp [execOp] at h; exact ⟨h.2.symm, _, h.1.symm⟩
  case pick c a b =>
    refine val (x := do pure (if ← asBool (ρ c) then ρ a else ρ b)) ?_ (by simpa [execOp] using h)
    refine RO.bind ?_ fun _ => RO.pure _
    unfold asBool
    split
    · exact RO.pure _
    · exact RO.stuck _
  case load t a => exact val (x := Instr.loadAt t (ρ a)) (RO.bind (RO.sureAddr _) fun _ => RO.loadVar _ _) h
  case fieldAddr t x i =>
    refine val (x := Instr.fieldAt t (ρ x) i) ?_ h
    unfold Instr.fieldAt
    refine RO.bind (RO.underlying _) fun d => ?_
    split
    · split
      · exact RO.bind (RO.sureAddr _) fun _ => RO.bind (RO.fieldPlace _ _) fun _ => RO.pure _
      · exact RO.stuck _
    · exact RO.stuck _
  case field t x i =>
    refine val (x := Instr.field t (ρ x) i) ?_ h
    unfold Instr.field
    refine RO.bind (RO.underlying _) fun d => ?_
    split
    · split
      · refine RO.bind ?_ fun _ => RO.part _ _ _
        unfold asAgg
        split
        · exact RO.pure _
        · exact RO.stuck _
      · exact RO.stuck _
    · exact RO.stuck _
  case extract x i =>
    refine val (x := Instr.extract (ρ x) i) ?_ h
    unfold Instr.extract
    split
    · split
      · exact RO.pure _
      · exact RO.stuck _
    · exact RO.stuck _
  case index t x y =>
    refine val (x := Instr.index t (ρ x) (ρ y)) ?_ h
    unfold Instr.index
    refine RO.bind (RO.asIntOf _) fun ki => ?_
    obtain ⟨k, i⟩ := ki
    refine RO.bind (RO.underlying _) fun d => ?_
    split
    · split
      · exact RO.bind (RO.sizeOf _) fun _ => RO.part _ _ _
      · exact (NO.boundsPanic _ _ _ _).ro
    · split
      · exact RO.pure _
      · exact (NO.boundsPanic _ _ _ _).ro
    · exact RO.stuck _
  case indexAddr t x y =>
    refine val (x := Instr.indexAt t (ρ x) (ρ y)) ?_ h
    unfold Instr.indexAt
    refine RO.bind (RO.asIntOf _) fun ki => ?_
    obtain ⟨k, i⟩ := ki
    refine RO.bind (RO.underlying _) fun d => ?_
    dsimp only
    repeat' first
      | with_reducible exact RO.pure _
      | with_reducible exact RO.stuck _
      | with_reducible exact RO.unsupported _
      | with_reducible exact (NO.boundsPanic _ _ _ _).ro
      | with_reducible refine RO.bind (RO.sureAddr _) fun _ => ?_
      | with_reducible refine RO.bind (RO.underlying _) fun _ => ?_
      | with_reducible refine RO.bind (RO.sizeOf _) fun _ => ?_
      | with_reducible refine RO.bind (RO.pure _) fun _ => ?_
      | with_reducible refine RO.bind (RO.stuck _) fun _ => ?_
      | split
end

section
variable {P : Program} {Q : Exit → Act → World → Prop} {ops : Array Oper} {fr fr' : List Value} {ds : List Deferred} {w : World}

theorem eval_set {fr : List Value} {ds ds' : List Deferred} {d : Nat} {v : Value} {x : Operand} (h : slotOf x ≠ some d) : (F (fr.set d v) ds).eval x = (F fr ds').eval x := by
  cases x with
  | tmp t =>
    have : d ≠ t := fun e => h (by simp [slotOf, e])
    simp [F, Act.eval, List.getElem?_set_ne this]
  | const v => rfl
  | global g => rfl
  | func f => rfl
theorem reads_op {o : Oper} {d : Nat} (h : (reads ops o).contains d = false) : ∀ x ∈ o.op.operands, slotOf x ≠ some d := by
  intro x hx e
  have : d ∈ reads ops o := by
    unfold reads
    exact List.mem_append.2 (.inl (List.mem_filterMap.2 ⟨x, by simpa using hx, e⟩))
  rw [List.contains_iff_mem.2 this] at h
  cases h
theorem exec_set {o : Oper} {d : Nat} {v : Value} {ds' : List Deferred} (hs : noSel o.op = true) (h : (reads ops o).contains d = false) : execOp (F (fr.set d v) ds).eval o = execOp (F fr ds').eval o :=
  execOp_congr o hs fun x hx => eval_set (reads_op h x hx)
theorem wanted_set {o : Oper} {d : Nat} {v : Value} {ds' : List Deferred} (h : (reads ops o).contains d = false) : Region.wanted o (yielded ops (F (fr.set d v) ds).tmps) = Region.wanted o (yielded ops (F fr ds').tmps) := by
  unfold Region.wanted
  cases hg : o.guard with
  | none => rfl
  | some jb =>
    obtain ⟨j, b⟩ := jb
    simp only
    congr 1
    unfold yielded
    cases hj : (ops[j]?).bind (·.dst) with
    | none => rfl
    | some e =>
      have hne : d ≠ e := by
        intro he
        have : d ∈ reads ops o := by
          unfold reads
          rw [hg]
          exact List.mem_append.2 (.inr (by simp only; rw [hj]; simp [he]))
        rw [List.contains_iff_mem.2 this] at h
        cases h
      simp [F, List.getElem?_set_ne hne]
theorem put_eq (fr : List Value) (ds : List Deferred) (dst : Option Tmp) (x : Value) : ∃ g : List Value → List Value, (∀ fr ds, (F fr ds).put dst x = F (g fr) ds) ∧ (∀ (fr : List Value) (d : Nat) (v : Value), dst ≠ some d → g (fr.set d v) = (g fr).set d v) ∧ (∀ (fr : List Value) (y : Operand) (ds ds' : List Deferred), (∀ e, dst = some e → slotOf y ≠ some e) → (F (g fr) ds).eval y = (F fr ds').eval y) := by
  cases dst with
  | none => exact ⟨id, fun _ _ => rfl, fun _ _ _ _ => rfl, fun fr y ds ds' _ => by cases y <;> rfl⟩
  | some n =>
    refine ⟨fun fr => fr.set n x, fun fr ds => dt rfl ds, fun fr d v h => ?_, fun fr y ds ds' h => eval_set (h n rfl)⟩
    have : d ≠ n := fun e => h (by rw [e])
    exact List.set_comm _ _ this
/-- What is said of a panic does not hang on the slots. -/
def Blind (Q : Exit → Act → World → Prop) : Prop := ∀ ch a a' w, a.defers = a'.defers → Q (.panic ch) a w → Q (.panic ch) a' w
/-- An operation that is put off behind others, that do not touch it. -/
theorem sim (hQ : Blind Q) {rd : Bool} {i d : Nat} {o : Oper} {v : Value} (ho : ops[i]? = some o) (hd : o.dst = some d) (hg : o.guard = none) {w0 : World} :
    ∀ (l1 l2 : List Nat) (fr : List Value) (ds : List Deferred) (w : World),
      (∀ j ∈ l1, match ops[j]? with
        | some p => noSel p.op = true ∧ (reads ops p).contains d = false ∧ p.dst ≠ some d ∧ (∀ e, p.dst = some e → (reads ops o).contains e = false) ∧ (rd = true → quiet p.op = true)
        | none => True) →
      (rd = true → w = w0) → noSel o.op = true →
      (∀ ds w, (rd = true → w = w0) → (execOp (F fr ds).eval o).run P w = .ok (.value v) w) →
      wpOps P ops Q (l1 ++ l2) (F (fr.set d v) ds) w → wpOps P ops Q (l1 ++ i :: l2) (F fr ds) w
  | [], l2, fr, ds, w, _, hw, hno, hrun, h => by
    simp only [List.nil_append] at h ⊢
    simp only [wpOps, ho]
    rw [if_pos (by simp [Region.wanted, hg])]
    left
    unfold Oper.wp
    rw [hrun ds w hw, Oper.upon_value, hd]
    rw [show (F fr ds).put (some d) v = F (fr.set d v) ds from dt rfl ds]
    exact h
  | j :: l1, l2, fr, ds, w, hj, hw, hno, hrun, h => by
    have hj0 := hj j (by simp)
    have hj1 : ∀ k ∈ l1, _ := fun k hk => hj k (by simp [hk])
    simp only [List.cons_append, wpOps] at h ⊢
    cases hp : ops[j]? with
    | none =>
      rw [hp] at h
      simp only at h ⊢
      exact sim hQ ho hd hg l1 l2 fr ds w hj1 hw hno hrun h
    | some p =>
      rw [hp] at h hj0
      simp only at h hj0 ⊢
      obtain ⟨hns, hrd, hpd, hpo, hqt⟩ := hj0
      rw [wanted_set (fr := fr) (v := v) (ds := ds) (ds' := ds) hrd] at h
      -- what comes of a put
      have key : ∀ (x : Value) (w' : World) (ds' : List Deferred), (rd = true → w' = w0) → wpOps P ops Q (l1 ++ l2) ((F (fr.set d v) ds').put p.dst x) w' → wpOps P ops Q (l1 ++ i :: l2) ((F fr ds').put p.dst x) w' := by
        intro x w' ds' hw' hk
        obtain ⟨g, g1, g2, g3⟩ := put_eq fr ds' p.dst x
        rw [g1] at hk ⊢
        rw [g2 _ _ _ hpd] at hk
        refine sim hQ ho hd hg l1 l2 (g fr) ds' w' hj1 hw' hno (fun ds2 w2 hw2 => ?_) hk
        rw [show execOp (F (g fr) ds2).eval o = execOp (F fr ds2).eval o from execOp_congr o hno fun y hy => g3 fr y ds2 ds2 fun e he hs => by
          exact reads_op (hpo e he) y hy hs]
        exact hrun ds2 w2 hw2
      by_cases hwt : Region.wanted p (yielded ops (F fr ds).tmps) = true
      · rw [if_pos hwt] at h ⊢
        rcases h with h | h
        · left
          unfold Oper.wp at h ⊢
          rw [exec_set (ds' := ds) hns hrd] at h
          cases hr : (execOp (F fr ds).eval p).run P w with
          | halt e w' =>
            rw [hr] at h
            cases e <;> first | exact h | exact hQ _ (F (fr.set d v) ds) _ w' rfl h
          | ok r w' =>
            rw [hr] at h
            have hw' : rd = true → w' = w0 := fun e => (quiet_run (hqt e) hr).1.trans (hw e)
            cases r with
            | value x => exact key x w' ds hw' h
            | skip => exact key undef w' ds hw' h
            | defer dd => exact key undef w' (dd :: ds) hw' h
            | enter f args =>
              have hnrd : rd = true → False := fun e => by obtain ⟨_, x, hx⟩ := quiet_run (hqt e) hr; cases hx
              rw [Oper.upon_enter] at h ⊢
              refine Calls.mono h fun e w'' he => ?_
              cases e with
              | returned x => exact key x w'' ds (fun e => (hnrd e).elim) he
              | panicked ch => exact hQ ch (F (fr.set d v) ds) _ w'' rfl he
              | outgrown => exact he
            | row r args =>
              have hnrd : rd = true → False := fun e => by obtain ⟨_, x, hx⟩ := quiet_run (hqt e) hr; cases hx
              rw [Oper.upon_row] at h ⊢
              exact Rows.mono h fun x w'' he => key x w'' ds (fun e => (hnrd e).elim) he
            | _ => exact h
        · right
          refine ⟨?_, h.2⟩
          have h1 := h.1
          unfold Oper.asks at h1 ⊢
          rw [exec_set (ds' := ds) hns hrd] at h1
          exact h1
      · rw [if_neg hwt] at h ⊢
        exact key undef w ds hw h

/-- All orders of what is left. -/
structure SC (P : Program) (ops : Array Oper) (Q : Exit → Act → World → Prop) (R : List Nat) (fr : List Value) (ds : List Deferred) (w : World) : Prop where
  out : ∀ π, LinExt ops R π → wpOps P ops Q π (F fr ds) w
/-- A region whose operations may be carried out in more than one order. -/
theorem cdraw {id : Nat} {l : List Oper} (hm : P.follows .mixedOrders = true) (hlow : (List.range l.toArray.size).all (fun i => (deps l.toArray i).all fun j => decide (j < i)) = true)
    (h : ∀ w', w'.heap = w.heap → w'.os = w.os → w'.tape = w.tape → w'.output = w.output → SC P l.toArray Q (List.range l.length) fr ds w') : CW P (.region id l.toArray true) Q fr ds w := by
  constructor
  refine wp_region_draw fun t => ?_
  have hs : Region.schedule (P.follows .mixedOrders) l.toArray t = Region.linearise .any l.toArray t := by
    unfold Region.schedule
    rw [hm]
    rfl
  rw [hs]
  have hl := linearise_lin hlow t
  have := (h { w with drawn := w.drawn + 1 } rfl rfl rfl rfl).out _ (by simpa using hl)
  exact this
theorem sc_nil (h : Q .normal (F fr ds) w) : SC P ops Q [] fr ds w := ⟨fun π hπ => by
  cases hπ with
  | z => exact h
  | s h _ => exact absurd (enabled_mem h) (by simp)⟩
/-- Those that may be next. -/
def nexts (ops : Array Oper) (R : List Nat) : List Nat := R.filter (enabled ops R)
theorem sc_all {R : List Nat} (h0 : R ≠ []) (h : ∀ i ∈ nexts ops R, ∃ o, ops[i]? = some o ∧ if Region.wanted o (yielded ops (F fr ds).tmps) then OW P o fr ds w (SC P ops Q (R.erase i)) Q else ∃ fr', Dt fr o.dst undef fr' ∧ SC P ops Q (R.erase i) fr' ds w) : SC P ops Q R fr ds w := ⟨fun π hπ => by
  cases hπ with
  | z => exact absurd rfl h0
  | @s _ π i hen ht =>
    obtain ⟨o, ho, hi⟩ := h i (List.mem_filter.2 ⟨enabled_mem hen, hen⟩)
    simp only [wpOps, ho]
    by_cases hw : Region.wanted o (yielded ops (F fr ds).tmps) = true
    · rw [if_pos hw] at hi ⊢
      exact .inl (hi.out _ fun fr' ds' w' hk => hk.out _ ht)
    · rw [if_neg hw] at hi ⊢
      obtain ⟨fr', hd, hk⟩ := hi
      exact hd.rw (hk.out _ ht)⟩
/-- One alone may be next. -/
theorem sc1 {R : List Nat} {i : Nat} {R' : List Nat} {dst : Option Tmp} {op : Op} {ty : TypeId} {pos : String} {after : Array Edge} (hn : nexts ops R = [i]) (hR : R.erase i = R') (ho : ops[i]? = some ⟨dst, op, ty, pos, after, none⟩)
    (h : OW P ⟨dst, op, ty, pos, after, none⟩ fr ds w (SC P ops Q R') Q) : SC P ops Q R fr ds w :=
  sc_all (by intro e; subst e; cases hn) fun j hj => by
    rw [hn] at hj
    simp at hj
    subst hj
    refine ⟨_, ho, ?_⟩
    rw [if_pos (by simp [Region.wanted]), hR]
    exact h
/-- Two may be next. -/
theorem sc2 {R : List Nat} {i j : Nat} {Ri Rj : List Nat} {oi oj : Oper} (hn : nexts ops R = [i, j]) (hRi : R.erase i = Ri) (hRj : R.erase j = Rj) (hi : ops[i]? = some oi) (hj : ops[j]? = some oj) (gi : oi.guard = none) (gj : oj.guard = none)
    (h1 : OW P oi fr ds w (SC P ops Q Ri) Q) (h2 : OW P oj fr ds w (SC P ops Q Rj) Q) : SC P ops Q R fr ds w :=
  sc_all (by intro e; subst e; cases hn) fun k hk => by
    rw [hn] at hk
    simp at hk
    rcases hk with rfl | rfl
    · refine ⟨_, hi, ?_⟩
      rw [if_pos (by simp [Region.wanted, gi]), hRi]
      exact h1
    · refine ⟨_, hj, ?_⟩
      rw [if_pos (by simp [Region.wanted, gj]), hRj]
      exact h2
theorem LinExt.mem {R π : List Nat} (h : LinExt ops R π) (hn : R.Nodup) : ∀ i, i ∈ R ↔ i ∈ π := by
  induction h with
  | z => simp
  | @s R π i hen t ih =>
    intro j
    have ih := ih (hn.erase i) j
    rw [hn.mem_erase_iff] at ih
    rw [List.mem_cons]
    by_cases e : j = i
    · subst e; simp [enabled_mem hen]
    · rw [← ih]; simp [e]
theorem LinExt.split {R π : List Nat} (h : LinExt ops R π) (hn : R.Nodup) {i : Nat} (hi : i ∈ R) (hen : enabled ops R i = true) :
    ∃ l1 l2, π = l1 ++ i :: l2 ∧ LinExt ops (R.erase i) (l1 ++ l2) ∧ ∀ j ∈ l1, j ∈ R ∧ j ≠ i ∧ i ∉ deps ops j := by
  induction h with
  | z => cases hi
  | @s R π k hk t ih =>
    by_cases e : k = i
    · subst e
      exact ⟨[], π, rfl, t, by simp⟩
    · have hin : i ∈ R.erase k := (hn.mem_erase_iff).2 ⟨fun h => e h.symm, hi⟩
      have hen' : enabled ops (R.erase k) i = true := by
        simp only [enabled, Bool.and_eq_true, List.contains_iff_mem, List.all_eq_true] at hen ⊢
        refine ⟨hin, fun j hj => ?_⟩
        have := hen.2 j hj
        simp only [Bool.not_eq_true', List.contains_eq_mem, decide_eq_false_iff_not] at this ⊢
        exact fun hm => this (List.mem_of_mem_erase hm)
      obtain ⟨l1, l2, h1, h2, h3⟩ := ih (hn.erase k) hin hen'
      refine ⟨k :: l1, l2, by rw [h1]; rfl, ?_, ?_⟩
      · refine .s ?_ (by rw [List.erase_comm]; exact h2)
        simp only [enabled, Bool.and_eq_true, List.contains_iff_mem, List.all_eq_true] at hk ⊢
        refine ⟨(hn.mem_erase_iff).2 ⟨e, hk.1⟩, fun j hj => ?_⟩
        have := hk.2 j hj
        simp only [Bool.not_eq_true', List.contains_eq_mem, decide_eq_false_iff_not] at this ⊢
        exact fun hm => this (List.mem_of_mem_erase hm)
      · intro j hj
        rcases List.mem_cons.1 hj with rfl | hj
        · exact ⟨enabled_mem hk, e, fun hd => enabled_dep hk hd hi⟩
        · obtain ⟨a, b, c⟩ := h3 j hj
          exact ⟨List.mem_of_mem_erase a, b, c⟩
/-- An operation that reckons alone, or (rd) looks at memory while the others do no more, is carried out first. -/
theorem sc_first {R R' : List Nat} {i : Nat} {rd : Bool} {dst : Tmp} {op : Op} {ty : TypeId} {pos : String} {after : Array Edge} {v : Value} (hQ : Blind Q) (hnd : (decide R.Nodup && enabled ops R i && apart ops rd R i) = true) (hR : R.erase i = R') (ho : ops[i]? = some ⟨some dst, op, ty, pos, after, none⟩)
    (hv : ∀ ds w', (rd = true → w' = w) → (execOp (F fr ds).eval ⟨some dst, op, ty, pos, after, none⟩).run P w' = .ok (.value v) w') (hp : Pt fr dst v fr') (h : SC P ops Q R' fr' ds w) : SC P ops Q R fr ds w := ⟨fun π hπ => by
  simp only [Bool.and_eq_true, decide_eq_true_eq] at hnd
  obtain ⟨⟨hn, hen⟩, hap⟩ := hnd
  obtain ⟨l1, l2, rfl, h2, h3⟩ := hπ.split hn (enabled_mem hen) hen
  unfold apart at hap
  simp only [ho, Bool.and_eq_true, List.all_eq_true, Bool.or_eq_true, beq_iff_eq, List.contains_iff_mem] at hap
  unfold Pt at hp
  subst hp
  subst hR
  refine sim hQ ho rfl rfl (rd := rd) (w0 := w) (v := v) l1 l2 fr ds w (fun j hj => ?_) (fun _ => rfl) hap.1 hv (h.out _ h2)
  obtain ⟨a, b, c⟩ := h3 j hj
  have := hap.2 j a
  rcases this with (h | h) | h
  · exact absurd h b
  · exact absurd h c
  · cases hp : ops[j]? with
    | none => trivial
    | some p =>
      rw [hp] at h
      simp only [Bool.and_eq_true, Bool.not_eq_true', bne_iff_ne, ne_eq, Bool.or_eq_true] at h
      obtain ⟨⟨⟨⟨q1, q2⟩, q3⟩, q4⟩, q5⟩ := h
      refine ⟨q1, q2, q3, fun e he => ?_, fun e => ?_⟩
      · rw [he] at q4; simpa using q4
      · rcases q5 with q5 | q5
        · rw [e] at q5; cases q5
        · exact q5⟩
theorem blind_of (h : ∀ ch a w, Q (.panic ch) a w → False) : Blind Q := fun ch a _ w _ hq => (h ch a w hq).elim
theorem sc_pu {R R' : List Nat} {i : Nat} {dst : Tmp} {op : Op} {ty : TypeId} {pos : String} {after : Array Edge} {v : Value} (hQ : Blind Q) (hnd : (decide R.Nodup && enabled ops R i && apart ops false R i) = true) (hR : R.erase i = R') (ho : ops[i]? = some ⟨some dst, op, ty, pos, after, none⟩)
    (hv : PU P ⟨some dst, op, ty, pos, after, none⟩ fr v) (hp : Pt fr dst v fr') (h : SC P ops Q R' fr' ds w) : SC P ops Q R fr ds w :=
  sc_first hQ hnd hR ho (fun ds w' _ => hv.out ds w') hp h
theorem sc_rd {R R' : List Nat} {i : Nat} {dst : Tmp} {op : Op} {ty : TypeId} {pos : String} {after : Array Edge} {v : Value} (hQ : Blind Q) (hnd : (decide R.Nodup && enabled ops R i && apart ops true R i) = true) (hR : R.erase i = R') (ho : ops[i]? = some ⟨some dst, op, ty, pos, after, none⟩)
    (hv : LU P ⟨some dst, op, ty, pos, after, none⟩ fr w v) (hp : Pt fr dst v fr') (h : SC P ops Q R' fr' ds w) : SC P ops Q R fr ds w :=
  sc_first hQ hnd hR ho (fun ds w' hw => by rw [hw rfl]; exact hv.out ds) hp h
end
end Go.Wk
