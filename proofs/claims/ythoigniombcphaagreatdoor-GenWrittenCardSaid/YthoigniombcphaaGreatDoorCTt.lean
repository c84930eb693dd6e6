/- GenWritten: the statement holds for every input; as the card says it (the listed variables are laid as the text lays them). -/
import Derived.Test.YthoigniombcphaaGreatDoorCXt
import Derived.ChangeSlices
import Derived.ChangeShapes
import Derived.Test.YthoigniombcphaaGreatDoorCMd
import Derived.ChangeArms
import Derived.Test.YthoigniombcphaaGreatDoorCPl
import Derived.SizedLaws
import Derived.Test.YthoigniombcphaaGreatDoorCards
import Derived.Test.YthoigniombcphaaGreatDoorTie
import Derived.WalkKit
import Derived.ProofKit
import Derived.OpenShut
import Derived.Deep.DeepHandedRow
import Derived.Lay
import Derived.Shelf.Vars
import Derived.Carry
import Derived.LaidSub
import Derived.MakeChecks
import Derived.Lib.LaidTab
import Derived.Test.YthoigniombcphaaGreatDoorCWl
import Derived.Test.YthoigniombcphaaGreatDoorCPm
set_option linter.unusedSimpArgs false
set_option linter.unusedVariables false
set_option linter.unusedSectionVars false
namespace Go.Dc
open Go.bc Go.RowKit Go.ChangeShapes
section
variable {H : Type} {enc : TypeId × Value → H} {P : Program} {W : World} {d : DataW H} {cg : List MemPlace} {v : Value}
theorem tG {w : World} {b i : Nat} {v : Value} (h : w.cell? ⟨b, i, none⟩ = some v) : b < w.heap.size := by
  refine Decidable.byContradiction fun a => ?_
  have : w.heap[b]? = none := Array.getElem?_eq_none (by omega)
  simp [World.cell?, this] at h
theorem yt {w w' : World} {b i : Nat} {v : Value} (h : w.cell? ⟨b, i, none⟩ = some v) (a : ∀ k, k < w.heap.size → w'.heap[k]? = w.heap[k]?) : w'.cell? ⟨b, i, none⟩ = some v := by
  have qa := tG h
  simpa [World.cell?, a b qa] using h
theorem tK {t e : TypeId} {μ : M} (r : P.underlying t = some (.slice e)) (he : P.underlying e = some (.int .i64)) (y : P.cellsOf e = 1) (h : DataW.Trod enc P W 0 (fun _ => true) true t v d cg) (z : v.cells.toList = [v])
    (A : ∀ w, μ w → ∀ k, k < W.heap.size → w.heap[k]? = W.heap[k]?) :
    ∃ (a : Option Addr) (c : Nat) (l : List Int), v = .slice a l.length c ∧ Ka μ a c l ∧ ∀ x ∈ l, -9223372036854775808 ≤ x ∧ x ≤ 9223372036854775807 := by
  obtain ⟨fuel, h⟩ := h
  rw [z] at h
  rcases open_ints r he y h with ⟨e, -⟩ | ⟨a, len, cap, g, e, -, H, B, C, -, m, D⟩
  · cases e
    exact ⟨none, 0, [], rfl, Ka.nil, by simp⟩
  · simp only [if_true] at C
    cases e
    have hlen : (g.take len).length = len := by rw [List.length_take]; omega
    refine ⟨some a, cap, g.take len, by rw [hlen], ⟨by omega, B, ?_⟩, fun x f => ?_⟩
    · by_cases E : len = 0
      · left; subst E; simp
      · right
        have n : a.spot = none := by
          have := m 0 (by omega)
          cases F : a.spot with
          | none => rfl
          | some q =>
            have e : (a.add 0).spot = some q := by simp [Addr.add, F]
            unfold World.cell? at this
            rw [e] at this
            simp at this
            split at this <;> cases this
        obtain ⟨b, o, s⟩ := a
        simp only at n
        subst n
        refine ⟨b, o, rfl, fun i => [.int .i64 (g.getD i 0)], fun i x f => ⟨fun w hw j u hu => ?_, ?_⟩⟩
        · have K : i < len := by
            have := (List.getElem?_eq_some_iff.1 f).1
            omega
          have G : j = 0 := by
            have := (List.getElem?_eq_some_iff.1 hu).1
            simpa using this
          subst G
          cases hu
          have p := m i (by omega)
          rw [Fi] at p
          have := yt p (A w hw)
          show w.cell? ⟨b, o + i * 1 + 0, none⟩ = _
          rw [Nat.mul_one, Nat.add_zero]
          exact this
        · rw [List.getElem?_take] at f
          split at f
          · show _ = _
            simp [List.getD_eq_getElem?_getD, f]
          · cases f
    · have := D x (List.mem_of_mem_take f)
      simpa [Lit.wf, IntKind.min, IntKind.max, IntKind.signed, IntKind.bits] using this
theorem BJ {t e : TypeId} {μ : M} (A : P.underlying t = some (.slice e)) (he : P.underlying e = some .bool) (B : P.cellsOf e = 1) (h : DataW.Trod enc P W 0 (fun _ => true) true t v d cg) (C : v.cells.toList = [v])
    (D : ∀ w, μ w → ∀ k, k < W.heap.size → w.heap[k]? = W.heap[k]?) :
    ∃ (a : Option Addr) (c : Nat) (l : List Bool), v = .slice a l.length c ∧ Ka μ a c l ∧ True := by
  obtain ⟨fuel, h⟩ := h
  rw [C] at h
  rcases DataW.trod_slice A h with ⟨e, -⟩ | ⟨a, len, cap, elems, rest, n, -, e, -, -, E, F, S, G, -⟩
  · cases e
    exact ⟨none, 0, [], rfl, Ka.nil, trivial⟩
  · cases e
    have each : ∀ i, i < len → ∃ q : Bool, W.cell? (a.add i) = some (.bool q) := by
      intro i g
      have p := G i g
      rw [B, Nat.mul_one] at p
      have H : i < elems.length := by omega
      rw [List.getElem?_eq_getElem H, Option.bind_eq_some_iff] at p
      obtain ⟨cs, K, L⟩ := p
      obtain ⟨q, rfl, -⟩ := DataW.trod_bool he L
      exact ⟨q, cell_of_cells?_one K⟩
    let f : Nat → Bool := fun i => if g : i < len then Classical.choose (each i g) else false
    have r : ∀ i, i < len → W.cell? (a.add i) = some (.bool (f i)) := fun i g => by
      simp only [f, dif_pos g]
      exact Classical.choose_spec (each i g)
    refine ⟨some a, cap, (List.range len).map f, by simp, ⟨by simpa using E, F, ?_⟩, trivial⟩
    by_cases N : len = 0
    · left; subst N; simp
    · right
      have y : a.spot = none := by
        have := r 0 (by omega)
        cases Q : a.spot with
        | none => rfl
        | some q =>
          have e : (a.add 0).spot = some q := by simp [Addr.add, Q]
          unfold World.cell? at this
          rw [e] at this
          simp at this
          split at this <;> cases this
      obtain ⟨b, o, s⟩ := a
      simp only at y
      subst y
      refine ⟨b, o, rfl, fun i => [.bool (f i)], fun i x m => ⟨fun w hw j u hu => ?_, ?_⟩⟩
      · have g : i < len := by
          have := (List.getElem?_eq_some_iff.1 m).1
          simpa using this
        have R : j = 0 := by
          have := (List.getElem?_eq_some_iff.1 hu).1
          simpa using this
        subst R
        cases hu
        have z := r i g
        rw [Fi] at z
        have := yt z (D w hw)
        show w.cell? ⟨b, o + i * 1 + 0, none⟩ = _
        rw [Nat.mul_one, Nat.add_zero]
        exact this
      · have g : i < len := by
          have := (List.getElem?_eq_some_iff.1 m).1
          simpa using this
        simp [g] at m
        show [Value.bool (f i)] = [Value.bool x]
        rw [m]
end
end Go.Dc
namespace Go.Dc
open Go.bc Go.RowKit Go.ChangeShapes Go.Y
section
variable {H : Type} {enc : TypeId × Value → H} {P : Program} {W : World} {sp : Nat → Bool} {held : Bool} {μ : M}
def Vn (W : World) (μ : M) : Prop := ∀ w, μ w → ∀ k, k < W.heap.size → w.heap[k]? = W.heap[k]?
theorem GF {α β : Type} {f : α → Option β} : ∀ {l : List α} {ys : List β}, l.mapM f = some ys → ∀ x ∈ l, ∃ y, f x = some y := by
  intro l
  induction l with
  | nil => intro ys _ x c; cases c
  | cons a l e =>
    intro ys h x c
    rw [List.mapM_cons] at h
    cases d : f a with
    | none => rw [d] at h; cases h
    | some b =>
      rw [d] at h
      cases qa : l.mapM f with
      | none => rw [qa] at h; cases h
      | some g =>
        rcases List.mem_cons.1 c with rfl | c
        · exact ⟨b, d⟩
        · exact e qa x c
structure We (P : Program) (T : TypeId) (b : List (TypeId × Nat)) (n : Nat) : Prop where
  out : ∃ a, P.underlying T = some (.struct a) ∧ (a.toList.map fun f => (f.type, f.offset)) = b ∧ P.cellsOf T = n
theorem We.size {T : TypeId} {a : List (TypeId × Nat)} {n : Nat} (h : We P T a n) : P.cellsOf T = n := by
  obtain ⟨b, -, -, h⟩ := h.out
  exact h
theorem ru {T : TypeId} {a : List (TypeId × Nat)} {n fuel : Nat} {cs : List Value} {r : DataW H × List MemPlace} (d : We P T a n) (h : DataW.trod enc P W 0 sp held (fuel + 1) T cs = some r) :
    cs.length = n ∧ ∀ p ∈ a, ∃ r', DataW.trod enc P W 0 sp held fuel p.1 ((cs.drop p.2).take (P.cellsOf p.1)) = some r' := by
  obtain ⟨b, hu, e, g⟩ := d.out
  by_cases qa : cs.length = P.cellsOf T
  · refine ⟨qa.trans g, ?_⟩
    have i : ∃ ys, b.toList.mapM (fun f => DataW.trod enc P W 0 sp held fuel f.type ((cs.drop f.offset).take (P.cellsOf f.type))) = some ys := by
      unfold DataW.trod at h
      simp only [hu, qa, if_true] at h
      cases hm : b.toList.mapM (fun f => DataW.trod enc P W 0 sp held fuel f.type ((cs.drop f.offset).take (P.cellsOf f.type))) with
      | none => rw [hm] at h; cases h
      | some ys => exact ⟨ys, rfl⟩
    obtain ⟨ys, j⟩ := i
    intro p c
    rw [← e] at c
    obtain ⟨f, k, rfl⟩ := List.mem_map.1 c
    exact GF j f k
  · unfold DataW.trod at h
    simp only [hu, qa, if_false] at h
    cases h
theorem Rm {t : TypeId} {fuel : Nat} {cs : List Value} {r : DataW H × List MemPlace} (a : P.underlying t = some (.int .i64)) (h : DataW.trod enc P W 0 sp held fuel t cs = some r) : ∃ n, cs = [.int .i64 n] := by
  obtain ⟨n, b, -, -⟩ := DataW.trod_int a h
  exact ⟨n, b⟩
theorem yp {t : TypeId} {fuel : Nat} {cs : List Value} {r : DataW H × List MemPlace} (a : P.underlying t = some .string) (h : DataW.trod enc P W 0 sp held fuel t cs = some r) : ∃ s, cs = [S s] := by
  obtain ⟨⟨⟨s⟩⟩, b, -, -⟩ := DataW.trod_string a h
  exact ⟨s, b⟩
theorem Pv {a : Addr} {m : Nat} {cs : List Value} (h : W.cells? 0 a m = some cs) : cs.length = m ∧ ∀ i v, cs[i]? = some v → W.cell? (a.add i) = some v := by
  unfold World.cells? at h
  rw [if_pos (Nat.zero_le _)] at h
  have qa := mapM_some_length h
  refine ⟨by simpa using qa, fun i v b => ?_⟩
  have c : i < m := by have := (List.getElem?_eq_some_iff.1 b).1; rw [qa] at this; simpa using this
  rw [← b]
  exact mapM_some_get h i i (by simp [c])
theorem Es {α : Type} [cb α] {fuel : Nat} {T e : TypeId} {cs : List Value} {r : DataW H × List MemPlace} (hu : P.underlying T = some (.slice e)) (hm : P.cellsOf e = cb.sz α) (z : Vn W μ) (h : DataW.trod enc P W 0 sp held fuel T cs = some r)
    (A : ∀ n cs r', n < fuel → DataW.trod enc P W 0 sp held n e cs = some r' → ∃ x : α, cb.cs μ cs x) : ∃ (a : Option Addr) (c : Nat) (l : List α), cs = [.slice a l.length c] ∧ Ka μ a c l := by
  rcases DataW.trod_slice hu h with ⟨rfl, -⟩ | ⟨a, len, cap, elems, rest, n, rfl, rfl, -, -, N, t, Q, B, -⟩
  · exact ⟨none, 0, [], rfl, Ka.nil⟩
  · rcases Nat.eq_zero_or_pos len with m | m
    · subst m
      exact ⟨some a, cap, [], rfl, ⟨by simp, t, .inl rfl⟩⟩
    · have each : ∀ i, i < len → ∃ cs, cs.length = cb.sz α ∧ (∀ j v, cs[j]? = some v → W.cell? ((a.add (i * cb.sz α)).add j) = some v) ∧ ∃ x : α, cb.cs μ cs x := by
        intro i d
        have he := B i d
        rw [hm] at he
        obtain ⟨y, C⟩ : ∃ y, elems[i]? = some y := ⟨_, List.getElem?_eq_getElem (by omega)⟩
        rw [C] at he
        cases k : W.cells? 0 (a.add (i * cb.sz α)) (cb.sz α) with
        | none => rw [k] at he; cases he
        | some cs =>
          rw [k] at he
          exact ⟨cs, (Pv k).1, (Pv k).2, A n cs y (Nat.lt_succ_self _) he⟩
      have u : a.spot = none := by
        obtain ⟨cs, qa, k, -⟩ := each 0 m
        have R := cb.pos (α := α)
        obtain ⟨v, D⟩ : ∃ v, cs[0]? = some v := ⟨_, List.getElem?_eq_getElem (by omega)⟩
        have := k 0 v D
        cases E : a.spot with
        | none => rfl
        | some q =>
          have e : ((a.add (0 * cb.sz α)).add 0).spot = some q := by simp [Addr.add, E]
          unfold World.cell? at this
          rw [e] at this
          simp at this
          split at this <;> cases this
      obtain ⟨b, o, s⟩ := a
      simp only at u
      subst u
      have F : ∃ g : Nat → List Value, ∃ f : Nat → α, ∀ i, i < len → (∀ j v, (g i)[j]? = some v → W.cell? (((⟨b, o, none⟩ : Addr).add (i * cb.sz α)).add j) = some v) ∧ cb.cs μ (g i) (f i) := by
        have ne : Nonempty α := by obtain ⟨_, -, -, x, -⟩ := each 0 m; exact ⟨x⟩
        refine ⟨fun i => if d : i < len then Classical.choose (each i d) else [], fun i => if d : i < len then Classical.choose (Classical.choose_spec (each i d)).2.2 else Classical.choice ne, fun i d => ?_⟩
        simp only [dif_pos d]
        exact ⟨(Classical.choose_spec (each i d)).2.1, Classical.choose_spec (Classical.choose_spec (each i d)).2.2⟩
      obtain ⟨g, f, G⟩ := F
      refine ⟨some ⟨b, o, none⟩, cap, (List.range' 0 len).map f, by simp, ⟨by simp; omega, t, .inr ⟨b, o, rfl, g, fun i x p => ?_⟩⟩⟩
      have d : i < len := by
        have := (List.getElem?_eq_some_iff.1 p).1
        simpa using this
      have K : x = f i := by
        rw [List.getElem?_map, List.getElem?_range' d] at p
        simpa using p.symm
      obtain ⟨k1, L⟩ := G i d
      rw [K]
      refine ⟨fun w hw j v M => ?_, L⟩
      have := k1 j v M
      rw [Fi, Fi] at this
      exact yt this (z w hw)
structure mn (P : Program) (vh Wj Eh Ai Lh Qj oi qi Si Rj ri rk : TypeId) : Prop where
  i : P.underlying vh = some (.int .i64)
  n : P.underlying Wj = some (.int .i64)
  s : P.underlying Eh = some .string
  ty : We P Ai [(vh, 0), (Eh, 1)] 2
  ex : We P Lh [(vh, 0), (Wj, 1), (Eh, 2), (Qj, 3)] 4
  es : P.underlying Qj = some (.slice Lh)
  st : We P oi [(vh, 0), (Eh, 1), (Lh, 2), (qi, 6), (qi, 7)] 8
  Vs : P.underlying qi = some (.slice oi)
  Iu : We P Si [(Eh, 0), (Ai, 1)] 3
  cg : P.underlying Rj = some (.slice Si)
  Ws : We P ri [(vh, 0), (Eh, 1), (Ai, 2), (Ai, 4), (vh, 6), (Rj, 7), (qi, 8)] 9
  ds : P.underlying rk = some (.slice ri)
  one : P.cellsOf vh = 1 ∧ P.cellsOf Wj = 1 ∧ P.cellsOf Eh = 1 ∧ P.cellsOf Qj = 1 ∧ P.cellsOf qi = 1 ∧ P.cellsOf Rj = 1
variable {vh Wj Eh Ai Lh Qj oi qi Si Rj ri rk : TypeId}
theorem su (L : mn P vh Wj Eh Ai Lh Qj oi qi Si Rj ri rk) {fuel : Nat} {cs : List Value} {r : DataW H × List MemPlace} (h : DataW.trod enc P W 0 sp held fuel Ai cs = some r) : ∃ t : Ya, cs = [.int .i64 t.Kind, S t.Nb] := by
  cases fuel with
  | zero => cases h
  | succ fuel =>
    obtain ⟨qa, c⟩ := ru L.ty h
    obtain ⟨_, d⟩ := c (vh, 0) (by simp)
    obtain ⟨_, e⟩ := c (Eh, 1) (by simp)
    simp only [L.one] at d e
    match cs, qa with
    | [a, b], _ =>
      obtain ⟨k, hb⟩ := Rm L.i d
      obtain ⟨g, sa⟩ := yp L.s e
      simp at hb sa
      subst hb; subst sa
      exact ⟨⟨k, g⟩, rfl⟩
theorem oI (L : mn P vh Wj Eh Ai Lh Qj oi qi Si Rj ri rk) (v : Vn W μ) : ∀ (n fuel : Nat) (cs : List Value) (r : DataW H × List MemPlace), fuel ≤ n → DataW.trod enc P W 0 sp held fuel Lh cs = some r → ∃ x : ua, cb.cs μ cs x := by
  intro n
  induction n with
  | zero => intro fuel cs r w h; cases fuel with | zero => cases h | succ f => omega
  | succ n y =>
    intro fuel cs r w h
    cases fuel with
    | zero => cases h
    | succ fuel =>
      obtain ⟨qa, e⟩ := ru L.ex h
      obtain ⟨_, j⟩ := e (vh, 0) (by simp)
      obtain ⟨_, o⟩ := e (Wj, 1) (by simp)
      obtain ⟨_, p⟩ := e (Eh, 2) (by simp)
      obtain ⟨_, q⟩ := e (Qj, 3) (by simp)
      simp only [L.one] at j o p q
      match cs, qa with
      | [a, b, c, d], _ =>
        obtain ⟨k, hb⟩ := Rm L.i j
        obtain ⟨m, sa⟩ := Rm L.n o
        obtain ⟨g, t⟩ := yp L.s p
        obtain ⟨z, tc, l, u, A⟩ := Es (α := ua) L.es L.ex.size v q fun f cs r' e h => y f cs r' (by omega) h
        simp at hb sa t u
        subst hb; subst sa; subst t; subst u
        exact ⟨⟨k, m, g, l⟩, ua.i ⟨z, tc, rfl, A⟩⟩
theorem pI (L : mn P vh Wj Eh Ai Lh Qj oi qi Si Rj ri rk) (j : Vn W μ) : ∀ (n fuel : Nat) (cs : List Value) (r : DataW H × List MemPlace), fuel ≤ n → DataW.trod enc P W 0 sp held fuel oi cs = some r → ∃ x : Wa, cb.cs μ cs x := by
  intro n
  induction n with
  | zero => intro fuel cs r z h; cases fuel with | zero => cases h | succ f => omega
  | succ n m =>
    intro fuel cs r z h
    cases fuel with
    | zero => cases h
    | succ fuel =>
      obtain ⟨qa, c⟩ := ru L.st h
      obtain ⟨_, p⟩ := c (vh, 0) (by simp)
      obtain ⟨_, q⟩ := c (Eh, 1) (by simp)
      obtain ⟨_, t⟩ := c (Lh, 2) (by simp)
      obtain ⟨_, u⟩ := c (qi, 6) (by simp)
      obtain ⟨_, v⟩ := c (qi, 7) (by simp)
      simp only [L.one, L.ex.size] at p q t u v
      match cs, qa with
      | [a, b, c0, F, c2, c3, d, e], _ =>
        obtain ⟨k, hb⟩ := Rm L.i p
        obtain ⟨g, sa⟩ := yp L.s q
        obtain ⟨x, A⟩ := oI L j _ _ _ _ (Nat.le_refl _) t
        obtain ⟨a2, B, l, w, C⟩ := Es (α := Wa) L.Vs L.st.size j u fun f cs r' c h => m f cs r' (by omega) h
        obtain ⟨a3, D, Ia, y, Af⟩ := Es (α := Wa) L.Vs L.st.size j v fun f cs r' c h => m f cs r' (by omega) h
        obtain ⟨xa, E, Ba, k1⟩ := ua.o A
        simp at hb sa w y Ba
        obtain ⟨rfl, rfl, rfl, rfl⟩ := Ba
        subst hb; subst sa; subst w; subst y
        exact ⟨⟨k, g, x, l, Ia⟩, Wa.i ⟨xa, E, a2, B, a3, D, rfl, k1, C, Af⟩⟩
theorem kC (L : mn P vh Wj Eh Ai Lh Qj oi qi Si Rj ri rk) {fuel : Nat} {cs : List Value} {r : DataW H × List MemPlace} (h : DataW.trod enc P W 0 sp held fuel Si cs = some r) : ∃ x : TParam, cb.cs μ cs x := by
  cases fuel with
  | zero => cases h
  | succ n =>
    obtain ⟨qa, d⟩ := ru L.Iu h
    obtain ⟨_, e⟩ := d (Eh, 0) (by simp)
    obtain ⟨_, f⟩ := d (Ai, 1) (by simp)
    simp only [L.one, L.ty.size] at e f
    match cs, qa with
    | [a, b, c], _ =>
      obtain ⟨Fg, hb⟩ := yp L.s e
      obtain ⟨t, sa⟩ := su L f
      simp at hb sa
      obtain ⟨rfl, rfl⟩ := sa
      subst hb
      exact ⟨⟨Fg, t⟩, rfl⟩
theorem qI (L : mn P vh Wj Eh Ai Lh Qj oi qi Si Rj ri rk) (d : Vn W μ) {fuel : Nat} {cs : List Value} {r : DataW H × List MemPlace} (h : DataW.trod enc P W 0 sp held fuel ri cs = some r) : ∃ x : va, cb.cs μ cs x := by
  cases fuel with
  | zero => cases h
  | succ fuel =>
    obtain ⟨qa, c⟩ := ru L.Ws h
    obtain ⟨_, j⟩ := c (vh, 0) (by simp)
    obtain ⟨_, m⟩ := c (Eh, 1) (by simp)
    obtain ⟨_, o⟩ := c (Ai, 2) (by simp)
    obtain ⟨_, p⟩ := c (Ai, 4) (by simp)
    obtain ⟨_, q⟩ := c (vh, 6) (by simp)
    obtain ⟨_, u⟩ := c (Rj, 7) (by simp)
    obtain ⟨_, v⟩ := c (qi, 8) (by simp)
    simp only [L.one, L.ty.size] at j m o p q u v
    match cs, qa with
    | [a, b, c0, G, d0, d1, e, f, g], _ =>
      obtain ⟨k, hb⟩ := Rm L.i j
      obtain ⟨Fg, sa⟩ := yp L.s m
      obtain ⟨t, w⟩ := su L o
      obtain ⟨ld, y⟩ := su L p
      obtain ⟨Nh, z⟩ := Rm L.i q
      obtain ⟨xa, C, l, A, D⟩ := Es (α := TParam) L.cg L.Iu.size d u fun n cs r' _ h => kC L h
      obtain ⟨a2, E, Ia, B, F⟩ := Es (α := Wa) L.Vs L.st.size d v fun n cs r' _ h => pI L d _ _ _ _ (Nat.le_refl _) h
      simp at hb sa w y z A B
      obtain ⟨rfl, rfl⟩ := w
      obtain ⟨rfl, rfl⟩ := y
      subst hb; subst sa; subst z; subst A; subst B
      exact ⟨⟨k, Fg, t, ld, Nh, l, Ia⟩, xa, C, a2, E, rfl, D, F⟩
theorem uK (L : mn P vh Wj Eh Ai Lh Qj oi qi Si Rj ri rk) (b : Vn W μ) {v : Value} {d : DataW H} {cg : List MemPlace} (h : DataW.Trod enc P W 0 sp held rk v d cg) (f : v.cells.toList = [v]) : ∃ (a : Option Addr) (c : Nat) (l : List va), v = .slice a l.length c ∧ Ka μ a c l := by
  obtain ⟨fuel, h⟩ := h
  obtain ⟨a, c, l, e, k⟩ := Es (α := va) L.ds L.Ws.size b h fun n cs r' _ h => qI L b h
  rw [f] at e
  cases e
  exact ⟨a, c, l, rfl, k⟩
end
end Go.Dc
namespace Go.Dc
open Go.bc Go.RowKit Go.ChangeShapes Go.Y
section
variable {H : Type} {enc : TypeId × Value → H} {P : Program} {W : World} {sp : Nat → Bool} {held : Bool} {μ : M}
def nn (P : Program) (T : TypeId) (d : DataW H) : Prop := ∀ n ∈ d.weights P T, n ≤ reachBytes
theorem HF {α β : Type} {f : α → Option β} : ∀ {l : List α} {ys : List β}, l.mapM f = some ys → ys.length = l.length ∧ ∀ (i : Nat) (x : α), l[i]? = some x → ∃ y, ys[i]? = some y ∧ f x = some y := by
  intro l
  induction l with
  | nil => intro ys h; cases h; exact ⟨rfl, fun i x c => by simp at c⟩
  | cons a l e =>
    intro ys h
    rw [List.mapM_cons] at h
    cases d : f a with
    | none => rw [d] at h; cases h
    | some b =>
      rw [d] at h
      cases qa : l.mapM f with
      | none => rw [qa] at h; cases h
      | some k =>
        rw [qa] at h
        cases h
        obtain ⟨g, j⟩ := e qa
        refine ⟨by simp [g], fun i x c => ?_⟩
        cases i with
        | zero => cases c; exact ⟨b, rfl, d⟩
        | succ i => exact j i x c
theorem my {T : TypeId} {a : List (TypeId × Nat)} {n fuel : Nat} {cs : List Value} {r : DataW H × List MemPlace} (e : We P T a n) (h : DataW.trod enc P W 0 sp held (fuel + 1) T cs = some r) (g : nn P T r.1) :
    cs.length = n ∧ ∀ (i : Nat) (p : TypeId × Nat), a[i]? = some p → ∃ r', DataW.trod enc P W 0 sp held fuel p.1 ((cs.drop p.2).take (P.cellsOf p.1)) = some r' ∧ nn P p.1 r'.1 := by
  obtain ⟨b, hu, l, m⟩ := e.out
  by_cases qa : cs.length = P.cellsOf T
  · refine ⟨qa.trans m, ?_⟩
    have o : ∃ ys, b.toList.mapM (fun f => DataW.trod enc P W 0 sp held fuel f.type ((cs.drop f.offset).take (P.cellsOf f.type))) = some ys ∧ r.1 = .agg (ys.map (·.1)) := by
      unfold DataW.trod at h
      simp only [hu, qa, if_true] at h
      cases hm : b.toList.mapM (fun f => DataW.trod enc P W 0 sp held fuel f.type ((cs.drop f.offset).take (P.cellsOf f.type))) with
      | none => rw [hm] at h; cases h
      | some ys => rw [hm] at h; cases h; exact ⟨ys, rfl, rfl⟩
    obtain ⟨ys, q, s⟩ := o
    obtain ⟨m1, m2⟩ := HF q
    intro i p c
    rw [← l, List.getElem?_map] at c
    obtain ⟨f, d, rfl⟩ := Option.map_eq_some_iff.1 c
    obtain ⟨y, t, u⟩ := m2 i f d
    refine ⟨y, u, fun k v => g k ?_⟩
    rw [s, DataW.weights, hu]
    exact DataW.weights_mem_each (j := i) (by rw [List.getElem?_map, d]; rfl) (by rw [List.getElem?_map, t]; rfl) k v
  · unfold DataW.trod at h
    simp only [hu, qa, if_false] at h
    cases h
theorem Sy {e : TypeId} : ∀ {ds : List (DataW H)} {i : Nat} {d : DataW H}, ds[i]? = some d → ∀ n ∈ d.weights P e, n ∈ DataW.weightsAll P e ds
  | d0 :: ds, 0, d, h, n, a => by
    cases h
    rw [DataW.weightsAll]
    exact List.mem_append.2 (.inl a)
  | d0 :: ds, i + 1, d, h, n, a => by
    rw [DataW.weightsAll]
    exact List.mem_append.2 (.inr (Sy (i := i) (by simpa using h) n a))
  | [], i, d, h, n, a => by simp at h
theorem Cs {α : Type} [cb α] {B : Nat} {Rz : α → Prop} {fuel : Nat} {T e : TypeId} {cs : List Value} {r : DataW H × List MemPlace} (hu : P.underlying T = some (.slice e)) (hm : P.cellsOf e = cb.sz α) (gc : reachBytes < (B + 1) * P.bytesOf e) (F : Vn W μ) (h : DataW.trod enc P W 0 sp held fuel T cs = some r) (z : nn P T r.1)
    (G : ∀ n cs r', n < fuel → DataW.trod enc P W 0 sp held n e cs = some r' → nn P e r'.1 → ∃ x : α, cb.cs μ cs x ∧ Rz x) : ∃ (a : Option Addr) (c : Nat) (l : List α), cs = [.slice a l.length c] ∧ Ka μ a c l ∧ l.length ≤ B ∧ ∀ x ∈ l, Rz x := by
  rcases DataW.trod_slice hu h with ⟨rfl, -⟩ | ⟨a, len, cap, elems, rest, n, rfl, rfl, A, -, lc, C, K, L, -⟩
  · exact ⟨none, 0, [], rfl, Ka.nil, by simp, by simp⟩
  · have hw : (elems.length + rest.length) * P.bytesOf e ≤ reachBytes := z _ (by rw [A]; simp [DataW.weights, hu])
    have rc : len ≤ B := by
      rw [K] at hw
      rcases Nat.lt_or_ge B len with c | c
      · have : (B + 1) * P.bytesOf e ≤ (len + rest.length) * P.bytesOf e := Nat.mul_le_mul_right _ (by omega)
        omega
      · exact c
    have M : ∀ (i : Nat) (y : DataW H × List MemPlace), elems[i]? = some y → nn P e y.1 := fun i y t k N => z k (by
      rw [A]
      simp only [DataW.weights, hu]
      refine List.mem_cons_of_mem _ (List.mem_append.2 (.inl ?_))
      exact Sy (i := i) (by rw [List.getElem?_map, t]; rfl) k N)
    rcases Nat.eq_zero_or_pos len with u | u
    · subst u
      exact ⟨some a, cap, [], rfl, ⟨by simp, C, .inl rfl⟩, by simp, by simp⟩
    · have each : ∀ i, i < len → ∃ cs, cs.length = cb.sz α ∧ (∀ j v, cs[j]? = some v → W.cell? ((a.add (i * cb.sz α)).add j) = some v) ∧ ∃ x : α, cb.cs μ cs x ∧ Rz x := by
        intro i d
        have he := L i d
        rw [hm] at he
        obtain ⟨y, t⟩ : ∃ y, elems[i]? = some y := ⟨_, List.getElem?_eq_getElem (by omega)⟩
        rw [t] at he
        cases m : W.cells? 0 (a.add (i * cb.sz α)) (cb.sz α) with
        | none => rw [m] at he; cases he
        | some cs =>
          rw [m] at he
          exact ⟨cs, (Pv m).1, (Pv m).2, G n cs y (Nat.lt_succ_self _) he (M i y t)⟩
      have D : a.spot = none := by
        obtain ⟨cs, qa, m, -⟩ := each 0 u
        have fd := cb.pos (α := α)
        obtain ⟨v, Q⟩ : ∃ v, cs[0]? = some v := ⟨_, List.getElem?_eq_getElem (by omega)⟩
        have := m 0 v Q
        cases R : a.spot with
        | none => rfl
        | some q =>
          have e : ((a.add (0 * cb.sz α)).add 0).spot = some q := by simp [Addr.add, R]
          unfold World.cell? at this
          rw [e] at this
          simp at this
          split at this <;> cases this
      obtain ⟨b, o, s⟩ := a
      simp only at D
      subst D
      have S : ∃ g : Nat → List Value, ∃ f : Nat → α, ∀ i, i < len → (∀ j v, (g i)[j]? = some v → W.cell? (((⟨b, o, none⟩ : Addr).add (i * cb.sz α)).add j) = some v) ∧ cb.cs μ (g i) (f i) ∧ Rz (f i) := by
        have ne : Nonempty α := by obtain ⟨_, -, -, x, -⟩ := each 0 u; exact ⟨x⟩
        refine ⟨fun i => if d : i < len then Classical.choose (each i d) else [], fun i => if d : i < len then Classical.choose (Classical.choose_spec (each i d)).2.2 else Classical.choice ne, fun i d => ?_⟩
        simp only [dif_pos d]
        exact ⟨(Classical.choose_spec (each i d)).2.1, Classical.choose_spec (Classical.choose_spec (each i d)).2.2⟩
      obtain ⟨g, f, E⟩ := S
      refine ⟨some ⟨b, o, none⟩, cap, (List.range' 0 len).map f, by simp, ⟨by simp; omega, C, .inr ⟨b, o, rfl, g, fun i x p => ?_⟩⟩, by simp; omega, fun x p => ?_⟩
      · have d : i < len := by
          have := (List.getElem?_eq_some_iff.1 p).1
          simpa using this
        have V : x = f i := by
          rw [List.getElem?_map, List.getElem?_range' d] at p
          simpa using p.symm
        obtain ⟨k1, X, -⟩ := E i d
        rw [V]
        refine ⟨fun w hw j v Y => ?_, X⟩
        have := k1 j v Y
        rw [Fi, Fi] at this
        exact yt this (F w hw)
      · obtain ⟨i, d, rfl⟩ := List.mem_map.1 p
        have Z : i < len := by simpa using (List.mem_range'_1.1 d).2
        exact (E i Z).2.2
structure Ju (P : Program) (Lh oi Si ri : TypeId) : Prop where
  ex : P.bytesOf Lh = 56
  st : P.bytesOf oi = 128
  Iu : P.bytesOf Si = 40
  Ws : P.bytesOf ri = 128
variable {vh Wj Eh Ai Lh Qj oi qi Si Rj ri rk : TypeId}
theorem xH (L : mn P vh Wj Eh Ai Lh Qj oi qi Si Rj ri rk) (Z : Ju P Lh oi Si ri) (v : Vn W μ) : ∀ (n fuel : Nat) (cs : List Value) (r : DataW H × List MemPlace), fuel ≤ n → DataW.trod enc P W 0 sp held fuel Lh cs = some r → nn P Lh r.1 → ∃ x : ua, cb.cs μ cs x ∧ Bq n x := by
  intro n
  induction n with
  | zero => intro fuel cs r w h; cases fuel with | zero => cases h | succ f => omega
  | succ n y =>
    intro fuel cs r w h A
    cases fuel with
    | zero => cases h
    | succ fuel =>
      obtain ⟨qa, e⟩ := my L.ex h A
      obtain ⟨_, j, -⟩ := e 0 (vh, 0) rfl
      obtain ⟨_, o, -⟩ := e 1 (Wj, 1) rfl
      obtain ⟨_, p, -⟩ := e 2 (Eh, 2) rfl
      obtain ⟨_, q, z3⟩ := e 3 (Qj, 3) rfl
      simp only [L.one] at j o p q
      match cs, qa with
      | [a, b, c, d], _ =>
        obtain ⟨k, hb⟩ := Rm L.i j
        obtain ⟨m, sa⟩ := Rm L.n o
        obtain ⟨g, t⟩ := yp L.s p
        obtain ⟨C, tc, l, u, D, s1, s2⟩ := Cs (α := ua) (B := 2513169434916) (Rz := Bq n) L.es L.ex.size (by rw [Z.ex]; decide) v q z3 fun f cs r' e h z => y f cs r' (by omega) h z
        simp at hb sa t u
        subst hb; subst sa; subst t; subst u
        exact ⟨⟨k, m, g, l⟩, ua.i ⟨C, tc, rfl, D⟩, s1, s2⟩
theorem yH (L : mn P vh Wj Eh Ai Lh Qj oi qi Si Rj ri rk) (Z : Ju P Lh oi Si ri) (j : Vn W μ) : ∀ (n fuel : Nat) (cs : List Value) (r : DataW H × List MemPlace), fuel ≤ n → DataW.trod enc P W 0 sp held fuel oi cs = some r → nn P oi r.1 → ∃ x : Wa, cb.cs μ cs x ∧ Zn n x := by
  intro n
  induction n with
  | zero => intro fuel cs r A h; cases fuel with | zero => cases h | succ f => omega
  | succ n m =>
    intro fuel cs r A h C
    cases fuel with
    | zero => cases h
    | succ fuel =>
      obtain ⟨qa, c⟩ := my L.st h C
      obtain ⟨_, p, -⟩ := c 0 (vh, 0) rfl
      obtain ⟨_, q, -⟩ := c 1 (Eh, 1) rfl
      obtain ⟨_, t, z2⟩ := c 2 (Lh, 2) rfl
      obtain ⟨_, u, z3⟩ := c 3 (qi, 6) rfl
      obtain ⟨_, v, z4⟩ := c 4 (qi, 7) rfl
      simp only [L.one, L.ex.size] at p q t u v
      match cs, qa with
      | [a, b, c0, R, c2, c3, d, e], _ =>
        obtain ⟨k, hb⟩ := Rm L.i p
        obtain ⟨g, sa⟩ := yp L.s q
        obtain ⟨x, D, E⟩ := xH L Z j n _ _ _ (by omega) t z2
        obtain ⟨a2, F, l, w, G, s1, s2⟩ := Cs (α := Wa) (B := 1099511627776) (Rz := Zn n) L.Vs L.st.size (by rw [Z.st]; decide) j u z3 fun f cs r' c h z => m f cs r' (by omega) h z
        obtain ⟨a3, K, Ia, y, Af, M, N⟩ := Cs (α := Wa) (B := 1099511627776) (Rz := Zn n) L.Vs L.st.size (by rw [Z.st]; decide) j v z4 fun f cs r' c h z => m f cs r' (by omega) h z
        obtain ⟨xa, Q, Ba, k1⟩ := ua.o D
        simp at hb sa w y Ba
        obtain ⟨rfl, rfl, rfl, rfl⟩ := Ba
        subst hb; subst sa; subst w; subst y
        exact ⟨⟨k, g, x, l, Ia⟩, Wa.i ⟨xa, Q, a2, F, a3, K, rfl, k1, G, Af⟩, E, ⟨s1, s2⟩, ⟨M, N⟩⟩
theorem zH (L : mn P vh Wj Eh Ai Lh Qj oi qi Si Rj ri rk) (Z : Ju P Lh oi Si ri) (d : Vn W μ) {n fuel : Nat} (S : fuel ≤ n) {cs : List Value} {r : DataW H × List MemPlace} (h : DataW.trod enc P W 0 sp held fuel ri cs = some r) (F : nn P ri r.1) : ∃ x : va, cb.cs μ cs x ∧ Fu n x := by
  cases fuel with
  | zero => cases h
  | succ fuel =>
    obtain ⟨qa, c⟩ := my L.Ws h F
    obtain ⟨_, j, -⟩ := c 0 (vh, 0) rfl
    obtain ⟨_, o, -⟩ := c 1 (Eh, 1) rfl
    obtain ⟨_, p, -⟩ := c 2 (Ai, 2) rfl
    obtain ⟨_, q, -⟩ := c 3 (Ai, 4) rfl
    obtain ⟨_, u, -⟩ := c 4 (vh, 6) rfl
    obtain ⟨_, v, z5⟩ := c 5 (Rj, 7) rfl
    obtain ⟨_, w, G⟩ := c 6 (qi, 8) rfl
    simp only [L.one, L.ty.size] at j o p q u v w
    match cs, qa with
    | [a, b, c0, T, d0, d1, e, f, g], _ =>
      obtain ⟨k, hb⟩ := Rm L.i j
      obtain ⟨Fg, sa⟩ := yp L.s o
      obtain ⟨t, y⟩ := su L p
      obtain ⟨ld, A⟩ := su L q
      obtain ⟨Nh, C⟩ := Rm L.i u
      obtain ⟨xa, K, l, D, M, s1, -⟩ := Cs (α := TParam) (B := 3518437208883) (Rz := fun _ => True) L.cg L.Iu.size (by rw [Z.Iu]; decide) d v z5 fun n cs r' _ h _ => (kC L h).imp fun _ h => ⟨h, trivial⟩
      obtain ⟨a2, N, Ia, E, Q, s2, R⟩ := Cs (α := Wa) (B := 1099511627776) (Rz := Zn n) L.Vs L.st.size (by rw [Z.st]; decide) d w G fun m cs r' hm h z => yH L Z d n m _ _ (by omega) h z
      simp at hb sa y A C D E
      obtain ⟨rfl, rfl⟩ := y
      obtain ⟨rfl, rfl⟩ := A
      subst hb; subst sa; subst C; subst D; subst E
      exact ⟨⟨k, Fg, t, ld, Nh, l, Ia⟩, ⟨xa, K, a2, N, rfl, M, Q⟩, s1, s2, R⟩
theorem IF (L : mn P vh Wj Eh Ai Lh Qj oi qi Si Rj ri rk) (Z : Ju P Lh oi Si ri) (b : Vn W μ) {v : Value} {d : DataW H} {cg : List MemPlace} (h : DataW.Trod enc P W 0 sp held rk v d cg) (f : nn P rk d) (g : v.cells.toList = [v]) : ∃ (a : Option Addr) (c : Nat) (l : List va) (k : Nat), v = .slice a l.length c ∧ Ka μ a c l ∧ Gu k l := by
  obtain ⟨fuel, h⟩ := h
  obtain ⟨a, c, l, e, k, s1, s2⟩ := Cs (α := va) (B := 1099511627776) (Rz := Fu fuel) L.ds L.Ws.size (by rw [Z.Ws]; decide) b h f fun n cs r' i h z => zH L Z b (by omega) h z
  rw [g] at e
  cases e
  exact ⟨a, c, l, fuel, rfl, k, s1, s2⟩
theorem rI {a us : List TypeId} {ds gs : List (DataW H)} (h : (DataW.weightsEach P (a ++ us) (ds ++ gs)).all (· ≤ reachBytes) = true) {j : Nat} {t : TypeId} {d : DataW H} (b : a[j]? = some t) (ya : ds[j]? = some d) : nn P t d := by
  intro n c
  refine of_decide_eq_true (List.all_eq_true.1 h n (DataW.weights_mem_each (j := j) (t := t) (d := d) ?_ ?_ n c))
  · rw [List.getElem?_append_left (List.getElem?_eq_some_iff.1 b).1]; exact b
  · rw [List.getElem?_append_left (List.getElem?_eq_some_iff.1 ya).1]; exact ya
end
end Go.Dc
namespace Go.Proofs.YthoigniombcphaaGreatDoor.genWritten
open Go.bc Go.Dc Go.Y Go.ChangeShapes Go.WideShapes Go.ChangeAt Go.RowKit
theorem uG {P : Program} {w : World} {n : String} {g : Nat} {k : IntKind} {a : List Int} (b : P.globalNamed n = some g) (h : Lib.TabIs P w n k a) : Mj (fun _ => True) w (fun w' => Lib.TabIs P w' n k a) := fun w' _ c => by
  unfold Lib.TabIs World.var? at h ⊢
  rw [b] at h ⊢
  simp only [Option.bind_some] at h ⊢
  have qa : g < w.heap.size := by
    refine Decidable.byContradiction fun d => ?_
    have : w.heap[g]? = none := Array.getElem?_eq_none (by omega)
    simp [this] at h
  rw [c g qa trivial]; exact h
theorem sI {fu : Nat} {c : List va} {a0 : Option Addr} {c0 : Nat} (W : World) (e : Mj (fun _ => True) W Fc) (m0 : Ka (fun w => Fc w ∧ ∀ k, k < W.heap.size → w.heap[k]? = W.heap[k]?) a0 c0 c) (f : Gt fu c = some true) :
    Sb Tryz.prog 3 [.slice a0 c.length c0] W fun v w => v = .bool true ∧ Grow W w := by
  have g : ka (fun w => Fc w ∧ ∀ k, k < W.heap.size → w.heap[k]? = W.heap[k]?) W W [] := Sep.start W _ _ (e.and fun w' _ i k d => i k d trivial)
  refine (sE (fu := fu) (fun _ h => h.1) m0 f g).mono ?_
  rintro v w' ⟨na, rfl, hle, b⟩
  have d := hle _ b.a
  exact ⟨rfl, b.keeps.os, b.keeps.tape, b.keeps.output, b.keeps.size, fun k j _ => d.2 k j⟩
theorem zJ : mn Tryz.prog 3 2 9 57 124 122 126 59 86 58 61 22 := ⟨Tryz.underlying3, Tryz.underlying2, Tryz.underlying9, ⟨⟨_, Tryz.underlying57, by kernel_rfl, by kernel_rfl⟩⟩, ⟨⟨_, Tryz.underlying124, by kernel_rfl, by kernel_rfl⟩⟩, Tryz.underlying122, ⟨⟨_, Tryz.underlying126, by kernel_rfl, by kernel_rfl⟩⟩, Tryz.underlying59, ⟨⟨_, Tryz.underlying86, by kernel_rfl, by kernel_rfl⟩⟩, Tryz.underlying58, ⟨⟨_, Tryz.underlying61, by kernel_rfl, by kernel_rfl⟩⟩, Tryz.underlying22, by kernel_rfl, by kernel_rfl, by kernel_rfl, by kernel_rfl, by kernel_rfl, by kernel_rfl⟩
theorem Kd : Ju Tryz.prog 124 126 86 61 := ⟨by kernel_rfl, by kernel_rfl, by kernel_rfl, by kernel_rfl⟩
theorem own : ownKnob Tryz.prog.godebug = none := by kernel_rfl
theorem laidOut : laidOutB Tryz.prog = true := by kernel_rfl
set_option maxRecDepth 100000 in
set_option maxHeartbeats 4000000 in
theorem JF (H : Type) (enc : TypeId × Value → H) (W : World) (base : Nat) (args : Array Value) (ds gs : List (DataW H)) (before : List MemPlace)
    (b : ∀ (j : Nat) t v, Tryz.f3.params[j]? = some t → args[j]? = some v → Value.okWide Tryz.prog W .any base t v)
    (f : DataW.Whole enc Tryz.prog Tryz.f3.params.toList Rows.genWrittenSpec.vars false W args.toList ds gs before) (z : ∀ (j : Nat) t d, Tryz.f3.params.toList[j]? = some t → ds[j]? = some d → nn Tryz.prog t d) (A : laidMetH Tryz.prog Rows.genWrittenRow.laid W) (B : W.ShapedOpen Tryz.prog) :
    Calls Tryz.prog 3 args W fun e i => ∃ v, e = .returned v ∧ Rows.genWrittenSpec.post enc Tryz.prog Tryz.f3 false true false false W args v i := by
  have a := f
  obtain ⟨p, q, o, C, rfl, X, Y⟩ := f
  have r : DataW.TrodAll enc Tryz.prog W 0 (fun _ => true) true Tryz.f3.params.toList args.toList ds p := o
  rw [Tryz.params3] at r b
  obtain ⟨v0, Z, D, gc, Ga, lc, rc, rfl, rfl, s, E⟩ := trodAll_cons r
  obtain ⟨rfl, rfl, rfl⟩ := trodAll_nil E
  obtain rfl : args = #[v0] := by cases args; simp_all
  obtain ⟨rfl, rfl⟩ := trodVars_none C
  clear o
  simp only [List.append_nil] at a
  have F := a.lt
  have G : v0.cells.toList = [v0] := by obtain ⟨_, _, _, rfl⟩ := okWide_slice Tryz.underlying22 (b 0 22 v0 rfl rfl); rfl
  obtain ⟨a0, c0, fd, z0, K, m0, L⟩ := IF (μ := fun w => Fc w ∧ ∀ k, k < W.heap.size → w.heap[k]? = W.heap[k]?) zJ Kd (fun w h => h.2) s (z 0 22 D (by rw [Tryz.params3]; rfl) rfl) G
  obtain ⟨m, hm⟩ := cell_of_shapedOpen_int (P := Tryz.prog) (g := 3) (t := 3) (zero := #[.int .i64 0]) B (of_decide_eq_true (by kernel_rfl)) (by kernel_rfl) (by kernel_rfl) (by kernel_rfl) (by kernel_rfl) Tryz.underlying3
  have M : ∀ l : List (String × DataW Unit), Rows.genWrittenRow.laid.filter (fun x => l.map (·.1) == [x.1]) = l → (l.all fun x => x.2.handleName?.isNone) = true → laidMet Tryz.prog l W := fun l qa N => by
    have := laidMetH.filter (fun x => l.map (·.1) == [x.1]) A
    rw [qa, MakeChecks.laidMetH_plain _ _ _ N] at this
    exact this
  have Q : Lib.TabIs Tryz.prog W "internal/strconv.uint64pow10" .u64 Lib.pow10Tab :=
    Lib.tabIs_of_head (g := 2) (t := 203) (e := 159) (n := 20) (by kernel_rfl) (by kernel_rfl) (by kernel_rfl) (by kernel_rfl) (by kernel_rfl) (by kernel_rfl) (M [("internal/strconv.uint64pow10", Rows.laid_internal_strconv_uint64pow10)] (by rfl) (by kernel_rfl))
  have R : Mj (fun _ => True) W Fc := fun w' S u => ⟨⟨m, yt hm fun k T => u k T trivial⟩, uG (g := 2) (by kernel_rfl) Q w' S u⟩
  have walk := (sI W R m0 (BD _ _ L)).out
  rw [← K] at walk
  refine walk.mono fun e i he => ?_
  cases e with
  | panicked c => exact he.elim
  | outgrown => exact he.elim
  | returned v =>
    obtain ⟨rfl, y⟩ := he
    exact ⟨_, rfl, _, _, _, [], _, [], a, trodAll_cons_mk (shut_bool Tryz.underlying4 _) trodAll_mk0, (trodAll_cons_mk (Below.trod laidOut (by kernel_rfl) (of_decide_eq_true (by kernel_rfl)) s y.below (fun x V => F x (by simp [V]))) trodAll_mk0), rfl, y.below.frame _, fun h => by cases h⟩
theorem AJ : (World.laidAll Tryz.prog default Rows.genWrittenRow.laid).os = default := World.laidAll_os _ _ _
set_option maxRecDepth 100000 in
theorem lifted (os : Os) (started : os.Started) (H : Type) (enc : TypeId × Value → H) (F : Stop.Interp) :
    ReturnsInHanded {} Tryz.checked os 3 .any ((OpenSpec.ofChange Rows.genWrittenSpec).preRow enc Tryz.prog Tryz.f3 Rows.genWrittenRow.domain false Rows.genWrittenRow.laid) (((OpenSpec.ofChange Rows.genWrittenSpec).at F).post enc Tryz.prog Tryz.f3 false true false false) := by
  have a : ∃ places, DataW.whole enc Tryz.prog ((World.laidAll Tryz.prog os Rows.genWrittenRow.laid).forCall (fun _ _ => 0) ⟨#[], #[.slice none 0 0], []⟩).memory Tryz.f3.params.toList Rows.genWrittenSpec.vars false (#[.slice none 0 0] : Array Value).toList 8 = some ([.nil], [], places) := ⟨[], by kernel_rfl⟩
  obtain ⟨places, a⟩ := a
  have b : Input.okWideB Tryz.prog ((World.laidAll Tryz.prog os Rows.genWrittenRow.laid).forCall (fun _ _ => 0) ⟨#[], #[.slice none 0 0], []⟩) 3 ⟨#[], #[.slice none 0 0], []⟩ = true := by kernel_rfl
  refine returnsInHanded_of_row (C := Tryz.checked) (s := OpenSpec.ofChange Rows.genWrittenSpec) own started (by kernel_rfl) Tryz.func3
    ⟨World.laidAll Tryz.prog os Rows.genWrittenRow.laid, fun _ _ => 0, ⟨#[], #[.slice none 0 0], []⟩, World.laidAll_os _ _ _, World.shaped_of_ZipB (by kernel_rfl) (by kernel_rfl), (Input.okWide_of_okWideB (base := 0) b).1, (Input.okWide_of_okWideB b).2,
      OpenSpec.preRow_of_cond 8 a (by kernel_rfl) (fun k c => by cases c) (by kernel_rfl) (by rw [MakeChecks.laidMetH_plain _ _ _ (by kernel_rfl)]; exact laidMet_laidAll _ (by kernel_rfl) (by kernel_rfl)), by
        simp only [Assume.holds]
        exact ⟨by simp, by simp, fun _ => Modest.zero, by simp, by simp⟩⟩ ?_
  intro W base args ds gs before e f _ c g h i _
  exact JF H enc W base args ds gs before e f (fun j t d l ya => rI g l ya) h i
theorem said : Rows.GenWrittenSaid :=
  OpenClaim.holds_of_cond 3 Tryz.f3 rfl rfl rfl rfl rfl rfl rfl ⟨rfl, rfl, rfl, rfl, rfl⟩ rfl rfl rfl rfl rfl (by kernel_rfl) Tryz.func3 (by kernel_rfl)
    (of_decide_eq_true (by kernel_rfl)) (by unfold Func.isWrapper; first | (rw [if_pos (by decide +kernel)]; kernel_rfl) | (rw [if_neg (by decide +kernel)]; exact ⟨rfl, rfl⟩))
    (fun os started H enc _ F => by rw [OpenClaim.pre_eq_preRow]; exact lifted os started H enc F)
theorem plain (f : FuncId) (fn : Func) (b : Tryz.pinned.checked.prog.funcNamed Rows.genWrittenRow.func = some f) (c : Tryz.pinned.checked.prog.funcs[f]? = some fn) :
    true = Tryz.pinned.checked.prog.looks [] ∧ ∀ (j : Nat) t, fn.params[j]? = some t → Tryz.pinned.checked.prog.wantsStandIn t = false := by
  obtain rfl : f = 3 := Option.some.inj ((show Tryz.prog.funcNamed Rows.genWrittenRow.func = some 3 by kernel_rfl).symm.trans b) |>.symm
  obtain rfl : fn = Tryz.f3 := (Option.some.inj (Tryz.func3.symm.trans c)).symm
  refine ⟨by kernel_rfl, fun j t a => ?_⟩
  rw [Tryz.params3] at a
  have hm : t ∈ [22] := by
    first
      | simpa using Array.mem_of_getElem? a
      | (have := Array.mem_of_getElem? a; simp at this ⊢; exact this.symm)
  simp only [List.mem_cons, List.not_mem_nil, or_false] at hm
  try (rcases hm with rfl | rfl)
  try subst hm
  exact (show Tryz.prog.wantsStandIn 22 = false by kernel_rfl)
theorem card : Rows.GenWrittenCardSaid :=
  Claim7.holds_tied_plain_at .later [] _ _ _ _ said (fun _ h => by cases h) (by kernel_rfl) (fun _ h => by cases h) genWritten_row_tie rfl ⟨rfl, rfl⟩ (by kernel_rfl) rfl plain (by kernel_rfl)
end Go.Proofs.YthoigniombcphaaGreatDoor.genWritten
