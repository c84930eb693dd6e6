/- GenVerified: the statement holds for every input; as the card says it (the listed variables are laid as the text lays them). -/
import Derived.Test.YtfmlfolepjbgaaaGreatDoorCXt
import Derived.ChangeSlices
import Derived.ChangeShapes
import Derived.Test.YtfmlfolepjbgaaaGreatDoorCMd
import Derived.ChangeArms
import Derived.Test.YtfmlfolepjbgaaaGreatDoorCPl
import Derived.SizedLaws
import Derived.Test.YtfmlfolepjbgaaaGreatDoorCards
import Derived.Test.YtfmlfolepjbgaaaGreatDoorTie
import Derived.WalkKit
import Derived.ProofKit
import Derived.OpenShut
import Derived.Deep.DeepHandedRow
import Derived.Lay
import Derived.Shelf.Vars
import Derived.Carry
import Derived.Test.YtfmlfolepjbgaaaGreatDoorCWl
import Derived.Test.YtfmlfolepjbgaaaGreatDoorCPm
set_option linter.unusedSimpArgs false
set_option linter.unusedVariables false
set_option linter.unusedSectionVars false
namespace Go.sd
open Go.oc Go.RowKit Go.ChangeShapes
section
variable {H : Type}{enc : TypeId × Value → H}{P : Program}{W : World}{d : DataW H}{hg : List MemPlace}{v : Value}
theorem OH {w : World}{b i : Nat}{v : Value}(h : w.cell? ⟨b, i, none⟩ = some v) : b < w.heap.size := by
  refine Decidable.byContradiction fun a => ?_;have : w.heap[b]? = none := Array.getElem?_eq_none (by omega);simp [World.cell?, this] at h
theorem ku {w w' : World}{b i : Nat}{v : Value}(h : w.cell? ⟨b, i, none⟩ = some v) (a : ∀ k, k < w.heap.size → w'.heap[k]? = w.heap[k]?) : w'.cell? ⟨b, i, none⟩ = some v := by
  have qa := OH h;simpa [World.cell?, a b qa] using h
theorem EL {t e : TypeId}{μ : M}(r : P.underlying t = some (.slice e)) (he : P.underlying e = some (.int .i64)) (y : P.cellsOf e = 1) (h : DataW.Trod enc P W 0 (fun _ => true) true t v d hg) (Ab : v.cells.toList = [v])
    (z : ∀ w, μ w → ∀ k, k < W.heap.size → w.heap[k]? = W.heap[k]?) :
    ∃ (a : Option Addr) (c : Nat) (l : List Int), v = .slice a l.length c ∧ Ra μ a c l ∧ ∀ x ∈ l, -9223372036854775808 ≤ x ∧ x ≤ 9223372036854775807 := by
  obtain ⟨fuel, h⟩ := h;rw [Ab] at h;rcases open_ints r he y h with ⟨e, -⟩ | ⟨a, len, cap, g, e, -, F, A, B, -, m, C⟩
  · cases e;exact ⟨none, 0, [], rfl, Ra.nil, by simp⟩
  · simp only [if_true] at B;cases e;have hlen : (g.take len).length = len := by rw [List.length_take];omega
    refine ⟨some a, cap, g.take len, by rw [hlen], ⟨by omega, A, ?_⟩, fun x f => ?_⟩
    · by_cases D : len = 0
      · left;subst D;simp
      · right;have n : a.spot = none := by
          have := m 0 (by omega);cases hs : a.spot with
          | none => rfl
          | some q =>
            have e : (a.add 0).spot = some q := by simp [Addr.add, hs]
            unfold World.cell? at this;rw [e] at this;simp at this;split at this<;>cases this
        obtain ⟨b, o, s⟩ := a;simp only at n;subst n;refine ⟨b, o, rfl, fun i => [.int .i64 (g.getD i 0)], fun i x f => ⟨fun w hw j u hu => ?_, ?_⟩⟩
        · have G : i < len := by
            have := (List.getElem?_eq_some_iff.1 f).1;omega
          have E : j = 0 := by
            have := (List.getElem?_eq_some_iff.1 hu).1;simpa using this
          subst E;cases hu;have p := m i (by omega);rw [Lj] at p;have := ku p (z w hw);show w.cell? ⟨b, o + i * 1 + 0, none⟩ = _;rw [Nat.mul_one, Nat.add_zero];exact this
        · rw [List.getElem?_take] at f;split at f
          · show _ = _;simp [List.getD_eq_getElem?_getD, f]
          · cases f
    · have := C x (List.mem_of_mem_take f);simpa [Lit.wf, IntKind.min, IntKind.max, IntKind.signed, IntKind.bits] using this
theorem HK {t e : TypeId}{μ : M}(A : P.underlying t = some (.slice e)) (he : P.underlying e = some .bool) (B : P.cellsOf e = 1) (h : DataW.Trod enc P W 0 (fun _ => true) true t v d hg) (Ab : v.cells.toList = [v])
    (C : ∀ w, μ w → ∀ k, k < W.heap.size → w.heap[k]? = W.heap[k]?) :
    ∃ (a : Option Addr) (c : Nat) (l : List Bool), v = .slice a l.length c ∧ Ra μ a c l ∧ True := by
  obtain ⟨fuel, h⟩ := h;rw [Ab] at h;rcases DataW.trod_slice A h with ⟨e, -⟩ | ⟨a, len, cap, elems, rest, n, -, e, -, -, D, E, Q, F, -⟩
  · cases e;exact ⟨none, 0, [], rfl, Ra.nil, trivial⟩
  · cases e;have each : ∀ i, i < len → ∃ q : Bool, W.cell? (a.add i) = some (.bool q):= by
      intro i g;have p := F i g;rw [B, Nat.mul_one] at p;have G : i < elems.length := by omega
      rw [List.getElem?_eq_getElem G, Option.bind_eq_some_iff] at p;obtain ⟨cs, H, K⟩ := p;obtain ⟨q, rfl, -⟩ := DataW.trod_bool he K;exact ⟨q, cell_of_cells?_one H⟩
    let f : Nat → Bool := fun i => if g : i < len then Classical.choose (each i g) else false
    have r : ∀ i, i < len → W.cell? (a.add i) = some (.bool (f i)):= fun i g => by
      simp only [f, dif_pos g];exact Classical.choose_spec (each i g)
    refine ⟨some a, cap, (List.range len).map f, by simp, ⟨by simpa using D, E, ?_⟩, trivial⟩;by_cases L : len = 0
    · left;subst L;simp
    · right;have y : a.spot = none := by
        have := r 0 (by omega);cases hs : a.spot with
        | none => rfl
        | some q =>
          have e : (a.add 0).spot = some q := by simp [Addr.add, hs]
          unfold World.cell? at this;rw [e] at this;simp at this;split at this<;>cases this
      obtain ⟨b, o, s⟩ := a;simp only at y;subst y;refine ⟨b, o, rfl, fun i => [.bool (f i)], fun i x m => ⟨fun w hw j u hu => ?_, ?_⟩⟩
      · have g : i < len := by
          have := (List.getElem?_eq_some_iff.1 m).1;simpa using this
        have N : j = 0 := by
          have := (List.getElem?_eq_some_iff.1 hu).1;simpa using this
        subst N;cases hu;have z := r i g;rw [Lj] at z;have := ku z (C w hw);show w.cell? ⟨b, o + i * 1 + 0, none⟩ = _;rw [Nat.mul_one, Nat.add_zero];exact this
      · have g : i < len := by
          have := (List.getElem?_eq_some_iff.1 m).1;simpa using this
        simp [g] at m;show [Value.bool (f i)] = [Value.bool x];rw [m]
end
end Go.sd
namespace Go.sd
open Go.oc Go.RowKit Go.ChangeShapes Go.Y
section
variable {H : Type}{enc : TypeId × Value → H}{P : Program}{W : World}{sp : Nat → Bool}{held : Bool}{μ : M}
def Xn (W : World) (μ : M) : Prop := ∀ w, μ w → ∀ k, k < W.heap.size → w.heap[k]? = W.heap[k]?
theorem VG {α β : Type}{f : α → Option β} : ∀ {l : List α}{ys : List β}, l.mapM f = some ys → ∀ x ∈ l, ∃ y, f x = some y := by
  intro l
  induction l with
  | nil => intro ys _ x c; cases c
  | cons a l e =>
    intro ys h x c;rw [List.mapM_cons] at h;cases d : f a with
    | none => rw [d] at h; cases h
    | some b =>
      rw [d] at h;cases qa : l.mapM f with
      | none => rw [qa] at h; cases h
      | some Dd =>
        rcases List.mem_cons.1 c with rfl | c
        · exact ⟨b, d⟩
        · exact e qa x c
structure gf (P : Program) (T : TypeId) (b : List (TypeId × Nat)) (n : Nat) : Prop where
  out : ∃ a, P.underlying T = some (.struct a) ∧ (a.toList.map fun f => (f.type, f.offset)) = b ∧ P.cellsOf T = n
theorem gf.size {T : TypeId}{a : List (TypeId × Nat)}{n : Nat}(h : gf P T a n) : P.cellsOf T = n := by
  obtain ⟨b, -, -, h⟩ := h.out;exact h
theorem Vu {T : TypeId}{a : List (TypeId × Nat)}{n fuel : Nat}{cs : List Value}{r : DataW H × List MemPlace}(hs : gf P T a n) (h : DataW.trod enc P W 0 sp held (fuel + 1) T cs = some r) :
    cs.length = n ∧ ∀ p ∈ a, ∃ r', DataW.trod enc P W 0 sp held fuel p.1 ((cs.drop p.2).take (P.cellsOf p.1)) = some r' := by
  obtain ⟨b, hu, d, e⟩ := hs.out;by_cases qa : cs.length = P.cellsOf T
  · refine ⟨qa.trans e, ?_⟩;have g : ∃ ys, b.toList.mapM (fun f => DataW.trod enc P W 0 sp held fuel f.type ((cs.drop f.offset).take (P.cellsOf f.type))) = some ys := by
      unfold DataW.trod at h;simp only [hu, qa, if_true] at h;cases hm : b.toList.mapM (fun f => DataW.trod enc P W 0 sp held fuel f.type ((cs.drop f.offset).take (P.cellsOf f.type))) with
      | none => rw [hm] at h; cases h
      | some ys => exact ⟨ys, rfl⟩
    obtain ⟨ys, i⟩ := g;intro p c;rw [← d] at c;obtain ⟨f, j, rfl⟩ := List.mem_map.1 c;exact VG i f j
  · unfold DataW.trod at h;simp only [hu, qa, if_false] at h;cases h
theorem Im {t : TypeId}{fuel : Nat}{cs : List Value}{r : DataW H × List MemPlace}(a : P.underlying t = some (.int .i64)) (h : DataW.trod enc P W 0 sp held fuel t cs = some r) : ∃ n, cs = [.int .i64 n]:= by
  obtain ⟨n, b, -, -⟩ := DataW.trod_int a h;exact ⟨n, b⟩
theorem Tp {t : TypeId}{fuel : Nat}{cs : List Value}{r : DataW H × List MemPlace}(a : P.underlying t = some .string) (h : DataW.trod enc P W 0 sp held fuel t cs = some r) : ∃ s, cs = [S s]:= by
  obtain ⟨⟨⟨s⟩⟩, b, -, -⟩ := DataW.trod_string a h;exact ⟨s, b⟩
theorem Bw {a : Addr}{m : Nat}{cs : List Value}(h : W.cells? 0 a m = some cs) : cs.length = m ∧ ∀ i v, cs[i]? = some v → W.cell? (a.add i) = some v := by
  unfold World.cells? at h;rw [if_pos (Nat.zero_le _)] at h;have qa := mapM_some_length h;refine ⟨by simpa using qa, fun i v b => ?_⟩;have c : i < m := by have := (List.getElem?_eq_some_iff.1 b).1;rw [qa] at this;simpa using this
  rw [← b];exact mapM_some_get h i i (by simp [c])
theorem ht {α : Type}[Sa α]{fuel : Nat}{T e : TypeId}{cs : List Value}{r : DataW H × List MemPlace}(hu : P.underlying T = some (.slice e)) (hm : P.cellsOf e = Sa.sz α) (z : Xn W μ) (h : DataW.trod enc P W 0 sp held fuel T cs = some r)
    (A : ∀ n cs r', n < fuel → DataW.trod enc P W 0 sp held n e cs = some r' → ∃ x : α, Sa.cs μ cs x) : ∃ (a : Option Addr) (c : Nat) (l : List α), cs = [.slice a l.length c] ∧ Ra μ a c l := by
  rcases DataW.trod_slice hu h with ⟨rfl, -⟩ | ⟨a, len, cap, elems, rest, n, rfl, rfl, -, -, L, t, M, B, -⟩
  · exact ⟨none, 0, [], rfl, Ra.nil⟩
  · rcases Nat.eq_zero_or_pos len with m | m
    · subst m;exact ⟨some a, cap, [], rfl, ⟨by simp, t, .inl rfl⟩⟩
    · have each : ∀ i, i < len → ∃ cs, cs.length = Sa.sz α ∧ (∀ j v, cs[j]? = some v → W.cell? ((a.add (i * Sa.sz α)).add j) = some v) ∧ ∃ x : α, Sa.cs μ cs x := by
        intro i d;have he := B i d;rw [hm] at he;obtain ⟨y, C⟩ : ∃ y, elems[i]? = some y := ⟨_, List.getElem?_eq_getElem (by omega)⟩;rw [C] at he;cases k : W.cells? 0 (a.add (i * Sa.sz α)) (Sa.sz α) with
        | none => rw [k] at he; cases he
        | some cs =>
          rw [k] at he;exact ⟨cs, (Bw k).1, (Bw k).2, A n cs y (Nat.lt_succ_self _) he⟩
      have u : a.spot = none := by
        obtain ⟨cs, qa, k, -⟩ := each 0 m;have N := Sa.pos (α := α);obtain ⟨v, Ab⟩ : ∃ v, cs[0]? = some v := ⟨_, List.getElem?_eq_getElem (by omega)⟩;have := k 0 v Ab;cases hs : a.spot with
        | none => rfl
        | some q =>
          have e : ((a.add (0 * Sa.sz α)).add 0).spot = some q := by simp [Addr.add, hs]
          unfold World.cell? at this;rw [e] at this;simp at this;split at this<;>cases this
      obtain ⟨b, o, s⟩ := a;simp only at u;subst u;have D : ∃ g : Nat → List Value, ∃ f : Nat → α, ∀ i, i < len → (∀ j v, (g i)[j]? = some v → W.cell? (((⟨b, o, none⟩ : Addr).add (i * Sa.sz α)).add j) = some v) ∧ Sa.cs μ (g i) (f i):= by
        have ne : Nonempty α := by obtain ⟨_, -, -, x, -⟩ := each 0 m;exact ⟨x⟩
        refine ⟨fun i => if d : i < len then Classical.choose (each i d) else [], fun i => if d : i < len then Classical.choose (Classical.choose_spec (each i d)).2.2 else Classical.choice ne, fun i d => ?_⟩;simp only [dif_pos d];exact ⟨(Classical.choose_spec (each i d)).2.1, Classical.choose_spec (Classical.choose_spec (each i d)).2.2⟩
      obtain ⟨g, f, E⟩ := D;refine ⟨some ⟨b, o, none⟩, cap, (List.range' 0 len).map f, by simp, ⟨by simp;omega, t, .inr ⟨b, o, rfl, g, fun i x p => ?_⟩⟩⟩;have d : i < len := by
        have := (List.getElem?_eq_some_iff.1 p).1;simpa using this
      have F : x = f i := by
        rw [List.getElem?_map, List.getElem?_range' d] at p;simpa using p.symm
      obtain ⟨k1, G⟩ := E i d;rw [F];refine ⟨fun w hw j v K => ?_, G⟩;have := k1 j v K;rw [Lj, Lj] at this;exact ku this (z w hw)
structure ln (P : Program) (Ah gk Gh Ci Mh ek mi ni Mi fk oi Gk : TypeId) : Prop where
  i : P.underlying Ah = some (.int .i64)
  n : P.underlying gk = some (.int .i64)
  s : P.underlying Gh = some .string
  ty : gf P Ci [(Ah, 0), (Gh, 1)] 2
  ex : gf P Mh [(Ah, 0), (gk, 1), (Gh, 2), (ek, 3)] 4
  es : P.underlying ek = some (.slice Mh)
  st : gf P mi [(Ah, 0), (Gh, 1), (Mh, 2), (ni, 6), (ni, 7)] 8
  hl : P.underlying ni = some (.slice mi)
  tv : gf P Mi [(Gh, 0), (Ci, 1)] 3
  hg : P.underlying fk = some (.slice Mi)
  Bt : gf P oi [(Ah, 0), (Gh, 1), (Ci, 2), (Ci, 4), (Ah, 6), (fk, 7), (ni, 8)] 9
  ds : P.underlying Gk = some (.slice oi)
  one : P.cellsOf Ah = 1 ∧ P.cellsOf gk = 1 ∧ P.cellsOf Gh = 1 ∧ P.cellsOf ek = 1 ∧ P.cellsOf ni = 1 ∧ P.cellsOf fk = 1
variable {Ah gk Gh Ci Mh ek mi ni Mi fk oi Gk : TypeId}
theorem Wu (L : ln P Ah gk Gh Ci Mh ek mi ni Mi fk oi Gk){fuel : Nat}{cs : List Value}{r : DataW H × List MemPlace}(h : DataW.trod enc P W 0 sp held fuel Ci cs = some r) : ∃ t : Ya, cs = [.int .i64 t.Kind, S t.yc]:= by
  cases fuel with
  | zero => cases h
  | succ fuel =>
    obtain ⟨qa, c⟩ := Vu L.ty h;obtain ⟨_, d⟩ := c (Ah, 0) (by simp);obtain ⟨_, e⟩ := c (Gh, 1) (by simp);simp only [L.one] at d e
    match cs, qa with
    | [a, b], _ =>
      obtain ⟨k, Va⟩ := Im L.i d;obtain ⟨g, na⟩ := Tp L.s e;simp at Va na;subst Va;subst na;exact ⟨⟨k, g⟩, rfl⟩
theorem OJ (L : ln P Ah gk Gh Ci Mh ek mi ni Mi fk oi Gk) (v : Xn W μ) : ∀ (n fuel : Nat) (cs : List Value) (r : DataW H × List MemPlace), fuel ≤ n → DataW.trod enc P W 0 sp held fuel Mh cs = some r → ∃ x : sb, Sa.cs μ cs x := by
  intro n
  induction n with
  | zero => intro fuel cs r w h; cases fuel with | zero => cases h | succ f => omega
  | succ n y =>
    intro fuel cs r w h;cases fuel with
    | zero => cases h
    | succ fuel =>
      obtain ⟨qa, e⟩ := Vu L.ex h;obtain ⟨_, j⟩ := e (Ah, 0) (by simp);obtain ⟨_, o⟩ := e (gk, 1) (by simp);obtain ⟨_, p⟩ := e (Gh, 2) (by simp);obtain ⟨_, q⟩ := e (ek, 3) (by simp);simp only [L.one] at j o p q
      match cs, qa with
      | [a, b, c, d], _ =>
        obtain ⟨k, Va⟩ := Im L.i j;obtain ⟨m, na⟩ := Im L.n o;obtain ⟨g, t⟩ := Tp L.s p;obtain ⟨z, Db, l, u, A⟩ := ht (α := sb) L.es L.ex.size v q fun f cs r' e h => y f cs r' (by omega) h;simp at Va na t u;subst Va;subst na;subst t;subst u;exact ⟨⟨k, m, g, l⟩, sb.i ⟨z, Db, rfl, A⟩⟩
theorem PJ (L : ln P Ah gk Gh Ci Mh ek mi ni Mi fk oi Gk) (j : Xn W μ) : ∀ (n fuel : Nat) (cs : List Value) (r : DataW H × List MemPlace), fuel ≤ n → DataW.trod enc P W 0 sp held fuel mi cs = some r → ∃ x : Ub, Sa.cs μ cs x := by
  intro n
  induction n with
  | zero => intro fuel cs r z h; cases fuel with | zero => cases h | succ f => omega
  | succ n m =>
    intro fuel cs r z h;cases fuel with
    | zero => cases h
    | succ fuel =>
      obtain ⟨qa, c⟩ := Vu L.st h;obtain ⟨_, p⟩ := c (Ah, 0) (by simp);obtain ⟨_, q⟩ := c (Gh, 1) (by simp);obtain ⟨_, t⟩ := c (Mh, 2) (by simp);obtain ⟨_, u⟩ := c (ni, 6) (by simp);obtain ⟨_, v⟩ := c (ni, 7) (by simp);simp only [L.one, L.ex.size] at p q t u v
      match cs, qa with
      | [a, b, c0, Wa, c2, c3, d, e], _ =>
        obtain ⟨k, Va⟩ := Im L.i p;obtain ⟨g, na⟩ := Tp L.s q;obtain ⟨x, A⟩ := OJ L j _ _ _ _ (Nat.le_refl _) t;obtain ⟨a2, B, l, w, C⟩ := ht (α := Ub) L.hl L.st.size j u fun f cs r' c h => m f cs r' (by omega) h;obtain ⟨a3, D, Ha, y, Gd⟩ := ht (α := Ub) L.hl L.st.size j v fun f cs r' c h => m f cs r' (by omega) h;obtain ⟨ta, E, Ma, k1⟩ := sb.o A;simp at Va na w y Ma;obtain ⟨rfl, rfl, rfl, rfl⟩ := Ma;subst Va;subst na;subst w;subst y;exact ⟨⟨k, g, x, l, Ha⟩, Ub.i ⟨ta, E, a2, B, a3, D, rfl, k1, C, Gd⟩⟩
theorem mD (L : ln P Ah gk Gh Ci Mh ek mi ni Mi fk oi Gk){fuel : Nat}{cs : List Value}{r : DataW H × List MemPlace}(h : DataW.trod enc P W 0 sp held fuel Mi cs = some r) : ∃ x : TParam, Sa.cs μ cs x := by
  cases fuel with
  | zero => cases h
  | succ n =>
    obtain ⟨qa, d⟩ := Vu L.tv h;obtain ⟨_, e⟩ := d (Gh, 0) (by simp);obtain ⟨_, f⟩ := d (Ci, 1) (by simp);simp only [L.one, L.ty.size] at e f
    match cs, qa with
    | [a, b, c], _ =>
      obtain ⟨yh, Va⟩ := Tp L.s e;obtain ⟨t, na⟩ := Wu L f;simp at Va na;obtain ⟨rfl, rfl⟩ := na;subst Va;exact ⟨⟨yh, t⟩, rfl⟩
theorem QJ (L : ln P Ah gk Gh Ci Mh ek mi ni Mi fk oi Gk) (d : Xn W μ){fuel : Nat}{cs : List Value}{r : DataW H × List MemPlace}(h : DataW.trod enc P W 0 sp held fuel oi cs = some r) : ∃ x : va, Sa.cs μ cs x := by
  cases fuel with
  | zero => cases h
  | succ fuel =>
    obtain ⟨qa, c⟩ := Vu L.Bt h;obtain ⟨_, j⟩ := c (Ah, 0) (by simp);obtain ⟨_, m⟩ := c (Gh, 1) (by simp);obtain ⟨_, o⟩ := c (Ci, 2) (by simp);obtain ⟨_, p⟩ := c (Ci, 4) (by simp);obtain ⟨_, q⟩ := c (Ah, 6) (by simp);obtain ⟨_, u⟩ := c (fk, 7) (by simp);obtain ⟨_, v⟩ := c (ni, 8) (by simp);simp only [L.one, L.ty.size] at j m o p q u v
    match cs, qa with
    | [a, b, c0, Wa, d0, d1, e, f, g], _ =>
      obtain ⟨k, Va⟩ := Im L.i j;obtain ⟨yh, na⟩ := Tp L.s m;obtain ⟨t, w⟩ := Wu L o;obtain ⟨qd, y⟩ := Wu L p;obtain ⟨zt, z⟩ := Im L.i q;obtain ⟨ta, C, l, A, D⟩ := ht (α := TParam) L.hg L.tv.size d u fun n cs r' _ h => mD L h;obtain ⟨a2, E, Ha, B, F⟩ := ht (α := Ub) L.hl L.st.size d v fun n cs r' _ h => PJ L d _ _ _ _ (Nat.le_refl _) h;simp at Va na w y z A B;obtain ⟨rfl, rfl⟩ := w;obtain ⟨rfl, rfl⟩ := y;subst Va;subst na;subst z;subst A;subst B;exact ⟨⟨k, yh, t, qd, zt, l, Ha⟩, ta, C, a2, E, rfl, D, F⟩
theorem FL (L : ln P Ah gk Gh Ci Mh ek mi ni Mi fk oi Gk) (b : Xn W μ){v : Value}{d : DataW H}{hg : List MemPlace}(h : DataW.Trod enc P W 0 sp held Gk v d hg) (Ab : v.cells.toList = [v]) : ∃ (a : Option Addr) (c : Nat) (l : List va), v = .slice a l.length c ∧ Ra μ a c l := by
  obtain ⟨fuel, h⟩ := h;obtain ⟨a, c, l, e, k⟩ := ht (α := va) L.ds L.Bt.size b h fun n cs r' _ h => QJ L b h;rw [Ab] at e;cases e;exact ⟨a, c, l, rfl, k⟩
end
end Go.sd
namespace Go.sd
open Go.oc Go.RowKit Go.ChangeShapes Go.Y
section
variable {H : Type}{enc : TypeId × Value → H}{P : Program}{W : World}{sp : Nat → Bool}{held : Bool}{μ : M}
def mn (P : Program) (T : TypeId) (d : DataW H) : Prop := ∀ n ∈ d.weights P T, n ≤ reachBytes
theorem WG {α β : Type}{f : α → Option β} : ∀ {l : List α}{ys : List β}, l.mapM f = some ys → ys.length = l.length ∧ ∀ (i : Nat) (x : α), l[i]? = some x → ∃ y, ys[i]? = some y ∧ f x = some y := by
  intro l
  induction l with
  | nil => intro ys h; cases h; exact ⟨rfl, fun i x c => by simp at c⟩
  | cons a l e =>
    intro ys h;rw [List.mapM_cons] at h;cases d : f a with
    | none => rw [d] at h; cases h
    | some b =>
      rw [d] at h;cases qa : l.mapM f with
      | none => rw [qa] at h; cases h
      | some Dd =>
        rw [qa] at h;cases h;obtain ⟨g, j⟩ := e qa;refine ⟨by simp [g], fun i x c => ?_⟩;cases i with
        | zero => cases c; exact ⟨b, rfl, d⟩
        | succ i => exact j i x c
theorem kz {T : TypeId}{a : List (TypeId × Nat)}{n fuel : Nat}{cs : List Value}{r : DataW H × List MemPlace}(hs : gf P T a n) (h : DataW.trod enc P W 0 sp held (fuel + 1) T cs = some r) (e : mn P T r.1) :
    cs.length = n ∧ ∀ (i : Nat) (p : TypeId × Nat), a[i]? = some p → ∃ r', DataW.trod enc P W 0 sp held fuel p.1 ((cs.drop p.2).take (P.cellsOf p.1)) = some r' ∧ mn P p.1 r'.1 := by
  obtain ⟨b, hu, g, l⟩ := hs.out;by_cases qa : cs.length = P.cellsOf T
  · refine ⟨qa.trans l, ?_⟩;have m : ∃ ys, b.toList.mapM (fun f => DataW.trod enc P W 0 sp held fuel f.type ((cs.drop f.offset).take (P.cellsOf f.type))) = some ys ∧ r.1 = .agg (ys.map (·.1)):= by
      unfold DataW.trod at h;simp only [hu, qa, if_true] at h;cases hm : b.toList.mapM (fun f => DataW.trod enc P W 0 sp held fuel f.type ((cs.drop f.offset).take (P.cellsOf f.type))) with
      | none => rw [hm] at h; cases h
      | some ys => rw [hm] at h; cases h; exact ⟨ys, rfl, rfl⟩
    obtain ⟨ys, o, q⟩ := m;obtain ⟨m1, m2⟩ := WG o;intro i p c;rw [← g, List.getElem?_map] at c;obtain ⟨f, d, rfl⟩ := Option.map_eq_some_iff.1 c;obtain ⟨y, s, t⟩ := m2 i f d;refine ⟨y, t, fun k u => e k ?_⟩;rw [q, DataW.weights, hu];exact DataW.weights_mem_each (j := i) (by rw [List.getElem?_map, d];rfl) (by rw [List.getElem?_map, s];rfl) k u
  · unfold DataW.trod at h;simp only [hu, qa, if_false] at h;cases h
theorem Yz {e : TypeId} : ∀ {ds : List (DataW H)}{i : Nat}{d : DataW H}, ds[i]? = some d → ∀ n ∈ d.weights P e, n ∈ DataW.weightsAll P e ds
  | d0 :: ds, 0, d, h, n, a => by
    cases h;rw [DataW.weightsAll];exact List.mem_append.2 (.inl a)
  | d0 :: ds, i + 1, d, h, n, a => by
    rw [DataW.weightsAll];exact List.mem_append.2 (.inr (Yz (i := i) (by simpa using h) n a))
  | [], i, d, h, n, a => by simp at h
theorem Ys {α : Type}[Sa α]{B : Nat}{Rz : α → Prop}{fuel : Nat}{T e : TypeId}{cs : List Value}{r : DataW H × List MemPlace}(hu : P.underlying T = some (.slice e)) (hm : P.cellsOf e = Sa.sz α) (Y : reachBytes < (B + 1) * P.bytesOf e) (F : Xn W μ) (h : DataW.trod enc P W 0 sp held fuel T cs = some r) (z : mn P T r.1)
    (G : ∀ n cs r', n < fuel → DataW.trod enc P W 0 sp held n e cs = some r' → mn P e r'.1 → ∃ x : α, Sa.cs μ cs x ∧ Rz x) : ∃ (a : Option Addr) (c : Nat) (l : List α), cs = [.slice a l.length c] ∧ Ra μ a c l ∧ l.length ≤ B ∧ ∀ x ∈ l, Rz x := by
  rcases DataW.trod_slice hu h with ⟨rfl, -⟩ | ⟨a, len, cap, elems, rest, n, rfl, rfl, A, -, Z, C, K, L, -⟩
  · exact ⟨none, 0, [], rfl, Ra.nil, by simp, by simp⟩
  · have hw : (elems.length + rest.length) * P.bytesOf e ≤ reachBytes := z _ (by rw [A];simp [DataW.weights, hu]);have gc : len ≤ B := by
      rw [K] at hw;rcases Nat.lt_or_ge B len with c | c
      · have : (B + 1) * P.bytesOf e ≤ (len + rest.length) * P.bytesOf e := Nat.mul_le_mul_right _ (by omega);omega
      · exact c
    have M : ∀ (i : Nat) (y : DataW H × List MemPlace), elems[i]? = some y → mn P e y.1 := fun i y t k N => z k (by
      rw [A];simp only [DataW.weights, hu];refine List.mem_cons_of_mem _ (List.mem_append.2 (.inl ?_));exact Yz (i := i) (by rw [List.getElem?_map, t];rfl) k N)
    rcases Nat.eq_zero_or_pos len with u | u
    · subst u;exact ⟨some a, cap, [], rfl, ⟨by simp, C, .inl rfl⟩, by simp, by simp⟩
    · have each : ∀ i, i < len → ∃ cs, cs.length = Sa.sz α ∧ (∀ j v, cs[j]? = some v → W.cell? ((a.add (i * Sa.sz α)).add j) = some v) ∧ ∃ x : α, Sa.cs μ cs x ∧ Rz x := by
        intro i d;have he := L i d;rw [hm] at he;obtain ⟨y, t⟩ : ∃ y, elems[i]? = some y := ⟨_, List.getElem?_eq_getElem (by omega)⟩;rw [t] at he;cases m : W.cells? 0 (a.add (i * Sa.sz α)) (Sa.sz α) with
        | none => rw [m] at he; cases he
        | some cs =>
          rw [m] at he;exact ⟨cs, (Bw m).1, (Bw m).2, G n cs y (Nat.lt_succ_self _) he (M i y t)⟩
      have D : a.spot = none := by
        obtain ⟨cs, qa, m, -⟩ := each 0 u;have lc := Sa.pos (α := α);obtain ⟨v, Ab⟩ : ∃ v, cs[0]? = some v := ⟨_, List.getElem?_eq_getElem (by omega)⟩;have := m 0 v Ab;cases hs : a.spot with
        | none => rfl
        | some q =>
          have e : ((a.add (0 * Sa.sz α)).add 0).spot = some q := by simp [Addr.add, hs]
          unfold World.cell? at this;rw [e] at this;simp at this;split at this<;>cases this
      obtain ⟨b, o, s⟩ := a;simp only at D;subst D;have Q : ∃ g : Nat → List Value, ∃ f : Nat → α, ∀ i, i < len → (∀ j v, (g i)[j]? = some v → W.cell? (((⟨b, o, none⟩ : Addr).add (i * Sa.sz α)).add j) = some v) ∧ Sa.cs μ (g i) (f i) ∧ Rz (f i):= by
        have ne : Nonempty α := by obtain ⟨_, -, -, x, -⟩ := each 0 u;exact ⟨x⟩
        refine ⟨fun i => if d : i < len then Classical.choose (each i d) else [], fun i => if d : i < len then Classical.choose (Classical.choose_spec (each i d)).2.2 else Classical.choice ne, fun i d => ?_⟩;simp only [dif_pos d];exact ⟨(Classical.choose_spec (each i d)).2.1, Classical.choose_spec (Classical.choose_spec (each i d)).2.2⟩
      obtain ⟨g, f, E⟩ := Q;refine ⟨some ⟨b, o, none⟩, cap, (List.range' 0 len).map f, by simp, ⟨by simp;omega, C, .inr ⟨b, o, rfl, g, fun i x p => ?_⟩⟩, by simp;omega, fun x p => ?_⟩
      · have d : i < len := by
          have := (List.getElem?_eq_some_iff.1 p).1;simpa using this
        have R : x = f i := by
          rw [List.getElem?_map, List.getElem?_range' d] at p;simpa using p.symm
        obtain ⟨k1, S, -⟩ := E i d;rw [R];refine ⟨fun w hw j v U => ?_, S⟩;have := k1 j v U;rw [Lj, Lj] at this;exact ku this (F w hw)
      · obtain ⟨i, d, rfl⟩ := List.mem_map.1 p;have X : i < len := by simpa using (List.mem_range'_1.1 d).2
        exact (E i X).2.2
structure uv (P : Program) (Mh mi Mi oi : TypeId) : Prop where
  ex : P.bytesOf Mh = 56
  st : P.bytesOf mi = 128
  tv : P.bytesOf Mi = 40
  Bt : P.bytesOf oi = 128
variable {Ah gk Gh Ci Mh ek mi ni Mi fk oi Gk : TypeId}
theorem fJ (L : ln P Ah gk Gh Ci Mh ek mi ni Mi fk oi Gk) (Z : uv P Mh mi Mi oi) (v : Xn W μ) : ∀ (n fuel : Nat) (cs : List Value) (r : DataW H × List MemPlace), fuel ≤ n → DataW.trod enc P W 0 sp held fuel Mh cs = some r → mn P Mh r.1 → ∃ x : sb, Sa.cs μ cs x ∧ sx n x := by
  intro n
  induction n with
  | zero => intro fuel cs r w h; cases fuel with | zero => cases h | succ f => omega
  | succ n y =>
    intro fuel cs r w h A;cases fuel with
    | zero => cases h
    | succ fuel =>
      obtain ⟨qa, e⟩ := kz L.ex h A;obtain ⟨_, j, -⟩ := e 0 (Ah, 0) rfl;obtain ⟨_, o, -⟩ := e 1 (gk, 1) rfl;obtain ⟨_, p, -⟩ := e 2 (Gh, 2) rfl;obtain ⟨_, q, z3⟩ := e 3 (ek, 3) rfl;simp only [L.one] at j o p q
      match cs, qa with
      | [a, b, c, d], _ =>
        obtain ⟨k, Va⟩ := Im L.i j;obtain ⟨m, na⟩ := Im L.n o;obtain ⟨g, t⟩ := Tp L.s p;obtain ⟨C, Db, l, u, D, s1, s2⟩ := Ys (α := sb) (B := 2513169434916) (Rz := sx n) L.es L.ex.size (by rw [Z.ex];decide) v q z3 fun f cs r' e h z => y f cs r' (by omega) h z;simp at Va na t u;subst Va;subst na;subst t;subst u;exact ⟨⟨k, m, g, l⟩, sb.i ⟨C, Db, rfl, D⟩, s1, s2⟩
theorem gJ (L : ln P Ah gk Gh Ci Mh ek mi ni Mi fk oi Gk) (Z : uv P Mh mi Mi oi) (j : Xn W μ) : ∀ (n fuel : Nat) (cs : List Value) (r : DataW H × List MemPlace), fuel ≤ n → DataW.trod enc P W 0 sp held fuel mi cs = some r → mn P mi r.1 → ∃ x : Ub, Sa.cs μ cs x ∧ cr n x := by
  intro n
  induction n with
  | zero => intro fuel cs r A h; cases fuel with | zero => cases h | succ f => omega
  | succ n m =>
    intro fuel cs r A h C;cases fuel with
    | zero => cases h
    | succ fuel =>
      obtain ⟨qa, c⟩ := kz L.st h C;obtain ⟨_, p, -⟩ := c 0 (Ah, 0) rfl;obtain ⟨_, q, -⟩ := c 1 (Gh, 1) rfl;obtain ⟨_, t, z2⟩ := c 2 (Mh, 2) rfl;obtain ⟨_, u, z3⟩ := c 3 (ni, 6) rfl;obtain ⟨_, v, z4⟩ := c 4 (ni, 7) rfl;simp only [L.one, L.ex.size] at p q t u v
      match cs, qa with
      | [a, b, c0, Wa, c2, c3, d, e], _ =>
        obtain ⟨k, Va⟩ := Im L.i p;obtain ⟨g, na⟩ := Tp L.s q;obtain ⟨x, D, E⟩ := fJ L Z j n _ _ _ (by omega) t z2;obtain ⟨a2, F, l, w, G, s1, s2⟩ := Ys (α := Ub) (B := 1099511627776) (Rz := cr n) L.hl L.st.size (by rw [Z.st];decide) j u z3 fun f cs r' c h z => m f cs r' (by omega) h z;obtain ⟨a3, K, Ha, y, Gd, M, N⟩ := Ys (α := Ub) (B := 1099511627776) (Rz := cr n) L.hl L.st.size (by rw [Z.st];decide) j v z4 fun f cs r' c h z => m f cs r' (by omega) h z;obtain ⟨ta, Q, Ma, k1⟩ := sb.o D;simp at Va na w y Ma;obtain ⟨rfl, rfl, rfl, rfl⟩ := Ma;subst Va;subst na;subst w;subst y;exact ⟨⟨k, g, x, l, Ha⟩, Ub.i ⟨ta, Q, a2, F, a3, K, rfl, k1, G, Gd⟩, E, ⟨s1, s2⟩, ⟨M, N⟩⟩
theorem hJ (L : ln P Ah gk Gh Ci Mh ek mi ni Mi fk oi Gk) (Z : uv P Mh mi Mi oi) (d : Xn W μ){n fuel : Nat}(S : fuel ≤ n){cs : List Value}{r : DataW H × List MemPlace}(h : DataW.trod enc P W 0 sp held fuel oi cs = some r) (F : mn P oi r.1) : ∃ x : va, Sa.cs μ cs x ∧ Oz n x := by
  cases fuel with
  | zero => cases h
  | succ fuel =>
    obtain ⟨qa, c⟩ := kz L.Bt h F;obtain ⟨_, j, -⟩ := c 0 (Ah, 0) rfl;obtain ⟨_, o, -⟩ := c 1 (Gh, 1) rfl;obtain ⟨_, p, -⟩ := c 2 (Ci, 2) rfl;obtain ⟨_, q, -⟩ := c 3 (Ci, 4) rfl;obtain ⟨_, u, -⟩ := c 4 (Ah, 6) rfl;obtain ⟨_, v, z5⟩ := c 5 (fk, 7) rfl;obtain ⟨_, w, G⟩ := c 6 (ni, 8) rfl;simp only [L.one, L.ty.size] at j o p q u v w
    match cs, qa with
    | [a, b, c0, Wa, d0, d1, e, f, g], _ =>
      obtain ⟨k, Va⟩ := Im L.i j;obtain ⟨yh, na⟩ := Tp L.s o;obtain ⟨t, y⟩ := Wu L p;obtain ⟨qd, A⟩ := Wu L q;obtain ⟨zt, C⟩ := Im L.i u;obtain ⟨ta, K, l, D, M, s1, -⟩ := Ys (α := TParam) (B := 3518437208883) (Rz := fun _ => True) L.hg L.tv.size (by rw [Z.tv];decide) d v z5 fun n cs r' _ h _ => (mD L h).imp fun _ h => ⟨h, trivial⟩;obtain ⟨a2, N, Ha, E, Q, s2, R⟩ := Ys (α := Ub) (B := 1099511627776) (Rz := cr n) L.hl L.st.size (by rw [Z.st];decide) d w G fun m cs r' hm h z => gJ L Z d n m _ _ (by omega) h z;simp at Va na y A C D E;obtain ⟨rfl, rfl⟩ := y;obtain ⟨rfl, rfl⟩ := A;subst Va;subst na;subst C;subst D;subst E;exact ⟨⟨k, yh, t, qd, zt, l, Ha⟩, ⟨ta, K, a2, N, rfl, M, Q⟩, s1, s2, R⟩
theorem XG (L : ln P Ah gk Gh Ci Mh ek mi ni Mi fk oi Gk) (Z : uv P Mh mi Mi oi) (b : Xn W μ){v : Value}{d : DataW H}{hg : List MemPlace}(h : DataW.Trod enc P W 0 sp held Gk v d hg) (f : mn P Gk d) (Ab : v.cells.toList = [v]) : ∃ (a : Option Addr) (c : Nat) (l : List va) (k : Nat), v = .slice a l.length c ∧ Ra μ a c l ∧ wK k l := by
  obtain ⟨fuel, h⟩ := h;obtain ⟨a, c, l, e, k, s1, s2⟩ := Ys (α := va) (B := 1099511627776) (Rz := Oz fuel) L.ds L.Bt.size (by rw [Z.Bt];decide) b h f fun n cs r' g h z => hJ L Z b (by omega) h z;rw [Ab] at e;cases e;exact ⟨a, c, l, fuel, rfl, k, s1, s2⟩
theorem RJ {a us : List TypeId}{ds gs : List (DataW H)}(h : (DataW.weightsEach P (a ++ us) (ds ++ gs)).all (· ≤ reachBytes) = true){j : Nat}{t : TypeId}{d : DataW H}(b : a[j]? = some t) (ya : ds[j]? = some d) : mn P t d := by
  intro n c;refine of_decide_eq_true (List.all_eq_true.1 h n (DataW.weights_mem_each (j := j) (t := t) (d := d) ?_ ?_ n c))
  · rw [List.getElem?_append_left (List.getElem?_eq_some_iff.1 b).1];exact b
  · rw [List.getElem?_append_left (List.getElem?_eq_some_iff.1 ya).1];exact ya
end
end Go.sd
namespace Go.Proofs.YtfmlfolepjbgaaaGreatDoor.genVerified
open Go.oc Go.sd Go.Y Go.ChangeShapes Go.WideShapes Go.ChangeAt Go.RowKit
theorem SJ {fu : Nat}{c : List va}{a0 : Option Addr}{c0 : Nat}(W : World) (e : Ck (fun _ => True) W Ic) (m0 : Ra (fun w => Ic w ∧ ∀ k, k < W.heap.size → w.heap[k]? = W.heap[k]?) a0 c0 c) (f : vu fu c = some true) :
    pc Tryz.prog 3 [.slice a0 c.length c0] W fun v w => v = .bool true ∧ Grow W w := by
  have g : ka (fun w => Ic w ∧ ∀ k, k < W.heap.size → w.heap[k]? = W.heap[k]?) W W []:= Sep.start W _ _ (e.and fun w' _ i k d => i k d trivial);refine (EF (fu := fu) (fun _ h => h.1) m0 f g).mono ?_;rintro v w' ⟨la, rfl, hle, b⟩;have d := hle _ b.a;exact ⟨rfl, b.keeps.os, b.keeps.tape, b.keeps.output, b.keeps.size, fun k j _ => d.2 k j⟩
theorem fi : ln Tryz.prog 3 2 9 53 147 145 149 55 87 54 57 22 := ⟨Tryz.underlying3, Tryz.underlying2, Tryz.underlying9, ⟨⟨_, Tryz.underlying53, by kernel_rfl, by kernel_rfl⟩⟩, ⟨⟨_, Tryz.underlying147, by kernel_rfl, by kernel_rfl⟩⟩, Tryz.underlying145, ⟨⟨_, Tryz.underlying149, by kernel_rfl, by kernel_rfl⟩⟩, Tryz.underlying55, ⟨⟨_, Tryz.underlying87, by kernel_rfl, by kernel_rfl⟩⟩, Tryz.underlying54, ⟨⟨_, Tryz.underlying57, by kernel_rfl, by kernel_rfl⟩⟩, Tryz.underlying22, by kernel_rfl, by kernel_rfl, by kernel_rfl, by kernel_rfl, by kernel_rfl, by kernel_rfl⟩
theorem Rd : uv Tryz.prog 147 149 87 57 := ⟨by kernel_rfl, by kernel_rfl, by kernel_rfl, by kernel_rfl⟩
theorem own : ownKnob Tryz.prog.godebug = none := by kernel_rfl
theorem laidOut : laidOutB Tryz.prog = true := by kernel_rfl
set_option maxRecDepth 100000 in
set_option maxHeartbeats 4000000 in
theorem YG (H : Type) (enc : TypeId × Value → H) (W : World) (base : Nat) (args : Array Value) (ds gs : List (DataW H)) (before : List MemPlace)
    (b : ∀ (j : Nat) t v, Tryz.f3.params[j]? = some t → args[j]? = some v → Value.okWide Tryz.prog W .any base t v)
    (f : DataW.Whole enc Tryz.prog Tryz.f3.params.toList Rows.genVerifiedSpec.vars false W args.toList ds gs before) (s : ∀ (j : Nat) t d, Tryz.f3.params.toList[j]? = some t → ds[j]? = some d → mn Tryz.prog t d) (u : W.ShapedOpen Tryz.prog) :
    Calls Tryz.prog 3 args W fun e i => ∃ v, e = .returned v ∧ Rows.genVerifiedSpec.post enc Tryz.prog Tryz.f3 false true false false W args v i := by
  have a := f;obtain ⟨p, q, l, y, rfl, L, M⟩ := f;have n : DataW.TrodAll enc Tryz.prog W 0 (fun _ => true) true Tryz.f3.params.toList args.toList ds p := l;rw [Tryz.params3] at n b;obtain ⟨v0, N, z, Q, Ja, R, S, rfl, rfl, o, A⟩ := trodAll_cons n;obtain ⟨rfl, rfl, rfl⟩ := trodAll_nil A;obtain rfl : args = #[v0]:= by cases args;simp_all
  obtain ⟨rfl, rfl⟩ := trodVars_none y;clear l;simp only [List.append_nil] at a;have B := a.lt;have C : v0.cells.toList = [v0]:= by obtain ⟨_, _, _, rfl⟩ := okWide_slice Tryz.underlying22 (b 0 22 v0 rfl rfl);rfl
  obtain ⟨a0, c0, T, z0, D, m0, ch⟩ := XG (μ := fun w => Ic w ∧ ∀ k, k < W.heap.size → w.heap[k]? = W.heap[k]?) fi Rd (fun w h => h.2) o (s 0 22 z (by rw [Tryz.params3];rfl) rfl) C;obtain ⟨m, hm⟩ := cell_of_shapedOpen_int (P := Tryz.prog) (g := 2) (t := 3) (zero := #[.int .i64 0]) u (of_decide_eq_true (by kernel_rfl)) (by kernel_rfl) (by kernel_rfl) (by kernel_rfl) (by kernel_rfl) Tryz.underlying3;have E : Ck (fun _ => True) W Ic := fun w' _ F => ⟨m, ku hm fun k G => F k G trivial⟩;have walk := (SJ W E m0 (RE _)).out;rw [← D] at walk;refine walk.mono fun e i he => ?_;cases e with
  | panicked c => exact he.elim
  | outgrown => exact he.elim
  | returned v =>
    obtain ⟨rfl, r⟩ := he;exact ⟨_, rfl, _, _, _, [], _, [], a, trodAll_cons_mk (shut_bool Tryz.underlying4 _) trodAll_mk0, (trodAll_cons_mk (Below.trod laidOut (by kernel_rfl) (of_decide_eq_true (by kernel_rfl)) o r.below (fun x K => B x (by simp [K]))) trodAll_mk0), rfl, r.below.frame _, fun h => by cases h⟩
theorem GK : (World.laidAll Tryz.prog default Rows.genVerifiedRow.laid).os = default := World.laidAll_os _ _ _
set_option maxRecDepth 100000 in
theorem lifted (os : Os) (started : os.Started) (H : Type) (enc : TypeId × Value → H) (F : Stop.Interp) :
    ReturnsInHanded {} Tryz.checked os 3 .any ((OpenSpec.ofChange Rows.genVerifiedSpec).preRow enc Tryz.prog Tryz.f3 Rows.genVerifiedRow.domain false Rows.genVerifiedRow.laid) (((OpenSpec.ofChange Rows.genVerifiedSpec).at F).post enc Tryz.prog Tryz.f3 false true false false):= by
  have a : ∃ places, DataW.whole enc Tryz.prog ((World.laidAll Tryz.prog os Rows.genVerifiedRow.laid).forCall (fun _ _ => 0) ⟨#[], #[.slice none 0 0], []⟩).memory Tryz.f3.params.toList Rows.genVerifiedSpec.vars false (#[.slice none 0 0] : Array Value).toList 8 = some ([.nil], [], places):= ⟨[], by kernel_rfl⟩;obtain ⟨places, a⟩ := a;have b : Input.okWideB Tryz.prog ((World.laidAll Tryz.prog os Rows.genVerifiedRow.laid).forCall (fun _ _ => 0) ⟨#[], #[.slice none 0 0], []⟩) 3 ⟨#[], #[.slice none 0 0], []⟩ = true := by kernel_rfl
  refine returnsInHanded_of_row (C := Tryz.checked) (s := OpenSpec.ofChange Rows.genVerifiedSpec) own started (by kernel_rfl) Tryz.func3
    ⟨World.laidAll Tryz.prog os Rows.genVerifiedRow.laid, fun _ _ => 0, ⟨#[], #[.slice none 0 0], []⟩, World.laidAll_os _ _ _, World.shaped_of_ZipB (by kernel_rfl) (by kernel_rfl), (Input.okWide_of_okWideB (base := 0) b).1, (Input.okWide_of_okWideB b).2,
      OpenSpec.preRow_of_cond 8 a (by kernel_rfl) (fun k c => by cases c) (by kernel_rfl) (by rw [MakeChecks.laidMetH_plain _ _ _ (by kernel_rfl)];exact laidMet_laidAll _ (by kernel_rfl) (by kernel_rfl)), by
        simp only [Assume.holds];exact ⟨by simp, by simp, fun _ => Modest.zero, by simp, by simp⟩⟩ ?_
  intro W base args ds gs before e f _ c g l h _;exact YG H enc W base args ds gs before e f (fun j t d i ya => RJ g i ya) h
theorem said : Rows.GenVerifiedSaid :=
  OpenClaim.holds_of_cond 3 Tryz.f3 rfl rfl rfl rfl rfl rfl rfl ⟨rfl, rfl, rfl, rfl, rfl⟩ rfl rfl rfl rfl rfl (by kernel_rfl) Tryz.func3 (by kernel_rfl)
    (of_decide_eq_true (by kernel_rfl)) (by unfold Func.isWrapper;first | (rw [if_pos (by decide +kernel)];kernel_rfl) | (rw [if_neg (by decide +kernel)];exact ⟨rfl, rfl⟩))
    (fun os started H enc _ F => by rw [OpenClaim.pre_eq_preRow];exact lifted os started H enc F)
theorem plain (f : FuncId) (fn : Func) (b : Tryz.pinned.checked.prog.funcNamed Rows.genVerifiedRow.func = some f) (c : Tryz.pinned.checked.prog.funcs[f]? = some fn) :
    true = Tryz.pinned.checked.prog.looks [] ∧ ∀ (j : Nat) t, fn.params[j]? = some t → Tryz.pinned.checked.prog.wantsStandIn t = false := by
  obtain rfl : f = 3 := Option.some.inj ((show Tryz.prog.funcNamed Rows.genVerifiedRow.func = some 3 by kernel_rfl).symm.trans b) |>.symm;obtain rfl : fn = Tryz.f3 := (Option.some.inj (Tryz.func3.symm.trans c)).symm;refine ⟨by kernel_rfl, fun j t a => ?_⟩;rw [Tryz.params3] at a;have hm : t ∈ [22]:= by
    first
      | simpa using Array.mem_of_getElem? a
      | (have := Array.mem_of_getElem? a; simp at this ⊢; exact this.symm)
  simp only [List.mem_cons, List.not_mem_nil, or_false] at hm;try (rcases hm with rfl | rfl)
  try subst hm
  exact (show Tryz.prog.wantsStandIn 22 = false by kernel_rfl)
theorem card : Rows.GenVerifiedCardSaid :=
  Claim7.holds_tied_plain_at .later [] _ _ _ _ said (fun _ h => by cases h) (by kernel_rfl) (fun _ h => by cases h) genVerified_row_tie rfl ⟨rfl, rfl⟩ (by kernel_rfl) rfl plain (by kernel_rfl)
end Go.Proofs.YtfmlfolepjbgaaaGreatDoor.genVerified
