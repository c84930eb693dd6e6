/- TopCopies: the statement holds for every input; as the card says it (the listed variables are laid as the text lays them). -/
import Derived.Test.YtafjdiifkckmbaaGreatDoorCXt
import Derived.ChangeSlices
import Derived.ChangeShapes
import Derived.Test.YtafjdiifkckmbaaGreatDoorCMd
import Derived.ChangeArms
import Derived.Test.YtafjdiifkckmbaaGreatDoorCPl
import Derived.SizedLaws
import Derived.Test.YtafjdiifkckmbaaGreatDoorCards
import Derived.Test.YtafjdiifkckmbaaGreatDoorTie
import Derived.WalkKit
import Derived.ProofKit
import Derived.OpenShut
import Derived.Deep.DeepHandedRow
import Derived.Lay
import Derived.Shelf.Vars
import Derived.Carry
import Derived.Test.YtafjdiifkckmbaaGreatDoorCWl
import Derived.Test.YtafjdiifkckmbaaGreatDoorCPm
set_option linter.unusedSimpArgs false
set_option linter.unusedVariables false
set_option linter.unusedSectionVars false
namespace Go.Re
open Go.Bc Go.RowKit Go.ChangeShapes
section
variable {H : Type}{enc : TypeId × Value -> H}{P : Program}{W : World}{d : DataW H}{zg : List MemPlace}{v : Value}
theorem rS {w : World}{b i : Nat}{v : Value}(h : w.cell? ⟨b, i, none⟩ = some v) : b < w.heap.size := by
  refine Decidable.byContradiction λa => ?_;have : w.heap[b]? = none := Array.getElem?_eq_none (by omega);simp [World.cell?, this] at h
theorem Mx {w w' : World}{b i : Nat}{v : Value}(h : w.cell? ⟨b, i, none⟩ = some v) (a : ∀ k, k < w.heap.size -> w'.heap[k]? = w.heap[k]?) : w'.cell? ⟨b, i, none⟩ = some v := by
  have la := rS h;simpa [World.cell?, a b la] using h
theorem DZ {t e : TypeId}{μ : M}(y : P.underlying t = some (.slice e)) (z : P.underlying e = some (.int .i64)) (A : P.cellsOf e = 1) (h : DataW.Trod enc P W 0 (λ_ => true) true t v d zg) (Oa : v.cells.toList = [v])
    (B : ∀ w, μ w -> ∀ k, k < W.heap.size -> w.heap[k]? = W.heap[k]?) :
    ∃ (a : Option Addr) (c : Nat) (l : List Int), v = .slice a l.length c /\ za μ a c l /\ ∀ x ∈ l, -9223372036854775808 <= x /\ x <= 9223372036854775807 := by
  obtain ⟨fuel, h⟩ := h;rw [Oa] at h;rcases open_ints y z A h with ⟨e, -⟩ | ⟨a, len, cap, g, e, -, N, C, D, -, m, E⟩
  · cases e;exact ⟨none, 0, [], rfl, za.nil, by simp⟩
  · simp only [if_true] at D;cases e;have F : (g.take len).length = len := by rw [List.length_take];omega
    refine ⟨some a, cap, g.take len, by rw [F], ⟨by omega, C, ?_⟩, λx f => ?_⟩
    · by_cases G : len = 0
      · left;subst G;simp
      · right;have n : a.spot = none := by
          have := m 0 (by omega);cases H : a.spot with
          | none => rfl
          | some q =>
            have e : (a.add 0).spot = some q := by simp [Addr.add, H]
            unfold World.cell? at this;rw [e] at this;simp at this;split at this<;>cases this
        obtain ⟨b, o, s⟩ := a;simp only at n;subst n;refine ⟨b, o, rfl, λi => [.int .i64 (g.getD i 0)], λi x f => ⟨λw K j u p => ?_, ?_⟩⟩
        · have O : i < len := by
            have := (List.getElem?_eq_some_iff.1 f).1;omega
          have L : j = 0 := by
            have := (List.getElem?_eq_some_iff.1 p).1;simpa using this
          subst L;cases p;have r := m i (by omega);rw [tk] at r;have := Mx r (B w K);show w.cell? ⟨b, o + i * 1 + 0, none⟩ = _;rw [Nat.mul_one, Nat.add_zero];exact this
        · rw [List.getElem?_take] at f;split at f
          · show _ = _;simp [List.getD_eq_getElem?_getD, f]
          · cases f
    · have := E x (List.mem_of_mem_take f);simpa [Lit.wf, IntKind.min, IntKind.max, IntKind.signed, IntKind.bits] using this
theorem RW {t e : TypeId}{μ : M}(B : P.underlying t = some (.slice e)) (C : P.underlying e = some .bool) (D : P.cellsOf e = 1) (h : DataW.Trod enc P W 0 (λ_ => true) true t v d zg) (Oa : v.cells.toList = [v])
    (E : ∀ w, μ w -> ∀ k, k < W.heap.size -> w.heap[k]? = W.heap[k]?) :
    ∃ (a : Option Addr) (c : Nat) (l : List Bool), v = .slice a l.length c /\ za μ a c l /\ True := by
  obtain ⟨fuel, h⟩ := h;rw [Oa] at h;rcases DataW.trod_slice B h with ⟨e, -⟩ | ⟨a, len, cap, elems, rest, n, -, e, -, -, F, G, T, H, -⟩
  · cases e;exact ⟨none, 0, [], rfl, za.nil, trivial⟩
  · cases e;have each : ∀ i, i < len -> ∃ q : Bool, W.cell? (a.add i) = some (.bool q):= by
      intro i g;have p := H i g;rw [D, Nat.mul_one] at p;have K : i < elems.length := by omega
      rw [List.getElem?_eq_getElem K, Option.bind_eq_some_iff] at p;obtain ⟨cs, L, N⟩ := p;obtain ⟨q, rfl, -⟩ := DataW.trod_bool C N;exact ⟨q, cell_of_cells?_one L⟩
    let f : Nat -> Bool := λi => if g : i < len then Classical.choose (each i g) else false
    have r : ∀ i, i < len -> W.cell? (a.add i) = some (.bool (f i)):= λi g => by
      simp only [f, dif_pos g];exact Classical.choose_spec (each i g)
    refine ⟨some a, cap, (List.range len).map f, by simp, ⟨by simpa using F, G, ?_⟩, trivial⟩;by_cases O : len = 0
    · left;subst O;simp
    · right;have y : a.spot = none := by
        have := r 0 (by omega);cases Q : a.spot with
        | none => rfl
        | some q =>
          have e : (a.add 0).spot = some q := by simp [Addr.add, Q]
          unfold World.cell? at this;rw [e] at this;simp at this;split at this<;>cases this
      obtain ⟨b, o, s⟩ := a;simp only at y;subst y;refine ⟨b, o, rfl, λi => [.bool (f i)], λi x m => ⟨λw R j u z => ?_, ?_⟩⟩
      · have g : i < len := by
          have := (List.getElem?_eq_some_iff.1 m).1;simpa using this
        have S : j = 0 := by
          have := (List.getElem?_eq_some_iff.1 z).1;simpa using this
        subst S;cases z;have A := r i g;rw [tk] at A;have := Mx A (E w R);show w.cell? ⟨b, o + i * 1 + 0, none⟩ = _;rw [Nat.mul_one, Nat.add_zero];exact this
      · have g : i < len := by
          have := (List.getElem?_eq_some_iff.1 m).1;simpa using this
        simp [g] at m;show [Value.bool (f i)] = [Value.bool x];rw [m]
end
end Go.Re
namespace Go.Re
open Go.Bc Go.RowKit Go.ChangeShapes Go.Y
section
variable {H : Type}{enc : TypeId × Value -> H}{P : Program}{W : World}{sp : Nat -> Bool}{held : Bool}{μ : M}
def sq (W : World) (μ : M) : Prop := ∀ w, μ w -> ∀ k, k < W.heap.size -> w.heap[k]? = W.heap[k]?
theorem AQ {α β : Type}{f : α -> Option β} : ∀ {l : List α}{ys : List β}, l.mapM f = some ys -> ∀ x ∈ l, ∃ y, f x = some y := by
  intro l
  induction l with
  | nil => intro ys _ x c; cases c
  | cons a l e =>
    intro ys h x c;rw [List.mapM_cons] at h;cases d : f a with
    | none => rw [d] at h; cases h
    | some b =>
      rw [d] at h;cases la : l.mapM f with
      | none => rw [la] at h; cases h
      | some bs =>
        rcases List.mem_cons.1 c with rfl | c
        · exact ⟨b, d⟩
        · exact e la x c
structure Ud (P : Program) (T : TypeId) (b : List (TypeId × Nat)) (n : Nat) : Prop where
  out : ∃ a, P.underlying T = some (.struct a) /\ (a.toList.map λf => (f.type, f.offset)) = b /\ P.cellsOf T = n
theorem Ud.size {T : TypeId}{a : List (TypeId × Nat)}{n : Nat}(h : Ud P T a n) : P.cellsOf T = n := by
  obtain ⟨b, -, -, h⟩ := h.out;exact h
theorem Ay {T : TypeId}{a : List (TypeId × Nat)}{n fuel : Nat}{cs : List Value}{r : DataW H × List MemPlace}(d : Ud P T a n) (h : DataW.trod enc P W 0 sp held (fuel + 1) T cs = some r) :
    cs.length = n /\ ∀ p ∈ a, ∃ r', DataW.trod enc P W 0 sp held fuel p.1 ((cs.drop p.2).take (P.cellsOf p.1)) = some r' := by
  obtain ⟨b, hu, e, g⟩ := d.out;by_cases la : cs.length = P.cellsOf T
  · refine ⟨la.trans g, ?_⟩;have i : ∃ ys, b.toList.mapM (λf => DataW.trod enc P W 0 sp held fuel f.type ((cs.drop f.offset).take (P.cellsOf f.type))) = some ys := by
      unfold DataW.trod at h;simp only [hu, la, if_true] at h;cases hm : b.toList.mapM (λf => DataW.trod enc P W 0 sp held fuel f.type ((cs.drop f.offset).take (P.cellsOf f.type))) with
      | none => rw [hm] at h; cases h
      | some ys => exact ⟨ys, rfl⟩
    obtain ⟨ys, j⟩ := i;intro p c;rw [<- e] at c;obtain ⟨f, k, rfl⟩ := List.mem_map.1 c;exact AQ j f k
  · unfold DataW.trod at h;simp only [hu, la, if_false] at h;cases h
theorem ep {t : TypeId}{fuel : Nat}{cs : List Value}{r : DataW H × List MemPlace}(a : P.underlying t = some (.int .i64)) (h : DataW.trod enc P W 0 sp held fuel t cs = some r) : ∃ n, cs = [.int .i64 n]:= by
  obtain ⟨n, b, -, -⟩ := DataW.trod_int a h;exact ⟨n, b⟩
theorem ft {t : TypeId}{fuel : Nat}{cs : List Value}{r : DataW H × List MemPlace}(a : P.underlying t = some .string) (h : DataW.trod enc P W 0 sp held fuel t cs = some r) : ∃ s, cs = [S s]:= by
  obtain ⟨⟨⟨s⟩⟩, b, -, -⟩ := DataW.trod_string a h;exact ⟨s, b⟩
theorem EA {a : Addr}{m : Nat}{cs : List Value}(h : W.cells? 0 a m = some cs) : cs.length = m /\ ∀ i v, cs[i]? = some v -> W.cell? (a.add i) = some v := by
  unfold World.cells? at h;rw [if_pos (Nat.zero_le _)] at h;have la := mapM_some_length h;refine ⟨by simpa using la, λi v b => ?_⟩;have c : i < m := by have := (List.getElem?_eq_some_iff.1 b).1;rw [la] at this;simpa using this
  rw [<- b];exact mapM_some_get h i i (by simp [c])
theorem pw {α : Type}[Ja α]{fuel : Nat}{T e : TypeId}{cs : List Value}{r : DataW H × List MemPlace}(A : P.underlying T = some (.slice e)) (B : P.cellsOf e = Ja.sz α) (C : sq W μ) (h : DataW.trod enc P W 0 sp held fuel T cs = some r)
    (D : ∀ n cs r', n < fuel -> DataW.trod enc P W 0 sp held n e cs = some r' -> ∃ x : α, Ja.cs μ cs x) : ∃ (a : Option Addr) (c : Nat) (l : List α), cs = [.slice a l.length c] /\ za μ a c l := by
  rcases DataW.trod_slice A h with ⟨rfl, -⟩ | ⟨a, len, cap, elems, rest, n, rfl, rfl, -, -, R, u, S, E, -⟩
  · exact ⟨none, 0, [], rfl, za.nil⟩
  · rcases Nat.eq_zero_or_pos len with p | p
    · subst p;exact ⟨some a, cap, [], rfl, ⟨by simp, u, .inl rfl⟩⟩
    · have each : ∀ i, i < len -> ∃ cs, cs.length = Ja.sz α /\ (∀ j v, cs[j]? = some v -> W.cell? ((a.add (i * Ja.sz α)).add j) = some v) /\ ∃ x : α, Ja.cs μ cs x := by
        intro i d;have k := E i d;rw [B] at k;obtain ⟨y, F⟩ : ∃ y, elems[i]? = some y := ⟨_, List.getElem?_eq_getElem (by omega)⟩;rw [F] at k;cases m : W.cells? 0 (a.add (i * Ja.sz α)) (Ja.sz α) with
        | none => rw [m] at k; cases k
        | some cs =>
          rw [m] at k;exact ⟨cs, (EA m).1, (EA m).2, D n cs y (Nat.lt_succ_self _) k⟩
      have z : a.spot = none := by
        obtain ⟨cs, la, m, -⟩ := each 0 p;have U := Ja.pos (α := α);obtain ⟨v, Oa⟩ : ∃ v, cs[0]? = some v := ⟨_, List.getElem?_eq_getElem (by omega)⟩;have := m 0 v Oa;cases G : a.spot with
        | none => rfl
        | some q =>
          have e : ((a.add (0 * Ja.sz α)).add 0).spot = some q := by simp [Addr.add, G]
          unfold World.cell? at this;rw [e] at this;simp at this;split at this<;>cases this
      obtain ⟨b, o, s⟩ := a;simp only at z;subst z;have K : ∃ g : Nat -> List Value, ∃ f : Nat -> α, ∀ i, i < len -> (∀ j v, (g i)[j]? = some v -> W.cell? (((⟨b, o, none⟩ : Addr).add (i * Ja.sz α)).add j) = some v) /\ Ja.cs μ (g i) (f i):= by
        have ne : Nonempty α := by obtain ⟨_, -, -, x, -⟩ := each 0 p;exact ⟨x⟩
        refine ⟨λi => if d : i < len then Classical.choose (each i d) else [], λi => if d : i < len then Classical.choose (Classical.choose_spec (each i d)).2.2 else Classical.choice ne, λi d => ?_⟩;simp only [dif_pos d];exact ⟨(Classical.choose_spec (each i d)).2.1, Classical.choose_spec (Classical.choose_spec (each i d)).2.2⟩
      obtain ⟨g, f, L⟩ := K;refine ⟨some ⟨b, o, none⟩, cap, (List.range' 0 len).map f, by simp, ⟨by simp;omega, u, .inr ⟨b, o, rfl, g, λi x t => ?_⟩⟩⟩;have d : i < len := by
        have := (List.getElem?_eq_some_iff.1 t).1;simpa using this
      have M : x = f i := by
        rw [List.getElem?_map, List.getElem?_range' d] at t;simpa using t.symm
      obtain ⟨k1, N⟩ := L i d;rw [M];refine ⟨λw O j v Q => ?_, N⟩;have := k1 j v Q;rw [tk, tk] at this;exact Mx this (C w O)
structure Jp (P : Program) (Di Il Oi Tj Zi Bl Cj Dj ik Cl Ej qm : TypeId) : Prop where
  i : P.underlying Di = some (.int .i64)
  n : P.underlying Il = some (.int .i64)
  s : P.underlying Oi = some .string
  ty : Ud P Tj [(Di, 0), (Oi, 1)] 2
  ex : Ud P Zi [(Di, 0), (Il, 1), (Oi, 2), (Bl, 3)] 4
  es : P.underlying Bl = some (.slice Zi)
  st : Ud P Cj [(Di, 0), (Oi, 1), (Zi, 2), (Dj, 6), (Dj, 7)] 8
  fx : P.underlying Dj = some (.slice Cj)
  hz : Ud P ik [(Oi, 0), (Tj, 1)] 3
  zg : P.underlying Cl = some (.slice ik)
  gx : Ud P Ej [(Di, 0), (Oi, 1), (Tj, 2), (Tj, 4), (Di, 6), (Cl, 7), (Dj, 8)] 9
  ds : P.underlying qm = some (.slice Ej)
  one : P.cellsOf Di = 1 /\ P.cellsOf Il = 1 /\ P.cellsOf Oi = 1 /\ P.cellsOf Bl = 1 /\ P.cellsOf Dj = 1 /\ P.cellsOf Cl = 1
variable {Di Il Oi Tj Zi Bl Cj Dj ik Cl Ej qm : TypeId}
theorem By (L : Jp P Di Il Oi Tj Zi Bl Cj Dj ik Cl Ej qm){fuel : Nat}{cs : List Value}{r : DataW H × List MemPlace}(h : DataW.trod enc P W 0 sp held fuel Tj cs = some r) : ∃ t : Qa, cs = [.int .i64 t.Kind, S t.xc]:= by
  cases fuel with
  | zero => cases h
  | succ fuel =>
    obtain ⟨la, c⟩ := Ay L.ty h;obtain ⟨_, d⟩ := c (Di, 0) (by simp);obtain ⟨_, e⟩ := c (Oi, 1) (by simp);simp only [L.one] at d e
    match cs, la with
    | [a, b], _ =>
      obtain ⟨k, lb⟩ := ep L.i d;obtain ⟨g, sa⟩ := ft L.s e;simp at lb sa;subst lb;subst sa;exact ⟨⟨k, g⟩, rfl⟩
theorem OV (L : Jp P Di Il Oi Tj Zi Bl Cj Dj ik Cl Ej qm) (v : sq W μ) : ∀ (n fuel : Nat) (cs : List Value) (r : DataW H × List MemPlace), fuel <= n -> DataW.trod enc P W 0 sp held fuel Zi cs = some r -> ∃ x : Na, Ja.cs μ cs x := by
  intro n
  induction n with
  | zero => intro fuel cs r w h; cases fuel with | zero => cases h | succ f => omega
  | succ n y =>
    intro fuel cs r w h;cases fuel with
    | zero => cases h
    | succ fuel =>
      obtain ⟨la, e⟩ := Ay L.ex h;obtain ⟨_, j⟩ := e (Di, 0) (by simp);obtain ⟨_, o⟩ := e (Il, 1) (by simp);obtain ⟨_, p⟩ := e (Oi, 2) (by simp);obtain ⟨_, q⟩ := e (Bl, 3) (by simp);simp only [L.one] at j o p q
      match cs, la with
      | [a, b, c, d], _ =>
        obtain ⟨k, lb⟩ := ep L.i j;obtain ⟨m, sa⟩ := ep L.n o;obtain ⟨g, t⟩ := ft L.s p;obtain ⟨z, c', l, u, A⟩ := pw (α := Na) L.es L.ex.size v q λf cs r' e h => y f cs r' (by omega) h;simp at lb sa t u;subst lb;subst sa;subst t;subst u;exact ⟨⟨k, m, g, l⟩, Na.i ⟨z, c', rfl, A⟩⟩
theorem PV (L : Jp P Di Il Oi Tj Zi Bl Cj Dj ik Cl Ej qm) (j : sq W μ) : ∀ (n fuel : Nat) (cs : List Value) (r : DataW H × List MemPlace), fuel <= n -> DataW.trod enc P W 0 sp held fuel Cj cs = some r -> ∃ x : Pa, Ja.cs μ cs x := by
  intro n
  induction n with
  | zero => intro fuel cs r z h; cases fuel with | zero => cases h | succ f => omega
  | succ n m =>
    intro fuel cs r z h;cases fuel with
    | zero => cases h
    | succ fuel =>
      obtain ⟨la, c⟩ := Ay L.st h;obtain ⟨_, p⟩ := c (Di, 0) (by simp);obtain ⟨_, q⟩ := c (Oi, 1) (by simp);obtain ⟨_, t⟩ := c (Zi, 2) (by simp);obtain ⟨_, u⟩ := c (Dj, 6) (by simp);obtain ⟨_, v⟩ := c (Dj, 7) (by simp);simp only [L.one, L.ex.size] at p q t u v
      match cs, la with
      | [a, b, c0, gb, c2, c3, d, e], _ =>
        obtain ⟨k, lb⟩ := ep L.i p;obtain ⟨g, sa⟩ := ft L.s q;obtain ⟨x, A⟩ := OV L j _ _ _ _ (Nat.le_refl _) t;obtain ⟨B, C, l, w, D⟩ := pw (α := Pa) L.fx L.st.size j u λf cs r' c h => m f cs r' (by omega) h;obtain ⟨E, F, Aa, y, Xe⟩ := pw (α := Pa) L.fx L.st.size j v λf cs r' c h => m f cs r' (by omega) h;obtain ⟨pa, G, db, k1⟩ := Na.o A;simp at lb sa w y db;obtain ⟨rfl, rfl, rfl, rfl⟩ := db;subst lb;subst sa;subst w;subst y;exact ⟨⟨k, g, x, l, Aa⟩, Pa.i ⟨pa, G, B, C, E, F, rfl, k1, D, Xe⟩⟩
theorem bL (L : Jp P Di Il Oi Tj Zi Bl Cj Dj ik Cl Ej qm){fuel : Nat}{cs : List Value}{r : DataW H × List MemPlace}(h : DataW.trod enc P W 0 sp held fuel ik cs = some r) : ∃ x : TParam, Ja.cs μ cs x := by
  cases fuel with
  | zero => cases h
  | succ n =>
    obtain ⟨la, d⟩ := Ay L.hz h;obtain ⟨_, e⟩ := d (Oi, 0) (by simp);obtain ⟨_, f⟩ := d (Tj, 1) (by simp);simp only [L.one, L.ty.size] at e f
    match cs, la with
    | [a, b, c], _ =>
      obtain ⟨hc, lb⟩ := ft L.s e;obtain ⟨t, sa⟩ := By L f;simp at lb sa;obtain ⟨rfl, rfl⟩ := sa;subst lb;exact ⟨⟨hc, t⟩, rfl⟩
theorem QV (L : Jp P Di Il Oi Tj Zi Bl Cj Dj ik Cl Ej qm) (d : sq W μ){fuel : Nat}{cs : List Value}{r : DataW H × List MemPlace}(h : DataW.trod enc P W 0 sp held fuel Ej cs = some r) : ∃ x : va, Ja.cs μ cs x := by
  cases fuel with
  | zero => cases h
  | succ fuel =>
    obtain ⟨la, c⟩ := Ay L.gx h;obtain ⟨_, j⟩ := c (Di, 0) (by simp);obtain ⟨_, m⟩ := c (Oi, 1) (by simp);obtain ⟨_, o⟩ := c (Tj, 2) (by simp);obtain ⟨_, p⟩ := c (Tj, 4) (by simp);obtain ⟨_, q⟩ := c (Di, 6) (by simp);obtain ⟨_, u⟩ := c (Cl, 7) (by simp);obtain ⟨_, v⟩ := c (Dj, 8) (by simp);simp only [L.one, L.ty.size] at j m o p q u v
    match cs, la with
    | [a, b, c0, gb, d0, d1, e, f, g], _ =>
      obtain ⟨k, lb⟩ := ep L.i j;obtain ⟨hc, sa⟩ := ft L.s m;obtain ⟨t, w⟩ := By L o;obtain ⟨cb, y⟩ := By L p;obtain ⟨bj, z⟩ := ep L.i q;obtain ⟨pa, C, l, A, D⟩ := pw (α := TParam) L.zg L.hz.size d u λn cs r' _ h => bL L h;obtain ⟨E, F, Aa, B, G⟩ := pw (α := Pa) L.fx L.st.size d v λn cs r' _ h => PV L d _ _ _ _ (Nat.le_refl _) h;simp at lb sa w y z A B;obtain ⟨rfl, rfl⟩ := w;obtain ⟨rfl, rfl⟩ := y;subst lb;subst sa;subst z;subst A;subst B;exact ⟨⟨k, hc, t, cb, bj, l, Aa⟩, pa, C, E, F, rfl, D, G⟩
theorem EZ (L : Jp P Di Il Oi Tj Zi Bl Cj Dj ik Cl Ej qm) (b : sq W μ){v : Value}{d : DataW H}{zg : List MemPlace}(h : DataW.Trod enc P W 0 sp held qm v d zg) (Oa : v.cells.toList = [v]) : ∃ (a : Option Addr) (c : Nat) (l : List va), v = .slice a l.length c /\ za μ a c l := by
  obtain ⟨fuel, h⟩ := h;obtain ⟨a, c, l, e, k⟩ := pw (α := va) L.ds L.gx.size b h λn cs r' _ h => QV L b h;rw [Oa] at e;cases e;exact ⟨a, c, l, rfl, k⟩
end
end Go.Re
namespace Go.Re
open Go.Bc Go.RowKit Go.ChangeShapes Go.Y
section
variable {H : Type}{enc : TypeId × Value -> H}{P : Program}{W : World}{sp : Nat -> Bool}{held : Bool}{μ : M}
def Kp (P : Program) (T : TypeId) (d : DataW H) : Prop := ∀ n ∈ d.weights P T, n <= reachBytes
theorem BQ {α β : Type}{f : α -> Option β} : ∀ {l : List α}{ys : List β}, l.mapM f = some ys -> ys.length = l.length /\ ∀ (i : Nat) (x : α), l[i]? = some x -> ∃ y, ys[i]? = some y /\ f x = some y := by
  intro l
  induction l with
  | nil => intro ys h; cases h; exact ⟨rfl, λi x c => by simp at c⟩
  | cons a l e =>
    intro ys h;rw [List.mapM_cons] at h;cases d : f a with
    | none => rw [d] at h; cases h
    | some b =>
      rw [d] at h;cases la : l.mapM f with
      | none => rw [la] at h; cases h
      | some bs =>
        rw [la] at h;cases h;obtain ⟨g, j⟩ := e la;refine ⟨by simp [g], λi x c => ?_⟩;cases i with
        | zero => cases c; exact ⟨b, rfl, d⟩
        | succ i => exact j i x c
theorem OF {T : TypeId}{a : List (TypeId × Nat)}{n fuel : Nat}{cs : List Value}{r : DataW H × List MemPlace}(e : Ud P T a n) (h : DataW.trod enc P W 0 sp held (fuel + 1) T cs = some r) (g : Kp P T r.1) :
    cs.length = n /\ ∀ (i : Nat) (p : TypeId × Nat), a[i]? = some p -> ∃ r', DataW.trod enc P W 0 sp held fuel p.1 ((cs.drop p.2).take (P.cellsOf p.1)) = some r' /\ Kp P p.1 r'.1 := by
  obtain ⟨b, hu, l, m⟩ := e.out;by_cases la : cs.length = P.cellsOf T
  · refine ⟨la.trans m, ?_⟩;have o : ∃ ys, b.toList.mapM (λf => DataW.trod enc P W 0 sp held fuel f.type ((cs.drop f.offset).take (P.cellsOf f.type))) = some ys /\ r.1 = .agg (ys.map (·.1)):= by
      unfold DataW.trod at h;simp only [hu, la, if_true] at h;cases hm : b.toList.mapM (λf => DataW.trod enc P W 0 sp held fuel f.type ((cs.drop f.offset).take (P.cellsOf f.type))) with
      | none => rw [hm] at h; cases h
      | some ys => rw [hm] at h; cases h; exact ⟨ys, rfl, rfl⟩
    obtain ⟨ys, q, s⟩ := o;obtain ⟨w, m2⟩ := BQ q;intro i p c;rw [<- l, List.getElem?_map] at c;obtain ⟨f, d, rfl⟩ := Option.map_eq_some_iff.1 c;obtain ⟨y, t, u⟩ := m2 i f d;refine ⟨y, u, λk v => g k ?_⟩;rw [s, DataW.weights, hu];exact DataW.weights_mem_each (j := i) (by rw [List.getElem?_map, d];rfl) (by rw [List.getElem?_map, t];rfl) k v
  · unfold DataW.trod at h;simp only [hu, la, if_false] at h;cases h
theorem hH {e : TypeId} : ∀ {ds : List (DataW H)}{i : Nat}{d : DataW H}, ds[i]? = some d -> ∀ n ∈ d.weights P e, n ∈ DataW.weightsAll P e ds
  | d0 :: ds, 0, d, h, n, a => by
    cases h;rw [DataW.weightsAll];exact List.mem_append.2 (.inl a)
  | d0 :: ds, i + 1, d, h, n, a => by
    rw [DataW.weightsAll];exact List.mem_append.2 (.inr (hH (i := i) (by simpa using h) n a))
  | [], i, d, h, n, a => by simp at h
theorem gw {α : Type}[Ja α]{B : Nat}{Rz : α -> Prop}{fuel : Nat}{T e : TypeId}{cs : List Value}{r : DataW H × List MemPlace}(A : P.underlying T = some (.slice e)) (L : P.cellsOf e = Ja.sz α) (Gb : reachBytes < (B + 1) * P.bytesOf e) (M : sq W μ) (h : DataW.trod enc P W 0 sp held fuel T cs = some r) (D : Kp P T r.1)
    (N : ∀ n cs r', n < fuel -> DataW.trod enc P W 0 sp held n e cs = some r' -> Kp P e r'.1 -> ∃ x : α, Ja.cs μ cs x /\ Rz x) : ∃ (a : Option Addr) (c : Nat) (l : List α), cs = [.slice a l.length c] /\ za μ a c l /\ l.length <= B /\ ∀ x ∈ l, Rz x := by
  rcases DataW.trod_slice A h with ⟨rfl, -⟩ | ⟨a, len, cap, elems, rest, n, rfl, rfl, E, -, gc, F, O, Q, -⟩
  · exact ⟨none, 0, [], rfl, za.nil, by simp, by simp⟩
  · have C : (elems.length + rest.length) * P.bytesOf e <= reachBytes := D _ (by rw [E];simp [DataW.weights, A]);have hB : len <= B := by
      rw [O] at C;rcases Nat.lt_or_ge B len with c | c
      · have : (B + 1) * P.bytesOf e <= (len + rest.length) * P.bytesOf e := Nat.mul_le_mul_right _ (by omega);omega
      · exact c
    have R : ∀ (i : Nat) (y : DataW H × List MemPlace), elems[i]? = some y -> Kp P e y.1 := λi y u k S => D k (by
      rw [E];simp only [DataW.weights, A];refine List.mem_cons_of_mem _ (List.mem_append.2 (.inl ?_));exact hH (i := i) (by rw [List.getElem?_map, u];rfl) k S)
    rcases Nat.eq_zero_or_pos len with z | z
    · subst z;exact ⟨some a, cap, [], rfl, ⟨by simp, F, .inl rfl⟩, by simp, by simp⟩
    · have each : ∀ i, i < len -> ∃ cs, cs.length = Ja.sz α /\ (∀ j v, cs[j]? = some v -> W.cell? ((a.add (i * Ja.sz α)).add j) = some v) /\ ∃ x : α, Ja.cs μ cs x /\ Rz x := by
        intro i d;have m := Q i d;rw [L] at m;obtain ⟨y, u⟩ : ∃ y, elems[i]? = some y := ⟨_, List.getElem?_eq_getElem (by omega)⟩;rw [u] at m;cases p : W.cells? 0 (a.add (i * Ja.sz α)) (Ja.sz α) with
        | none => rw [p] at m; cases m
        | some cs =>
          rw [p] at m;exact ⟨cs, (EA p).1, (EA p).2, N n cs y (Nat.lt_succ_self _) m (R i y u)⟩
      have G : a.spot = none := by
        obtain ⟨cs, la, p, -⟩ := each 0 z;have lc := Ja.pos (α := α);obtain ⟨v, Oa⟩ : ∃ v, cs[0]? = some v := ⟨_, List.getElem?_eq_getElem (by omega)⟩;have := p 0 v Oa;cases U : a.spot with
        | none => rfl
        | some q =>
          have e : ((a.add (0 * Ja.sz α)).add 0).spot = some q := by simp [Addr.add, U]
          unfold World.cell? at this;rw [e] at this;simp at this;split at this<;>cases this
      obtain ⟨b, o, s⟩ := a;simp only at G;subst G;have V : ∃ g : Nat -> List Value, ∃ f : Nat -> α, ∀ i, i < len -> (∀ j v, (g i)[j]? = some v -> W.cell? (((⟨b, o, none⟩ : Addr).add (i * Ja.sz α)).add j) = some v) /\ Ja.cs μ (g i) (f i) /\ Rz (f i):= by
        have ne : Nonempty α := by obtain ⟨_, -, -, x, -⟩ := each 0 z;exact ⟨x⟩
        refine ⟨λi => if d : i < len then Classical.choose (each i d) else [], λi => if d : i < len then Classical.choose (Classical.choose_spec (each i d)).2.2 else Classical.choice ne, λi d => ?_⟩;simp only [dif_pos d];exact ⟨(Classical.choose_spec (each i d)).2.1, Classical.choose_spec (Classical.choose_spec (each i d)).2.2⟩
      obtain ⟨g, f, K⟩ := V;refine ⟨some ⟨b, o, none⟩, cap, (List.range' 0 len).map f, by simp, ⟨by simp;omega, F, .inr ⟨b, o, rfl, g, λi x t => ?_⟩⟩, by simp;omega, λx t => ?_⟩
      · have d : i < len := by
          have := (List.getElem?_eq_some_iff.1 t).1;simpa using this
        have X : x = f i := by
          rw [List.getElem?_map, List.getElem?_range' d] at t;simpa using t.symm
        obtain ⟨k1, Y, -⟩ := K i d;rw [X];refine ⟨λw C j v Z => ?_, Y⟩;have := k1 j v Z;rw [tk, tk] at this;exact Mx this (M w C)
      · obtain ⟨i, d, rfl⟩ := List.mem_map.1 t;have bb : i < len := by simpa using (List.mem_range'_1.1 d).2
        exact (K i bb).2.2
structure iz (P : Program) (Zi Cj ik Ej : TypeId) : Prop where
  ex : P.bytesOf Zi = 56
  st : P.bytesOf Cj = 128
  hz : P.bytesOf ik = 40
  gx : P.bytesOf Ej = 128
variable {Di Il Oi Tj Zi Bl Cj Dj ik Cl Ej qm : TypeId}
theorem jU (L : Jp P Di Il Oi Tj Zi Bl Cj Dj ik Cl Ej qm) (Z : iz P Zi Cj ik Ej) (v : sq W μ) : ∀ (n fuel : Nat) (cs : List Value) (r : DataW H × List MemPlace), fuel <= n -> DataW.trod enc P W 0 sp held fuel Zi cs = some r -> Kp P Zi r.1 -> ∃ x : Na, Ja.cs μ cs x /\ lC n x := by
  intro n
  induction n with
  | zero => intro fuel cs r w h; cases fuel with | zero => cases h | succ f => omega
  | succ n y =>
    intro fuel cs r w h A;cases fuel with
    | zero => cases h
    | succ fuel =>
      obtain ⟨la, e⟩ := OF L.ex h A;obtain ⟨_, j, -⟩ := e 0 (Di, 0) rfl;obtain ⟨_, o, -⟩ := e 1 (Il, 1) rfl;obtain ⟨_, p, -⟩ := e 2 (Oi, 2) rfl;obtain ⟨_, q, z3⟩ := e 3 (Bl, 3) rfl;simp only [L.one] at j o p q
      match cs, la with
      | [a, b, c, d], _ =>
        obtain ⟨k, lb⟩ := ep L.i j;obtain ⟨m, sa⟩ := ep L.n o;obtain ⟨g, t⟩ := ft L.s p;obtain ⟨C, c', l, u, D, s1, s2⟩ := gw (α := Na) (B := 2513169434916) (Rz := lC n) L.es L.ex.size (by rw [Z.ex];decide) v q z3 λf cs r' e h z => y f cs r' (by omega) h z;simp at lb sa t u;subst lb;subst sa;subst t;subst u;exact ⟨⟨k, m, g, l⟩, Na.i ⟨C, c', rfl, D⟩, s1, s2⟩
theorem kU (L : Jp P Di Il Oi Tj Zi Bl Cj Dj ik Cl Ej qm) (Z : iz P Zi Cj ik Ej) (j : sq W μ) : ∀ (n fuel : Nat) (cs : List Value) (r : DataW H × List MemPlace), fuel <= n -> DataW.trod enc P W 0 sp held fuel Cj cs = some r -> Kp P Cj r.1 -> ∃ x : Pa, Ja.cs μ cs x /\ gv n x := by
  intro n
  induction n with
  | zero => intro fuel cs r A h; cases fuel with | zero => cases h | succ f => omega
  | succ n m =>
    intro fuel cs r A h C;cases fuel with
    | zero => cases h
    | succ fuel =>
      obtain ⟨la, c⟩ := OF L.st h C;obtain ⟨_, p, -⟩ := c 0 (Di, 0) rfl;obtain ⟨_, q, -⟩ := c 1 (Oi, 1) rfl;obtain ⟨_, t, z2⟩ := c 2 (Zi, 2) rfl;obtain ⟨_, u, z3⟩ := c 3 (Dj, 6) rfl;obtain ⟨_, v, z4⟩ := c 4 (Dj, 7) rfl;simp only [L.one, L.ex.size] at p q t u v
      match cs, la with
      | [a, b, c0, gb, c2, c3, d, e], _ =>
        obtain ⟨k, lb⟩ := ep L.i p;obtain ⟨g, sa⟩ := ft L.s q;obtain ⟨x, D, ue⟩ := jU L Z j n _ _ _ (by omega) t z2;obtain ⟨E, F, l, w, G, K, M⟩ := gw (α := Pa) (B := 1099511627776) (Rz := gv n) L.fx L.st.size (by rw [Z.st];decide) j u z3 λf cs r' c h z => m f cs r' (by omega) h z;obtain ⟨N, O, Aa, y, Xe, Q, R⟩ := gw (α := Pa) (B := 1099511627776) (Rz := gv n) L.fx L.st.size (by rw [Z.st];decide) j v z4 λf cs r' c h z => m f cs r' (by omega) h z;obtain ⟨pa, S, db, k1⟩ := Na.o D;simp at lb sa w y db;obtain ⟨rfl, rfl, rfl, rfl⟩ := db;subst lb;subst sa;subst w;subst y;exact ⟨⟨k, g, x, l, Aa⟩, Pa.i ⟨pa, S, E, F, N, O, rfl, k1, G, Xe⟩, ue, ⟨K, M⟩, ⟨Q, R⟩⟩
theorem lU (L : Jp P Di Il Oi Tj Zi Bl Cj Dj ik Cl Ej qm) (Z : iz P Zi Cj ik Ej) (d : sq W μ){n fuel : Nat}(S : fuel <= n){cs : List Value}{r : DataW H × List MemPlace}(h : DataW.trod enc P W 0 sp held fuel Ej cs = some r) (F : Kp P Ej r.1) : ∃ x : va, Ja.cs μ cs x /\ QG n x := by
  cases fuel with
  | zero => cases h
  | succ fuel =>
    obtain ⟨la, c⟩ := OF L.gx h F;obtain ⟨_, j, -⟩ := c 0 (Di, 0) rfl;obtain ⟨_, o, -⟩ := c 1 (Oi, 1) rfl;obtain ⟨_, p, -⟩ := c 2 (Tj, 2) rfl;obtain ⟨_, q, -⟩ := c 3 (Tj, 4) rfl;obtain ⟨_, u, -⟩ := c 4 (Di, 6) rfl;obtain ⟨_, v, z5⟩ := c 5 (Cl, 7) rfl;obtain ⟨_, w, G⟩ := c 6 (Dj, 8) rfl;simp only [L.one, L.ty.size] at j o p q u v w
    match cs, la with
    | [a, b, c0, gb, d0, d1, e, f, g], _ =>
      obtain ⟨k, lb⟩ := ep L.i j;obtain ⟨hc, sa⟩ := ft L.s o;obtain ⟨t, y⟩ := By L p;obtain ⟨cb, A⟩ := By L q;obtain ⟨bj, C⟩ := ep L.i u;obtain ⟨pa, K, l, D, M, s1, -⟩ := gw (α := TParam) (B := 3518437208883) (Rz := λ_ => True) L.zg L.hz.size (by rw [Z.hz];decide) d v z5 λn cs r' _ h _ => (bL L h).imp λ_ h => ⟨h, trivial⟩;obtain ⟨N, O, Aa, E, Q, s2, R⟩ := gw (α := Pa) (B := 1099511627776) (Rz := gv n) L.fx L.st.size (by rw [Z.st];decide) d w G λm cs r' T h z => kU L Z d n m _ _ (by omega) h z;simp at lb sa y A C D E;obtain ⟨rfl, rfl⟩ := y;obtain ⟨rfl, rfl⟩ := A;subst lb;subst sa;subst C;subst D;subst E;exact ⟨⟨k, hc, t, cb, bj, l, Aa⟩, ⟨pa, K, N, O, rfl, M, Q⟩, s1, s2, R⟩
theorem CQ (L : Jp P Di Il Oi Tj Zi Bl Cj Dj ik Cl Ej qm) (Z : iz P Zi Cj ik Ej) (b : sq W μ){v : Value}{d : DataW H}{zg : List MemPlace}(h : DataW.Trod enc P W 0 sp held qm v d zg) (f : Kp P qm d) (Oa : v.cells.toList = [v]) : ∃ (a : Option Addr) (c : Nat) (l : List va) (k : Nat), v = .slice a l.length c /\ za μ a c l /\ KL k l := by
  obtain ⟨fuel, h⟩ := h;obtain ⟨a, c, l, e, k, g, i⟩ := gw (α := va) (B := 1099511627776) (Rz := QG fuel) L.ds L.gx.size (by rw [Z.gx];decide) b h f λn cs r' j h z => lU L Z b (by omega) h z;rw [Oa] at e;cases e;exact ⟨a, c, l, fuel, rfl, k, g, i⟩
theorem RV {na us : List TypeId}{ds gs : List (DataW H)}(h : (DataW.weightsEach P (na ++ us) (ds ++ gs)).all (· <= reachBytes) = true){j : Nat}{t : TypeId}{d : DataW H}(a : na[j]? = some t) (Ca : ds[j]? = some d) : Kp P t d := by
  intro n b;refine of_decide_eq_true (List.all_eq_true.1 h n (DataW.weights_mem_each (j := j) (t := t) (d := d) ?_ ?_ n b))
  · rw [List.getElem?_append_left (List.getElem?_eq_some_iff.1 a).1];exact a
  · rw [List.getElem?_append_left (List.getElem?_eq_some_iff.1 Ca).1];exact Ca
end
end Go.Re
namespace Go.Proofs.YtafjdiifkckmbaaGreatDoor.topCopies
open Go.Bc Go.Re Go.Y Go.ChangeShapes Go.WideShapes Go.ChangeAt Go.RowKit
theorem SV {fu : Nat}{c : List va}{e : Option Addr}{f : Nat}{g : Int}(W : World) (i : dm (λ_ => True) W Kb) (j : za (λw => Kb w /\ ∀ k, k < W.heap.size -> w.heap[k]? = W.heap[k]?) e f c)  (l : Sx fu c g = some true) :
    kb Tryz.prog 4 [.slice e c.length f, .int .i64 g] W λv w => v = .bool true /\ Grow W w := by
  have m : fa (λw => Kb w /\ ∀ k, k < W.heap.size -> w.heap[k]? = W.heap[k]?) W W []:= Sep.start W _ _ (i.and λw' _ n k d => n k d trivial);refine (YN (fu := fu) (λ_ h => h.1) j l m).mono ?_;rintro v w' ⟨J, rfl, hle, b⟩;have d := hle _ b.a;exact ⟨rfl, b.keeps.os, b.keeps.tape, b.keeps.output, b.keeps.size, λk o _ => d.2 k o⟩
theorem hf : Jp Tryz.prog 3 2 9 41 175 173 177 43 211 42 45 22 := ⟨Tryz.underlying3, Tryz.underlying2, Tryz.underlying9, ⟨⟨_, Tryz.underlying41, by kernel_rfl, by kernel_rfl⟩⟩, ⟨⟨_, Tryz.underlying175, by kernel_rfl, by kernel_rfl⟩⟩, Tryz.underlying173, ⟨⟨_, Tryz.underlying177, by kernel_rfl, by kernel_rfl⟩⟩, Tryz.underlying43, ⟨⟨_, Tryz.underlying211, by kernel_rfl, by kernel_rfl⟩⟩, Tryz.underlying42, ⟨⟨_, Tryz.underlying45, by kernel_rfl, by kernel_rfl⟩⟩, Tryz.underlying22, by kernel_rfl, by kernel_rfl, by kernel_rfl, by kernel_rfl, by kernel_rfl, by kernel_rfl⟩
theorem Od : iz Tryz.prog 175 177 211 45 := ⟨by kernel_rfl, by kernel_rfl, by kernel_rfl, by kernel_rfl⟩
theorem own : ownKnob Tryz.prog.godebug = none := by kernel_rfl
theorem laidOut : laidOutB Tryz.prog = true := by kernel_rfl
set_option maxRecDepth 100000 in
set_option maxHeartbeats 4000000 in
theorem DQ (H : Type) (enc : TypeId × Value -> H) (W : World) (base : Nat) (args : Array Value) (ds gs : List (DataW H)) (before : List MemPlace)
    (b : ∀ (j : Nat) t v, Tryz.f4.params[j]? = some t -> args[j]? = some v -> Value.okWide Tryz.prog W .any base t v)
    (o : DataW.Whole enc Tryz.prog Tryz.f4.params.toList Rows.topCopiesSpec.vars false W args.toList ds gs before) (B : ∀ (j : Nat) t d, Tryz.f4.params.toList[j]? = some t -> ds[j]? = some d -> Kp Tryz.prog t d) (C : W.ShapedOpen Tryz.prog) :
    Calls Tryz.prog 4 args W λe r => ∃ v, e = .returned v /\ Rows.topCopiesSpec.post enc Tryz.prog Tryz.f4 false true false false W args v r := by
  have f := o;obtain ⟨p, q, s, D, rfl, V, X⟩ := o;have u : DataW.TrodAll enc Tryz.prog W 0 (λ_ => true) true Tryz.f4.params.toList args.toList ds p := s;rw [Tryz.params4] at u b;obtain ⟨a, Y, E, Z, Ba, bb, Gb, rfl, rfl, y, F⟩ := trodAll_cons u;obtain ⟨z, gc, lc, rc, pb, fd, G, rfl, rfl, K, L⟩ := trodAll_cons F;obtain ⟨rfl, rfl, rfl⟩ := trodAll_nil L;try (obtain rfl := G)
  obtain rfl : args = #[a, z]:= by cases args;simp_all
  obtain ⟨rfl, rfl⟩ := trodVars_none D;clear s;simp only [List.append_nil] at f;have A := f.lt;have M : a.cells.toList = [a]:= by obtain ⟨_, _, _, rfl⟩ := okWide_slice Tryz.underlying22 (b 0 22 a rfl rfl);rfl
  obtain ⟨id, c0, md, z0, N, m0, O⟩ := CQ (μ := λw => Kb w /\ ∀ k, k < W.heap.size -> w.heap[k]? = W.heap[k]?) hf Od (λw h => h.2) y (B 0 22 E (by rw [Tryz.params4];rfl) rfl) M;obtain ⟨Q, R⟩ := okWide_int Tryz.underlying3 (b 1 3 z rfl rfl);obtain ⟨m, hm⟩ := cell_of_shapedOpen_int (P := Tryz.prog) (g := 2) (t := 3) (zero := #[.int .i64 0]) C (of_decide_eq_true (by kernel_rfl)) (by kernel_rfl) (by kernel_rfl) (by kernel_rfl) (by kernel_rfl) Tryz.underlying3;have S : dm (λ_ => True) W Kb := λw' _ T => ⟨m, Mx hm λk U => T k U trivial⟩;have walk := (SV W S m0 (ZM _ _ O Q)).out;rw [<- N] at walk;rw [<- R] at walk;refine walk.mono λe r i => ?_;cases e with
  | panicked c => exact i.elim
  | outgrown => exact i.elim
  | returned v =>
    obtain ⟨rfl, l⟩ := i;exact ⟨_, rfl, _, _, _, [], _, [], f, trodAll_cons_mk (shut_bool Tryz.underlying4 _) trodAll_mk0, (trodAll_cons_mk (Below.trod laidOut (by kernel_rfl) (of_decide_eq_true (by kernel_rfl)) y l.below (λx n => A x (by simp [n]))) (trodAll_cons_mk (Below.trod laidOut (by kernel_rfl) (of_decide_eq_true (by kernel_rfl)) K l.below (λx n => A x (by simp [n]))) trodAll_mk0)), rfl, l.below.frame _, λh => by cases h⟩
theorem QW : (World.laidAll Tryz.prog default Rows.topCopiesRow.laid).os = default := World.laidAll_os _ _ _
set_option maxRecDepth 100000 in
theorem lifted (os : Os) (started : os.Started) (H : Type) (enc : TypeId × Value -> H) (F : Stop.Interp) :
    ReturnsInHanded {} Tryz.checked os 4 .any ((OpenSpec.ofChange Rows.topCopiesSpec).preRow enc Tryz.prog Tryz.f4 Rows.topCopiesRow.domain false Rows.topCopiesRow.laid) (((OpenSpec.ofChange Rows.topCopiesSpec).at F).post enc Tryz.prog Tryz.f4 false true false false):= by
  have a : ∃ places, DataW.whole enc Tryz.prog ((World.laidAll Tryz.prog os Rows.topCopiesRow.laid).forCall (λ_ _ => 0) ⟨#[], #[.slice none 0 0, .int .i64 0], []⟩).memory Tryz.f4.params.toList Rows.topCopiesSpec.vars false (#[.slice none 0 0, .int .i64 0] : Array Value).toList 8 = some ([.nil, .lit (.int .i64 0)], [], places):= ⟨[], by kernel_rfl⟩;obtain ⟨places, a⟩ := a;have b : Input.okWideB Tryz.prog ((World.laidAll Tryz.prog os Rows.topCopiesRow.laid).forCall (λ_ _ => 0) ⟨#[], #[.slice none 0 0, .int .i64 0], []⟩) 4 ⟨#[], #[.slice none 0 0, .int .i64 0], []⟩ = true := by kernel_rfl
  refine returnsInHanded_of_row (C := Tryz.checked) (s := OpenSpec.ofChange Rows.topCopiesSpec) own started (by kernel_rfl) Tryz.func4
    ⟨World.laidAll Tryz.prog os Rows.topCopiesRow.laid, λ_ _ => 0, ⟨#[], #[.slice none 0 0, .int .i64 0], []⟩, World.laidAll_os _ _ _, World.shaped_of_ZipB (by kernel_rfl) (by kernel_rfl), (Input.okWide_of_okWideB (base := 0) b).1, (Input.okWide_of_okWideB b).2,
      OpenSpec.preRow_of_cond 8 a (by kernel_rfl) (λk c => by cases c) (by kernel_rfl) (by rw [MakeChecks.laidMetH_plain _ _ _ (by kernel_rfl)];exact laidMet_laidAll _ (by kernel_rfl) (by kernel_rfl)), by
        simp only [Assume.holds];exact ⟨by simp, by simp, λ_ => Modest.zero, by simp, by simp⟩⟩ ?_
  intro W base args ds gs before e f _ c g l h _;exact DQ H enc W base args ds gs before e f (λj t d i Ca => RV g i Ca) h
theorem said : Rows.TopCopiesSaid :=
  OpenClaim.holds_of_cond 4 Tryz.f4 rfl rfl rfl rfl rfl rfl rfl ⟨rfl, rfl, rfl, rfl, rfl⟩ rfl rfl rfl rfl rfl (by kernel_rfl) Tryz.func4 (by kernel_rfl)
    (of_decide_eq_true (by kernel_rfl)) (by unfold Func.isWrapper;first | (rw [if_pos (by decide +kernel)];kernel_rfl) | (rw [if_neg (by decide +kernel)];exact ⟨rfl, rfl⟩))
    (λos started H enc _ F => by rw [OpenClaim.pre_eq_preRow];exact lifted os started H enc F)
theorem plain (f : FuncId) (fn : Func) (c : Tryz.pinned.checked.prog.funcNamed Rows.topCopiesRow.func = some f) (d : Tryz.pinned.checked.prog.funcs[f]? = some fn) :
    true = Tryz.pinned.checked.prog.looks [] /\ ∀ (j : Nat) t, fn.params[j]? = some t -> Tryz.pinned.checked.prog.wantsStandIn t = false := by
  obtain rfl : f = 4 := Option.some.inj ((show Tryz.prog.funcNamed Rows.topCopiesRow.func = some 4 by kernel_rfl).symm.trans c) |>.symm;obtain rfl : fn = Tryz.f4 := (Option.some.inj (Tryz.func4.symm.trans d)).symm;refine ⟨by kernel_rfl, λj t a => ?_⟩;rw [Tryz.params4] at a;have b : t ∈ [3, 22]:= by
    first
      | simpa using Array.mem_of_getElem? a
      | (have := Array.mem_of_getElem? a; simp at this ⊢; exact this.symm)
  simp only [List.mem_cons, List.not_mem_nil, or_false] at b;rcases b with rfl | rfl
  · exact (show Tryz.prog.wantsStandIn 3 = false by kernel_rfl)
  · exact (show Tryz.prog.wantsStandIn 22 = false by kernel_rfl)
theorem card : Rows.TopCopiesCardSaid :=
  Claim7.holds_tied_plain_at .later [] _ _ _ _ said (λ_ h => by cases h) (by kernel_rfl) (λ_ h => by cases h) topCopies_row_tie rfl ⟨rfl, rfl⟩ (by kernel_rfl) rfl plain (by kernel_rfl)
end Go.Proofs.YtafjdiifkckmbaaGreatDoor.topCopies
