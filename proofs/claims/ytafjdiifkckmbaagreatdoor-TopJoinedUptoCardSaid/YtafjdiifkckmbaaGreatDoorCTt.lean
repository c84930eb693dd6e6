/- TopJoined: the statement holds for every input; as the card says it (the listed variables are laid as the text lays them). -/
import Derived.Test.YtafjdiifkckmbaaGreatDoorCXt
import Derived.ChangeSlices
import Derived.ChangeShapes
import Derived.Test.YtafjdiifkckmbaaGreatDoorCMd
import Derived.ChangeArms
import Derived.Test.YtafjdiifkckmbaaGreatDoorCards
import Derived.Test.YtafjdiifkckmbaaGreatDoorTie
import Derived.WalkKit
import Derived.ProofKit
import Derived.OpenShut
import Derived.Deep.DeepHandedRow
import Derived.Lay
import Derived.SizedLaws
import Derived.Shelf.Vars
import Derived.Carry
import Derived.Test.YtafjdiifkckmbaaGreatDoorCWl
import Derived.Test.YtafjdiifkckmbaaGreatDoorCPm
set_option linter.unusedSimpArgs false
set_option linter.unusedVariables false
set_option linter.unusedSectionVars false
namespace Go.Kf
open Go.Mc Go.RowKit Go.ChangeShapes
section
variable {H : Type}{enc : TypeId × Value -> H}{P : Program}{W : World}{d : DataW H}{Hg : List MemPlace}{v : Value}
theorem zS {w : World}{b i : Nat}{v : Value}(h : w.cell? ⟨b, i, none⟩ = some v) : b < w.heap.size := by
  refine Decidable.byContradiction λa => ?_;have : w.heap[b]? = none := Array.getElem?_eq_none (by omega);simp [World.cell?, this] at h
theorem yA {w w' : World}{b i : Nat}{v : Value}(h : w.cell? ⟨b, i, none⟩ = some v) (a : ∀ k, k < w.heap.size -> w'.heap[k]? = w.heap[k]?) : w'.cell? ⟨b, i, none⟩ = some v := by
  have ma := zS h;simpa [World.cell?, a b ma] using h
theorem JZ {t e : TypeId}{μ : M}(y : P.underlying t = some (.slice e)) (z : P.underlying e = some (.int .i64)) (A : P.cellsOf e = 1) (h : DataW.Trod enc P W 0 (λ_ => true) true t v d Hg) (Pa : v.cells.toList = [v])
    (B : ∀ w, μ w -> ∀ k, k < W.heap.size -> w.heap[k]? = W.heap[k]?) :
    ∃ (a : Option Addr) (c : Nat) (l : List Int), v = .slice a l.length c /\ ya μ a c l /\ ∀ x ∈ l, -9223372036854775808 <= x /\ x <= 9223372036854775807 := by
  obtain ⟨fuel, h⟩ := h;rw [Pa] at h;rcases open_ints y z A h with ⟨e, -⟩ | ⟨a, len, cap, g, e, -, N, C, D, -, m, E⟩
  · cases e;exact ⟨none, 0, [], rfl, ya.nil, by simp⟩
  · simp only [if_true] at D;cases e;have F : (g.take len).length = len := by rw [List.length_take];omega
    refine ⟨some a, cap, g.take len, by rw [F], ⟨by omega, C, ?_⟩, λx f => ?_⟩
    · by_cases G : len = 0
      · left;subst G;simp
      · right;have n : a.spot = none := by
          have := m 0 (by omega);cases H : a.spot with
          | none => rfl
          | some q =>
            have e : (a.add 0).spot = some q := by simp [Addr.add, H]
            unfold World.cell? at this;rw [e] at this;simp at this;split at this<;>cases this
        obtain ⟨b, o, s⟩ := a;simp only at n;subst n;refine ⟨b, o, rfl, λi => [.int .i64 (g.getD i 0)], λi x f => ⟨λw K j u p => ?_, ?_⟩⟩
        · have O : i < len := by
            have := (List.getElem?_eq_some_iff.1 f).1;omega
          have L : j = 0 := by
            have := (List.getElem?_eq_some_iff.1 p).1;simpa using this
          subst L;cases p;have r := m i (by omega);rw [il] at r;have := yA r (B w K);show w.cell? ⟨b, o + i * 1 + 0, none⟩ = _;rw [Nat.mul_one, Nat.add_zero];exact this
        · rw [List.getElem?_take] at f;split at f
          · show _ = _;simp [List.getD_eq_getElem?_getD, f]
          · cases f
    · have := E x (List.mem_of_mem_take f);simpa [Lit.wf, IntKind.min, IntKind.max, IntKind.signed, IntKind.bits] using this
theorem XW {t e : TypeId}{μ : M}(B : P.underlying t = some (.slice e)) (C : P.underlying e = some .bool) (D : P.cellsOf e = 1) (h : DataW.Trod enc P W 0 (λ_ => true) true t v d Hg) (Pa : v.cells.toList = [v])
    (E : ∀ w, μ w -> ∀ k, k < W.heap.size -> w.heap[k]? = W.heap[k]?) :
    ∃ (a : Option Addr) (c : Nat) (l : List Bool), v = .slice a l.length c /\ ya μ a c l /\ True := by
  obtain ⟨fuel, h⟩ := h;rw [Pa] at h;rcases DataW.trod_slice B h with ⟨e, -⟩ | ⟨a, len, cap, elems, rest, n, -, e, -, -, F, G, T, H, -⟩
  · cases e;exact ⟨none, 0, [], rfl, ya.nil, trivial⟩
  · cases e;have each : ∀ i, i < len -> ∃ q : Bool, W.cell? (a.add i) = some (.bool q):= by
      intro i g;have p := H i g;rw [D, Nat.mul_one] at p;have K : i < elems.length := by omega
      rw [List.getElem?_eq_getElem K, Option.bind_eq_some_iff] at p;obtain ⟨cs, L, N⟩ := p;obtain ⟨q, rfl, -⟩ := DataW.trod_bool C N;exact ⟨q, cell_of_cells?_one L⟩
    let f : Nat -> Bool := λi => if g : i < len then Classical.choose (each i g) else false
    have r : ∀ i, i < len -> W.cell? (a.add i) = some (.bool (f i)):= λi g => by
      simp only [f, dif_pos g];exact Classical.choose_spec (each i g)
    refine ⟨some a, cap, (List.range len).map f, by simp, ⟨by simpa using F, G, ?_⟩, trivial⟩;by_cases O : len = 0
    · left;subst O;simp
    · right;have y : a.spot = none := by
        have := r 0 (by omega);cases Q : a.spot with
        | none => rfl
        | some q =>
          have e : (a.add 0).spot = some q := by simp [Addr.add, Q]
          unfold World.cell? at this;rw [e] at this;simp at this;split at this<;>cases this
      obtain ⟨b, o, s⟩ := a;simp only at y;subst y;refine ⟨b, o, rfl, λi => [.bool (f i)], λi x m => ⟨λw R j u z => ?_, ?_⟩⟩
      · have g : i < len := by
          have := (List.getElem?_eq_some_iff.1 m).1;simpa using this
        have S : j = 0 := by
          have := (List.getElem?_eq_some_iff.1 z).1;simpa using this
        subst S;cases z;have A := r i g;rw [il] at A;have := yA A (E w R);show w.cell? ⟨b, o + i * 1 + 0, none⟩ = _;rw [Nat.mul_one, Nat.add_zero];exact this
      · have g : i < len := by
          have := (List.getElem?_eq_some_iff.1 m).1;simpa using this
        simp [g] at m;show [Value.bool (f i)] = [Value.bool x];rw [m]
end
end Go.Kf
namespace Go.Kf
open Go.Mc Go.RowKit Go.ChangeShapes Go.Y
section
variable {H : Type}{enc : TypeId × Value -> H}{P : Program}{W : World}{sp : Nat -> Bool}{held : Bool}{μ : M}
def az (W : World) (μ : M) : Prop := ∀ w, μ w -> ∀ k, k < W.heap.size -> w.heap[k]? = W.heap[k]?
theorem NQ {α β : Type}{f : α -> Option β} : ∀ {l : List α}{ys : List β}, l.mapM f = some ys -> ∀ x ∈ l, ∃ y, f x = some y := by
  intro l
  induction l with
  | nil => intro ys _ x c; cases c
  | cons a l e =>
    intro ys h x c;rw [List.mapM_cons] at h;cases d : f a with
    | none => rw [d] at h; cases h
    | some b =>
      rw [d] at h;cases ma : l.mapM f with
      | none => rw [ma] at h; cases h
      | some bs =>
        rcases List.mem_cons.1 c with rfl | c
        · exact ⟨b, d⟩
        · exact e ma x c
structure Zd (P : Program) (T : TypeId) (b : List (TypeId × Nat)) (n : Nat) : Prop where
  out : ∃ a, P.underlying T = some (.struct a) /\ (a.toList.map λf => (f.type, f.offset)) = b /\ P.cellsOf T = n
theorem Zd.size {T : TypeId}{a : List (TypeId × Nat)}{n : Nat}(h : Zd P T a n) : P.cellsOf T = n := by
  obtain ⟨b, -, -, h⟩ := h.out;exact h
theorem Ny {T : TypeId}{a : List (TypeId × Nat)}{n fuel : Nat}{cs : List Value}{r : DataW H × List MemPlace}(d : Zd P T a n) (h : DataW.trod enc P W 0 sp held (fuel + 1) T cs = some r) :
    cs.length = n /\ ∀ p ∈ a, ∃ r', DataW.trod enc P W 0 sp held fuel p.1 ((cs.drop p.2).take (P.cellsOf p.1)) = some r' := by
  obtain ⟨b, hu, e, g⟩ := d.out;by_cases ma : cs.length = P.cellsOf T
  · refine ⟨ma.trans g, ?_⟩;have i : ∃ ys, b.toList.mapM (λf => DataW.trod enc P W 0 sp held fuel f.type ((cs.drop f.offset).take (P.cellsOf f.type))) = some ys := by
      unfold DataW.trod at h;simp only [hu, ma, if_true] at h;cases hm : b.toList.mapM (λf => DataW.trod enc P W 0 sp held fuel f.type ((cs.drop f.offset).take (P.cellsOf f.type))) with
      | none => rw [hm] at h; cases h
      | some ys => exact ⟨ys, rfl⟩
    obtain ⟨ys, j⟩ := i;intro p c;rw [<- e] at c;obtain ⟨f, k, rfl⟩ := List.mem_map.1 c;exact NQ j f k
  · unfold DataW.trod at h;simp only [hu, ma, if_false] at h;cases h
theorem zw {t : TypeId}{fuel : Nat}{cs : List Value}{r : DataW H × List MemPlace}(a : P.underlying t = some (.int .i64)) (h : DataW.trod enc P W 0 sp held fuel t cs = some r) : ∃ n, cs = [.int .i64 n]:= by
  obtain ⟨n, b, -, -⟩ := DataW.trod_int a h;exact ⟨n, b⟩
theorem vy {t : TypeId}{fuel : Nat}{cs : List Value}{r : DataW H × List MemPlace}(a : P.underlying t = some .string) (h : DataW.trod enc P W 0 sp held fuel t cs = some r) : ∃ s, cs = [S s]:= by
  obtain ⟨⟨⟨s⟩⟩, b, -, -⟩ := DataW.trod_string a h;exact ⟨s, b⟩
theorem pJ {a : Addr}{m : Nat}{cs : List Value}(h : W.cells? 0 a m = some cs) : cs.length = m /\ ∀ i v, cs[i]? = some v -> W.cell? (a.add i) = some v := by
  unfold World.cells? at h;rw [if_pos (Nat.zero_le _)] at h;have ma := mapM_some_length h;refine ⟨by simpa using ma, λi v b => ?_⟩;have c : i < m := by have := (List.getElem?_eq_some_iff.1 b).1;rw [ma] at this;simpa using this
  rw [<- b];exact mapM_some_get h i i (by simp [c])
theorem Fw {α : Type}[Ma α]{fuel : Nat}{T e : TypeId}{cs : List Value}{r : DataW H × List MemPlace}(A : P.underlying T = some (.slice e)) (B : P.cellsOf e = Ma.sz α) (C : az W μ) (h : DataW.trod enc P W 0 sp held fuel T cs = some r)
    (D : ∀ n cs r', n < fuel -> DataW.trod enc P W 0 sp held n e cs = some r' -> ∃ x : α, Ma.cs μ cs x) : ∃ (a : Option Addr) (c : Nat) (l : List α), cs = [.slice a l.length c] /\ ya μ a c l := by
  rcases DataW.trod_slice A h with ⟨rfl, -⟩ | ⟨a, len, cap, elems, rest, n, rfl, rfl, -, -, R, u, S, E, -⟩
  · exact ⟨none, 0, [], rfl, ya.nil⟩
  · rcases Nat.eq_zero_or_pos len with p | p
    · subst p;exact ⟨some a, cap, [], rfl, ⟨by simp, u, .inl rfl⟩⟩
    · have each : ∀ i, i < len -> ∃ cs, cs.length = Ma.sz α /\ (∀ j v, cs[j]? = some v -> W.cell? ((a.add (i * Ma.sz α)).add j) = some v) /\ ∃ x : α, Ma.cs μ cs x := by
        intro i d;have k := E i d;rw [B] at k;obtain ⟨y, F⟩ : ∃ y, elems[i]? = some y := ⟨_, List.getElem?_eq_getElem (by omega)⟩;rw [F] at k;cases m : W.cells? 0 (a.add (i * Ma.sz α)) (Ma.sz α) with
        | none => rw [m] at k; cases k
        | some cs =>
          rw [m] at k;exact ⟨cs, (pJ m).1, (pJ m).2, D n cs y (Nat.lt_succ_self _) k⟩
      have z : a.spot = none := by
        obtain ⟨cs, ma, m, -⟩ := each 0 p;have U := Ma.pos (α := α);obtain ⟨v, Pa⟩ : ∃ v, cs[0]? = some v := ⟨_, List.getElem?_eq_getElem (by omega)⟩;have := m 0 v Pa;cases G : a.spot with
        | none => rfl
        | some q =>
          have e : ((a.add (0 * Ma.sz α)).add 0).spot = some q := by simp [Addr.add, G]
          unfold World.cell? at this;rw [e] at this;simp at this;split at this<;>cases this
      obtain ⟨b, o, s⟩ := a;simp only at z;subst z;have K : ∃ g : Nat -> List Value, ∃ f : Nat -> α, ∀ i, i < len -> (∀ j v, (g i)[j]? = some v -> W.cell? (((⟨b, o, none⟩ : Addr).add (i * Ma.sz α)).add j) = some v) /\ Ma.cs μ (g i) (f i):= by
        have ne : Nonempty α := by obtain ⟨_, -, -, x, -⟩ := each 0 p;exact ⟨x⟩
        refine ⟨λi => if d : i < len then Classical.choose (each i d) else [], λi => if d : i < len then Classical.choose (Classical.choose_spec (each i d)).2.2 else Classical.choice ne, λi d => ?_⟩;simp only [dif_pos d];exact ⟨(Classical.choose_spec (each i d)).2.1, Classical.choose_spec (Classical.choose_spec (each i d)).2.2⟩
      obtain ⟨g, f, L⟩ := K;refine ⟨some ⟨b, o, none⟩, cap, (List.range' 0 len).map f, by simp, ⟨by simp;omega, u, .inr ⟨b, o, rfl, g, λi x t => ?_⟩⟩⟩;have d : i < len := by
        have := (List.getElem?_eq_some_iff.1 t).1;simpa using this
      have M : x = f i := by
        rw [List.getElem?_map, List.getElem?_range' d] at t;simpa using t.symm
      obtain ⟨k1, N⟩ := L i d;rw [M];refine ⟨λw O j v Q => ?_, N⟩;have := k1 j v Q;rw [il, il] at this;exact yA this (C w O)
structure xv (P : Program) (Qk Qp Rk Zm No Kp Kq an Lq Lp Mq fs : TypeId) : Prop where
  i : P.underlying Qk = some (.int .i64)
  n : P.underlying Qp = some (.int .i64)
  s : P.underlying Rk = some .string
  ty : Zd P Zm [(Qk, 0), (Rk, 1)] 2
  ex : Zd P No [(Qk, 0), (Qp, 1), (Rk, 2), (Kp, 3)] 4
  es : P.underlying Kp = some (.slice No)
  st : Zd P Kq [(Qk, 0), (Rk, 1), (No, 2), (an, 6), (an, 7)] 8
  oH : P.underlying an = some (.slice Kq)
  zs : Zd P Lq [(Rk, 0), (Zm, 1)] 3
  Hg : P.underlying Lp = some (.slice Lq)
  lM : Zd P Mq [(Qk, 0), (Rk, 1), (Zm, 2), (Zm, 4), (Qk, 6), (Lp, 7), (an, 8)] 9
  ds : P.underlying fs = some (.slice Mq)
  one : P.cellsOf Qk = 1 /\ P.cellsOf Qp = 1 /\ P.cellsOf Rk = 1 /\ P.cellsOf Kp = 1 /\ P.cellsOf an = 1 /\ P.cellsOf Lp = 1
variable {Qk Qp Rk Zm No Kp Kq an Lq Lp Mq fs : TypeId}
theorem BG (L : xv P Qk Qp Rk Zm No Kp Kq an Lq Lp Mq fs){fuel : Nat}{cs : List Value}{r : DataW H × List MemPlace}(h : DataW.trod enc P W 0 sp held fuel Zm cs = some r) : ∃ t : Sa, cs = [.int .i64 t.Kind, S t.Pc]:= by
  cases fuel with
  | zero => cases h
  | succ fuel =>
    obtain ⟨ma, c⟩ := Ny L.ty h;obtain ⟨_, d⟩ := c (Qk, 0) (by simp);obtain ⟨_, e⟩ := c (Rk, 1) (by simp);simp only [L.one] at d e
    match cs, ma with
    | [a, b], _ =>
      obtain ⟨k, qb⟩ := zw L.i d;obtain ⟨g, ua⟩ := vy L.s e;simp at qb ua;subst qb;subst ua;exact ⟨⟨k, g⟩, rfl⟩
theorem TV (L : xv P Qk Qp Rk Zm No Kp Kq an Lq Lp Mq fs) (v : az W μ) : ∀ (n fuel : Nat) (cs : List Value) (r : DataW H × List MemPlace), fuel <= n -> DataW.trod enc P W 0 sp held fuel No cs = some r -> ∃ x : Na, Ma.cs μ cs x := by
  intro n
  induction n with
  | zero => intro fuel cs r w h; cases fuel with | zero => cases h | succ f => omega
  | succ n y =>
    intro fuel cs r w h;cases fuel with
    | zero => cases h
    | succ fuel =>
      obtain ⟨ma, e⟩ := Ny L.ex h;obtain ⟨_, j⟩ := e (Qk, 0) (by simp);obtain ⟨_, o⟩ := e (Qp, 1) (by simp);obtain ⟨_, p⟩ := e (Rk, 2) (by simp);obtain ⟨_, q⟩ := e (Kp, 3) (by simp);simp only [L.one] at j o p q
      match cs, ma with
      | [a, b, c, d], _ =>
        obtain ⟨k, qb⟩ := zw L.i j;obtain ⟨m, ua⟩ := zw L.n o;obtain ⟨g, t⟩ := vy L.s p;obtain ⟨z, c', l, u, A⟩ := Fw (α := Na) L.es L.ex.size v q λf cs r' e h => y f cs r' (by omega) h;simp at qb ua t u;subst qb;subst ua;subst t;subst u;exact ⟨⟨k, m, g, l⟩, Na.i ⟨z, c', rfl, A⟩⟩
theorem VV (L : xv P Qk Qp Rk Zm No Kp Kq an Lq Lp Mq fs) (j : az W μ) : ∀ (n fuel : Nat) (cs : List Value) (r : DataW H × List MemPlace), fuel <= n -> DataW.trod enc P W 0 sp held fuel Kq cs = some r -> ∃ x : Ra, Ma.cs μ cs x := by
  intro n
  induction n with
  | zero => intro fuel cs r z h; cases fuel with | zero => cases h | succ f => omega
  | succ n m =>
    intro fuel cs r z h;cases fuel with
    | zero => cases h
    | succ fuel =>
      obtain ⟨ma, c⟩ := Ny L.st h;obtain ⟨_, p⟩ := c (Qk, 0) (by simp);obtain ⟨_, q⟩ := c (Rk, 1) (by simp);obtain ⟨_, t⟩ := c (No, 2) (by simp);obtain ⟨_, u⟩ := c (an, 6) (by simp);obtain ⟨_, v⟩ := c (an, 7) (by simp);simp only [L.one, L.ex.size] at p q t u v
      match cs, ma with
      | [a, b, c0, eb, c2, c3, d, e], _ =>
        obtain ⟨k, qb⟩ := zw L.i p;obtain ⟨g, ua⟩ := vy L.s q;obtain ⟨x, A⟩ := TV L j _ _ _ _ (Nat.le_refl _) t;obtain ⟨B, C, l, w, D⟩ := Fw (α := Ra) L.oH L.st.size j u λf cs r' c h => m f cs r' (by omega) h;obtain ⟨E, F, Ba, y, pf⟩ := Fw (α := Ra) L.oH L.st.size j v λf cs r' c h => m f cs r' (by omega) h;obtain ⟨oa, G, db, k1⟩ := Na.o A;simp at qb ua w y db;obtain ⟨rfl, rfl, rfl, rfl⟩ := db;subst qb;subst ua;subst w;subst y;exact ⟨⟨k, g, x, l, Ba⟩, Ra.i ⟨oa, G, B, C, E, F, rfl, k1, D, pf⟩⟩
theorem WV (L : xv P Qk Qp Rk Zm No Kp Kq an Lq Lp Mq fs){fuel : Nat}{cs : List Value}{r : DataW H × List MemPlace}(h : DataW.trod enc P W 0 sp held fuel Lq cs = some r) : ∃ x : TParam, Ma.cs μ cs x := by
  cases fuel with
  | zero => cases h
  | succ n =>
    obtain ⟨ma, d⟩ := Ny L.zs h;obtain ⟨_, e⟩ := d (Rk, 0) (by simp);obtain ⟨_, f⟩ := d (Zm, 1) (by simp);simp only [L.one, L.ty.size] at e f
    match cs, ma with
    | [a, b, c], _ =>
      obtain ⟨bc, qb⟩ := vy L.s e;obtain ⟨t, ua⟩ := BG L f;simp at qb ua;obtain ⟨rfl, rfl⟩ := ua;subst qb;exact ⟨⟨bc, t⟩, rfl⟩
theorem XV (L : xv P Qk Qp Rk Zm No Kp Kq an Lq Lp Mq fs) (d : az W μ){fuel : Nat}{cs : List Value}{r : DataW H × List MemPlace}(h : DataW.trod enc P W 0 sp held fuel Mq cs = some r) : ∃ x : va, Ma.cs μ cs x := by
  cases fuel with
  | zero => cases h
  | succ fuel =>
    obtain ⟨ma, c⟩ := Ny L.lM h;obtain ⟨_, j⟩ := c (Qk, 0) (by simp);obtain ⟨_, m⟩ := c (Rk, 1) (by simp);obtain ⟨_, o⟩ := c (Zm, 2) (by simp);obtain ⟨_, p⟩ := c (Zm, 4) (by simp);obtain ⟨_, q⟩ := c (Qk, 6) (by simp);obtain ⟨_, u⟩ := c (Lp, 7) (by simp);obtain ⟨_, v⟩ := c (an, 8) (by simp);simp only [L.one, L.ty.size] at j m o p q u v
    match cs, ma with
    | [a, b, c0, eb, d0, d1, e, f, g], _ =>
      obtain ⟨k, qb⟩ := zw L.i j;obtain ⟨bc, ua⟩ := vy L.s m;obtain ⟨t, w⟩ := BG L o;obtain ⟨hb, y⟩ := BG L p;obtain ⟨yj, z⟩ := zw L.i q;obtain ⟨oa, C, l, A, D⟩ := Fw (α := TParam) L.Hg L.zs.size d u λn cs r' _ h => WV L h;obtain ⟨E, F, Ba, B, G⟩ := Fw (α := Ra) L.oH L.st.size d v λn cs r' _ h => VV L d _ _ _ _ (Nat.le_refl _) h;simp at qb ua w y z A B;obtain ⟨rfl, rfl⟩ := w;obtain ⟨rfl, rfl⟩ := y;subst qb;subst ua;subst z;subst A;subst B;exact ⟨⟨k, bc, t, hb, yj, l, Ba⟩, oa, C, E, F, rfl, D, G⟩
theorem YJ (L : xv P Qk Qp Rk Zm No Kp Kq an Lq Lp Mq fs) (b : az W μ){v : Value}{d : DataW H}{Hg : List MemPlace}(h : DataW.Trod enc P W 0 sp held fs v d Hg) (Pa : v.cells.toList = [v]) : ∃ (a : Option Addr) (c : Nat) (l : List va), v = .slice a l.length c /\ ya μ a c l := by
  obtain ⟨fuel, h⟩ := h;obtain ⟨a, c, l, e, k⟩ := Fw (α := va) L.ds L.lM.size b h λn cs r' _ h => XV L b h;rw [Pa] at e;cases e;exact ⟨a, c, l, rfl, k⟩
end
end Go.Kf
namespace Go.Proofs.YtafjdiifkckmbaaGreatDoor.topJoined
open Go.Mc Go.Kf Go.Y Go.ChangeShapes Go.WideShapes Go.ChangeAt Go.RowKit
theorem YV {fu : Nat}{c : List va}{f : Option Addr}{g : Nat}{d : List va}{oa : Option Addr}{eb : Nat}(W : World) (i : jm (λ_ => True) W Jb) (j : ya (λw => Jb w /\ ∀ k, k < W.heap.size -> w.heap[k]? = W.heap[k]?) f g c) (l : ya (λw => Jb w /\ ∀ k, k < W.heap.size -> w.heap[k]? = W.heap[k]?) oa eb d) (m : Xx fu c d = some true) :
    kb Tryz.prog 3 [.slice f c.length g, .slice oa d.length eb] W λv w => v = .bool true /\ Grow W w := by
  have n : fa (λw => Jb w /\ ∀ k, k < W.heap.size -> w.heap[k]? = W.heap[k]?) W W []:= Sep.start W _ _ (i.and λw' _ o k e => o k e trivial);refine (rN (fu := fu) (λ_ h => h.1) j l m n).mono ?_;rintro v w' ⟨J, rfl, hle, b⟩;have e := hle _ b.a;exact ⟨rfl, b.keeps.os, b.keeps.tape, b.keeps.output, b.keeps.size, λk p _ => e.2 k p⟩
theorem Ye : xv Tryz.prog 3 2 9 41 175 173 177 43 211 42 45 22 := ⟨Tryz.underlying3, Tryz.underlying2, Tryz.underlying9, ⟨⟨_, Tryz.underlying41, by kernel_rfl, by kernel_rfl⟩⟩, ⟨⟨_, Tryz.underlying175, by kernel_rfl, by kernel_rfl⟩⟩, Tryz.underlying173, ⟨⟨_, Tryz.underlying177, by kernel_rfl, by kernel_rfl⟩⟩, Tryz.underlying43, ⟨⟨_, Tryz.underlying211, by kernel_rfl, by kernel_rfl⟩⟩, Tryz.underlying42, ⟨⟨_, Tryz.underlying45, by kernel_rfl, by kernel_rfl⟩⟩, Tryz.underlying22, by kernel_rfl, by kernel_rfl, by kernel_rfl, by kernel_rfl, by kernel_rfl, by kernel_rfl⟩
theorem OQ {H : Type}(d : DataW H) : 1 <= Rows.uptoBulk d := by
  cases d with
  | lit l => cases l <;> simp [Rows.uptoBulk]
  | _ => simp [Rows.uptoBulk]
theorem SE {H : Type} : ∀ {ds : List (DataW H)}{d : DataW H}, d ∈ ds -> Rows.uptoBulk d <= Rows.uptoBulkAll ds
  | e :: ds, d, h => by
    rw [Rows.uptoBulkAll];rcases List.mem_cons.1 h with rfl | h
    · omega
    · have := SE h;omega
  | [], d, h => by cases h
theorem qJ {H : Type} : ∀ ds : List (DataW H), ds.length <= Rows.uptoBulkAll ds
  | [] => by simp
  | d :: ds => by
    rw [Rows.uptoBulkAll];have := qJ ds;have := OQ d;simp;omega
theorem PI {H : Type}{enc : TypeId × Value -> H}{W : World}{v : Value}{d : DataW H}{Hg : List MemPlace}{a : Option Addr}{n c : Nat}(h : DataW.Trod enc Tryz.prog W 0 (λ_ => true) true 22 v d Hg) (ma : v = .slice a n c) (Pa : v.cells.toList = [v]) (e : Rows.uptoBulk d <= 1048576) : n <= 1048576 := by
  obtain ⟨fuel, h⟩ := h;rcases DataW.trod_slice Tryz.underlying22 h with ⟨b, -⟩ | ⟨g, len, cap, el, rest, k, -, b, f, -, -, -, i, -⟩
  · rw [Pa, ma] at b;cases b;omega
  · rw [Pa, ma] at b;cases b;rw [(Prod.mk.inj f).1, Rows.uptoBulk] at e;have := qJ (el.map (λx => x.1));rw [List.length_map] at this;omega
theorem own : ownKnob Tryz.prog.godebug = none := by kernel_rfl
theorem laidOut : laidOutB Tryz.prog = true := by kernel_rfl
set_option maxRecDepth 100000 in
set_option maxHeartbeats 4000000 in
theorem PQ (H : Type) (enc : TypeId × Value -> H) (W : World) (base : Nat) (args : Array Value) (ds gs : List (DataW H)) (before : List MemPlace)
    (d : ∀ (j : Nat) t v, Tryz.f3.params[j]? = some t -> args[j]? = some v -> Value.okWide Tryz.prog W .any base t v)
    (u : DataW.Whole enc Tryz.prog Tryz.f3.params.toList Rows.topJoinedSpec.vars false W args.toList ds gs before) (f : Rows.uptoSmall H (ds ++ gs) = true) (G : W.ShapedOpen Tryz.prog) :
    Calls Tryz.prog 3 args W λe y => ∃ v, e = .returned v /\ Rows.topJoinedSpec.post enc Tryz.prog Tryz.f3 false true false false W args v y := by
  have i := u;obtain ⟨p, q, z, K, rfl, Z, bb⟩ := u;have A : DataW.TrodAll enc Tryz.prog W 0 (λ_ => true) true Tryz.f3.params.toList args.toList ds p := z;rw [Tryz.params3] at A d;obtain ⟨a, Gb, L, gc, za, lc, rc, rfl, rfl, l, M⟩ := trodAll_cons A;obtain ⟨b, fd, N, id, ob, md, O, rfl, rfl, n, Q⟩ := trodAll_cons M;obtain ⟨rfl, rfl, rfl⟩ := trodAll_nil Q;try (obtain rfl := O)
  obtain rfl : args = #[a, b]:= by cases args;simp_all
  obtain ⟨rfl, rfl⟩ := trodVars_none K;clear z;simp only [List.append_nil] at i f;have B := i.lt;have C : a.cells.toList = [a]:= by obtain ⟨_, _, _, rfl⟩ := okWide_slice Tryz.underlying22 (d 0 22 a rfl rfl);rfl
  have R : Rows.uptoBulk L <= 1048576 := Nat.le_trans (SE (by simp)) (of_decide_eq_true f);obtain ⟨nd, c0, rd, D, m0⟩ := YJ (μ := λw => Jb w /\ ∀ k, k < W.heap.size -> w.heap[k]? = W.heap[k]?) Ye (λw h => h.2) l C;have S := PI l D C R;have E : b.cells.toList = [b]:= by obtain ⟨_, _, _, rfl⟩ := okWide_slice Tryz.underlying22 (d 1 22 b rfl rfl);rfl
  have T : Rows.uptoBulk N <= 1048576 := Nat.le_trans (SE (by simp)) (of_decide_eq_true f);obtain ⟨oa, eb, wd, F, m1⟩ := YJ (μ := λw => Jb w /\ ∀ k, k < W.heap.size -> w.heap[k]? = W.heap[k]?) Ye (λw h => h.2) n E;have U := PI n F E T;obtain ⟨m, hm⟩ := cell_of_shapedOpen_int (P := Tryz.prog) (g := 2) (t := 3) (zero := #[.int .i64 0]) G (of_decide_eq_true (by kernel_rfl)) (by kernel_rfl) (by kernel_rfl) (by kernel_rfl) (by kernel_rfl) Tryz.underlying3;have V : jm (λ_ => True) W Jb := λw' _ X => ⟨m, yA hm λk Y => X k Y trivial⟩;have walk := (YV W V m0 m1 (OM 0 _ _ S U)).out;rw [<- D] at walk;rw [<- F] at walk;refine walk.mono λe y o => ?_;cases e with
  | panicked c => exact o.elim
  | outgrown => exact o.elim
  | returned v =>
    obtain ⟨rfl, r⟩ := o;exact ⟨_, rfl, _, _, _, [], _, [], i, trodAll_cons_mk (shut_bool Tryz.underlying4 _) trodAll_mk0, (trodAll_cons_mk (Below.trod laidOut (by kernel_rfl) (of_decide_eq_true (by kernel_rfl)) l r.below (λx s => B x (by simp [s]))) (trodAll_cons_mk (Below.trod laidOut (by kernel_rfl) (of_decide_eq_true (by kernel_rfl)) n r.below (λx s => B x (by simp [s]))) trodAll_mk0)), rfl, r.below.frame _, λh => by cases h⟩
theorem WW : (World.laidAll Tryz.prog default Rows.topJoinedUptoRow.laid).os = default := World.laidAll_os _ _ _
set_option maxRecDepth 100000 in
theorem lifted (os : Os) (started : os.Started) (H : Type) (enc : TypeId × Value -> H) (F : Stop.Interp) :
    ReturnsInHanded {} Tryz.checked os 3 .any ((Rows.OpenSpec.upto Rows.topJoinedSpec).preRow enc Tryz.prog Tryz.f3 Rows.topJoinedUptoRow.domain false Rows.topJoinedUptoRow.laid) (((Rows.OpenSpec.upto Rows.topJoinedSpec).at F).post enc Tryz.prog Tryz.f3 false true false false):= by
  have a : ∃ places, DataW.whole enc Tryz.prog ((World.laidAll Tryz.prog os Rows.topJoinedUptoRow.laid).forCall (λ_ _ => 0) ⟨#[], #[.slice none 0 0, .slice none 0 0], []⟩).memory Tryz.f3.params.toList Rows.topJoinedSpec.vars false (#[.slice none 0 0, .slice none 0 0] : Array Value).toList 8 = some ([.nil, .nil], [], places):= ⟨[], by kernel_rfl⟩;obtain ⟨places, a⟩ := a;have c : Input.okWideB Tryz.prog ((World.laidAll Tryz.prog os Rows.topJoinedUptoRow.laid).forCall (λ_ _ => 0) ⟨#[], #[.slice none 0 0, .slice none 0 0], []⟩) 3 ⟨#[], #[.slice none 0 0, .slice none 0 0], []⟩ = true := by kernel_rfl
  refine returnsInHanded_of_row (C := Tryz.checked) (s := Rows.OpenSpec.upto Rows.topJoinedSpec) own started (by kernel_rfl) Tryz.func3
    ⟨World.laidAll Tryz.prog os Rows.topJoinedUptoRow.laid, λ_ _ => 0, ⟨#[], #[.slice none 0 0, .slice none 0 0], []⟩, World.laidAll_os _ _ _, World.shaped_of_ZipB (by kernel_rfl) (by kernel_rfl), (Input.okWide_of_okWideB (base := 0) c).1, (Input.okWide_of_okWideB c).2,
      OpenSpec.preRow_of_cond 8 a (by kernel_rfl) (λk b => by cases b;rfl) (by kernel_rfl) (by rw [MakeChecks.laidMetH_plain _ _ _ (by kernel_rfl)];exact laidMet_laidAll _ (by kernel_rfl) (by kernel_rfl)), by
        simp only [Assume.holds];exact ⟨by simp, by simp, λ_ => Modest.zero, by simp, by simp⟩⟩ ?_
  intro W base args ds gs before d e _ b _ g f _;exact PQ H enc W base args ds gs before d e (b _ rfl) f
theorem said : Rows.TopJoinedUptoSaid :=
  OpenClaim.holds_of_cond 3 Tryz.f3 rfl rfl rfl rfl rfl rfl rfl ⟨rfl, rfl, rfl, rfl, rfl⟩ rfl rfl rfl rfl rfl (by kernel_rfl) Tryz.func3 (by kernel_rfl)
    (of_decide_eq_true (by kernel_rfl)) (by unfold Func.isWrapper;first | (rw [if_pos (by decide +kernel)];kernel_rfl) | (rw [if_neg (by decide +kernel)];exact ⟨rfl, rfl⟩))
    (λos started H enc _ F => by rw [OpenClaim.pre_eq_preRow];exact lifted os started H enc F)
theorem plain (f : FuncId) (fn : Func) (c : Tryz.pinned.checked.prog.funcNamed Rows.topJoinedUptoRow.func = some f) (d : Tryz.pinned.checked.prog.funcs[f]? = some fn) :
    true = Tryz.pinned.checked.prog.looks [] /\ ∀ (j : Nat) t, fn.params[j]? = some t -> Tryz.pinned.checked.prog.wantsStandIn t = false := by
  obtain rfl : f = 3 := Option.some.inj ((show Tryz.prog.funcNamed Rows.topJoinedUptoRow.func = some 3 by kernel_rfl).symm.trans c) |>.symm;obtain rfl : fn = Tryz.f3 := (Option.some.inj (Tryz.func3.symm.trans d)).symm;refine ⟨by kernel_rfl, λj t a => ?_⟩;rw [Tryz.params3] at a;have b : t ∈ [22]:= by
    first
      | simpa using Array.mem_of_getElem? a
      | (have := Array.mem_of_getElem? a; simp at this ⊢; exact this.symm)
  simp only [List.mem_cons, List.not_mem_nil, or_false] at b;try (rcases b with rfl | rfl)
  try subst b
  exact (show Tryz.prog.wantsStandIn 22 = false by kernel_rfl)
theorem card : Rows.TopJoinedUptoCardSaid :=
  Claim7.holds_tied_plain_at .later [] _ _ _ _ said (λ_ h => by cases h) (by kernel_rfl) (λ_ h => by cases h) topJoinedUpto_row_tie rfl ⟨rfl, rfl⟩ (by kernel_rfl) rfl plain (by kernel_rfl)
end Go.Proofs.YtafjdiifkckmbaaGreatDoor.topJoined
