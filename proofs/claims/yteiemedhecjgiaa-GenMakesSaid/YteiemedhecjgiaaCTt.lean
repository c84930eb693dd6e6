/- GenMakes: the statement holds for every input. -/
import Derived.Test.YteiemedhecjgiaaCXt
import Derived.ChangeSlices
import Derived.ChangeShapes
import Derived.Test.YteiemedhecjgiaaCMd
import Derived.ChangeArms
import Derived.Test.YteiemedhecjgiaaCPl
import Derived.SizedLaws
import Derived.Test.YteiemedhecjgiaaRows
import Derived.WalkKit
import Derived.ProofKit
import Derived.OpenShut
import Derived.Deep.DeepHandedRow
import Derived.Lay
import Derived.Shelf.Vars
import Derived.Carry
import Derived.LaidSub
import Derived.MakeChecks
import Derived.Test.YteiemedhecjgiaaCWm
import Derived.Test.YteiemedhecjgiaaCPm
set_option linter.unusedSimpArgs false
set_option linter.unusedVariables false
set_option linter.unusedSectionVars false
namespace Go.nd
open Go.pc Go.RowKit Go.ChangeShapes
section
variable {H : Type}{enc : TypeId × Value → H}{P : Program}{W : World}{d : DataW H}{qh : List MemPlace}{v : Value}
theorem MG {w : World}{b i : Nat}{v : Value}(h : w.cell? ⟨b, i, none⟩ = some v) : b < w.heap.size := by
  refine Decidable.byContradiction fun a => ?_;have : w.heap[b]? = none := Array.getElem?_eq_none (by omega);simp [World.cell?, this] at h
theorem Eu {w w' : World}{b i : Nat}{v : Value}(h : w.cell? ⟨b, i, none⟩ = some v) (a : ∀ k, k < w.heap.size → w'.heap[k]? = w.heap[k]?) : w'.cell? ⟨b, i, none⟩ = some v := by
  have za := MG h;simpa [World.cell?, a b za] using h
theorem UJ {t e : TypeId}{μ : M}(r : P.underlying t = some (.slice e)) (he : P.underlying e = some (.int .i64)) (y : P.cellsOf e = 1) (h : DataW.Trod enc P W 0 (fun _ => true) true t v d qh) (z : v.cells.toList = [v])
    (A : ∀ w, μ w → ∀ k, k < W.heap.size → w.heap[k]? = W.heap[k]?) :
    ∃ (a : Option Addr) (c : Nat) (l : List Int), v = .slice a l.length c ∧ Ua μ a c l ∧ ∀ x ∈ l, -9223372036854775808 ≤ x ∧ x ≤ 9223372036854775807 := by
  obtain ⟨fuel, h⟩ := h;rw [z] at h;rcases open_ints r he y h with ⟨e, -⟩ | ⟨a, len, cap, g, e, -, H, B, C, -, m, D⟩
  · cases e;exact ⟨none, 0, [], rfl, Ua.nil, by simp⟩
  · simp only [if_true] at C;cases e;have hlen : (g.take len).length = len := by rw [List.length_take];omega
    refine ⟨some a, cap, g.take len, by rw [hlen], ⟨by omega, B, ?_⟩, fun x f => ?_⟩
    · by_cases E : len = 0
      · left;subst E;simp
      · right;have n : a.spot = none := by
          have := m 0 (by omega);cases F : a.spot with
          | none => rfl
          | some q =>
            have e : (a.add 0).spot = some q := by simp [Addr.add, F]
            unfold World.cell? at this;rw [e] at this;simp at this;split at this<;>cases this
        obtain ⟨b, o, s⟩ := a;simp only at n;subst n;refine ⟨b, o, rfl, fun i => [.int .i64 (g.getD i 0)], fun i x f => ⟨fun w hw j u hu => ?_, ?_⟩⟩
        · have K : i < len := by
            have := (List.getElem?_eq_some_iff.1 f).1;omega
          have G : j = 0 := by
            have := (List.getElem?_eq_some_iff.1 hu).1;simpa using this
          subst G;cases hu;have p := m i (by omega);rw [Dj] at p;have := Eu p (A w hw);show w.cell? ⟨b, o + i * 1 + 0, none⟩ = _;rw [Nat.mul_one, Nat.add_zero];exact this
        · rw [List.getElem?_take] at f;split at f
          · show _ = _;simp [List.getD_eq_getElem?_getD, f]
          · cases f
    · have := D x (List.mem_of_mem_take f);simpa [Lit.wf, IntKind.min, IntKind.max, IntKind.signed, IntKind.bits] using this
theorem mJ {t e : TypeId}{μ : M}(A : P.underlying t = some (.slice e)) (he : P.underlying e = some .bool) (B : P.cellsOf e = 1) (h : DataW.Trod enc P W 0 (fun _ => true) true t v d qh) (C : v.cells.toList = [v])
    (D : ∀ w, μ w → ∀ k, k < W.heap.size → w.heap[k]? = W.heap[k]?) :
    ∃ (a : Option Addr) (c : Nat) (l : List Bool), v = .slice a l.length c ∧ Ua μ a c l ∧ True := by
  obtain ⟨fuel, h⟩ := h;rw [C] at h;rcases DataW.trod_slice A h with ⟨e, -⟩ | ⟨a, len, cap, elems, rest, n, -, e, -, -, E, F, R, G, -⟩
  · cases e;exact ⟨none, 0, [], rfl, Ua.nil, trivial⟩
  · cases e;have each : ∀ i, i < len → ∃ q : Bool, W.cell? (a.add i) = some (.bool q):= by
      intro i g;have p := G i g;rw [B, Nat.mul_one] at p;have H : i < elems.length := by omega
      rw [List.getElem?_eq_getElem H, Option.bind_eq_some_iff] at p;obtain ⟨cs, K, L⟩ := p;obtain ⟨q, rfl, -⟩ := DataW.trod_bool he L;exact ⟨q, cell_of_cells?_one K⟩
    let f : Nat → Bool := fun i => if g : i < len then Classical.choose (each i g) else false
    have r : ∀ i, i < len → W.cell? (a.add i) = some (.bool (f i)):= fun i g => by
      simp only [f, dif_pos g];exact Classical.choose_spec (each i g)
    refine ⟨some a, cap, (List.range len).map f, by simp, ⟨by simpa using E, F, ?_⟩, trivial⟩;by_cases N : len = 0
    · left;subst N;simp
    · right;have y : a.spot = none := by
        have := r 0 (by omega);cases O : a.spot with
        | none => rfl
        | some q =>
          have e : (a.add 0).spot = some q := by simp [Addr.add, O]
          unfold World.cell? at this;rw [e] at this;simp at this;split at this<;>cases this
      obtain ⟨b, o, s⟩ := a;simp only at y;subst y;refine ⟨b, o, rfl, fun i => [.bool (f i)], fun i x m => ⟨fun w hw j u hu => ?_, ?_⟩⟩
      · have g : i < len := by
          have := (List.getElem?_eq_some_iff.1 m).1;simpa using this
        have Q : j = 0 := by
          have := (List.getElem?_eq_some_iff.1 hu).1;simpa using this
        subst Q;cases hu;have z := r i g;rw [Dj] at z;have := Eu z (D w hw);show w.cell? ⟨b, o + i * 1 + 0, none⟩ = _;rw [Nat.mul_one, Nat.add_zero];exact this
      · have g : i < len := by
          have := (List.getElem?_eq_some_iff.1 m).1;simpa using this
        simp [g] at m;show [Value.bool (f i)] = [Value.bool x];rw [m]
end
end Go.nd
namespace Go.nd
open Go.pc Go.RowKit Go.ChangeShapes Go.Y
section
variable {H : Type}{enc : TypeId × Value → H}{P : Program}{W : World}{sp : Nat → Bool}{held : Bool}{μ : M}
def Ho (W : World) (μ : M) : Prop := ∀ w, μ w → ∀ k, k < W.heap.size → w.heap[k]? = W.heap[k]?
theorem gG {α β : Type}{f : α → Option β} : ∀ {l : List α}{ys : List β}, l.mapM f = some ys → ∀ x ∈ l, ∃ y, f x = some y := by
  intro l
  induction l with
  | nil => intro ys _ x c; cases c
  | cons a l e =>
    intro ys h x c;rw [List.mapM_cons] at h;cases d : f a with
    | none => rw [d] at h; cases h
    | some b =>
      rw [d] at h;cases za : l.mapM f with
      | none => rw [za] at h; cases h
      | some g =>
        rcases List.mem_cons.1 c with rfl | c
        · exact ⟨b, d⟩
        · exact e za x c
structure nf (P : Program) (T : TypeId) (b : List (TypeId × Nat)) (n : Nat) : Prop where
  out : ∃ a, P.underlying T = some (.struct a) ∧ (a.toList.map fun f => (f.type, f.offset)) = b ∧ P.cellsOf T = n
theorem nf.size {T : TypeId}{a : List (TypeId × Nat)}{n : Nat}(h : nf P T a n) : P.cellsOf T = n := by
  obtain ⟨b, -, -, h⟩ := h.out;exact h
theorem ev {T : TypeId}{a : List (TypeId × Nat)}{n fuel : Nat}{cs : List Value}{r : DataW H × List MemPlace}(d : nf P T a n) (h : DataW.trod enc P W 0 sp held (fuel + 1) T cs = some r) :
    cs.length = n ∧ ∀ p ∈ a, ∃ r', DataW.trod enc P W 0 sp held fuel p.1 ((cs.drop p.2).take (P.cellsOf p.1)) = some r' := by
  obtain ⟨b, hu, e, g⟩ := d.out;by_cases za : cs.length = P.cellsOf T
  · refine ⟨za.trans g, ?_⟩;have i : ∃ ys, b.toList.mapM (fun f => DataW.trod enc P W 0 sp held fuel f.type ((cs.drop f.offset).take (P.cellsOf f.type))) = some ys := by
      unfold DataW.trod at h;simp only [hu, za, if_true] at h;cases hm : b.toList.mapM (fun f => DataW.trod enc P W 0 sp held fuel f.type ((cs.drop f.offset).take (P.cellsOf f.type))) with
      | none => rw [hm] at h; cases h
      | some ys => exact ⟨ys, rfl⟩
    obtain ⟨ys, j⟩ := i;intro p c;rw [← e] at c;obtain ⟨f, k, rfl⟩ := List.mem_map.1 c;exact gG j f k
  · unfold DataW.trod at h;simp only [hu, za, if_false] at h;cases h
theorem mn {t : TypeId}{fuel : Nat}{cs : List Value}{r : DataW H × List MemPlace}(a : P.underlying t = some (.int .i64)) (h : DataW.trod enc P W 0 sp held fuel t cs = some r) : ∃ n, cs = [.int .i64 n]:= by
  obtain ⟨n, b, -, -⟩ := DataW.trod_int a h;exact ⟨n, b⟩
theorem rq {t : TypeId}{fuel : Nat}{cs : List Value}{r : DataW H × List MemPlace}(a : P.underlying t = some .string) (h : DataW.trod enc P W 0 sp held fuel t cs = some r) : ∃ s, cs = [S s]:= by
  obtain ⟨⟨⟨s⟩⟩, b, -, -⟩ := DataW.trod_string a h;exact ⟨s, b⟩
theorem zw {a : Addr}{m : Nat}{cs : List Value}(h : W.cells? 0 a m = some cs) : cs.length = m ∧ ∀ i v, cs[i]? = some v → W.cell? (a.add i) = some v := by
  unfold World.cells? at h;rw [if_pos (Nat.zero_le _)] at h;have za := mapM_some_length h;refine ⟨by simpa using za, fun i v b => ?_⟩;have c : i < m := by have := (List.getElem?_eq_some_iff.1 b).1;rw [za] at this;simpa using this
  rw [← b];exact mapM_some_get h i i (by simp [c])
theorem Xt {α : Type}[fb α]{fuel : Nat}{T e : TypeId}{cs : List Value}{r : DataW H × List MemPlace}(hu : P.underlying T = some (.slice e)) (hm : P.cellsOf e = fb.sz α) (z : Ho W μ) (h : DataW.trod enc P W 0 sp held fuel T cs = some r)
    (A : ∀ n cs r', n < fuel → DataW.trod enc P W 0 sp held n e cs = some r' → ∃ x : α, fb.cs μ cs x) : ∃ (a : Option Addr) (c : Nat) (l : List α), cs = [.slice a l.length c] ∧ Ua μ a c l := by
  rcases DataW.trod_slice hu h with ⟨rfl, -⟩ | ⟨a, len, cap, elems, rest, n, rfl, rfl, -, -, N, t, O, B, -⟩
  · exact ⟨none, 0, [], rfl, Ua.nil⟩
  · rcases Nat.eq_zero_or_pos len with m | m
    · subst m;exact ⟨some a, cap, [], rfl, ⟨by simp, t, .inl rfl⟩⟩
    · have each : ∀ i, i < len → ∃ cs, cs.length = fb.sz α ∧ (∀ j v, cs[j]? = some v → W.cell? ((a.add (i * fb.sz α)).add j) = some v) ∧ ∃ x : α, fb.cs μ cs x := by
        intro i d;have he := B i d;rw [hm] at he;obtain ⟨y, C⟩ : ∃ y, elems[i]? = some y := ⟨_, List.getElem?_eq_getElem (by omega)⟩;rw [C] at he;cases k : W.cells? 0 (a.add (i * fb.sz α)) (fb.sz α) with
        | none => rw [k] at he; cases he
        | some cs =>
          rw [k] at he;exact ⟨cs, (zw k).1, (zw k).2, A n cs y (Nat.lt_succ_self _) he⟩
      have u : a.spot = none := by
        obtain ⟨cs, za, k, -⟩ := each 0 m;have Q := fb.pos (α := α);obtain ⟨v, D⟩ : ∃ v, cs[0]? = some v := ⟨_, List.getElem?_eq_getElem (by omega)⟩;have := k 0 v D;cases E : a.spot with
        | none => rfl
        | some q =>
          have e : ((a.add (0 * fb.sz α)).add 0).spot = some q := by simp [Addr.add, E]
          unfold World.cell? at this;rw [e] at this;simp at this;split at this<;>cases this
      obtain ⟨b, o, s⟩ := a;simp only at u;subst u;have F : ∃ g : Nat → List Value, ∃ f : Nat → α, ∀ i, i < len → (∀ j v, (g i)[j]? = some v → W.cell? (((⟨b, o, none⟩ : Addr).add (i * fb.sz α)).add j) = some v) ∧ fb.cs μ (g i) (f i):= by
        have ne : Nonempty α := by obtain ⟨_, -, -, x, -⟩ := each 0 m;exact ⟨x⟩
        refine ⟨fun i => if d : i < len then Classical.choose (each i d) else [], fun i => if d : i < len then Classical.choose (Classical.choose_spec (each i d)).2.2 else Classical.choice ne, fun i d => ?_⟩;simp only [dif_pos d];exact ⟨(Classical.choose_spec (each i d)).2.1, Classical.choose_spec (Classical.choose_spec (each i d)).2.2⟩
      obtain ⟨g, f, G⟩ := F;refine ⟨some ⟨b, o, none⟩, cap, (List.range' 0 len).map f, by simp, ⟨by simp;omega, t, .inr ⟨b, o, rfl, g, fun i x p => ?_⟩⟩⟩;have d : i < len := by
        have := (List.getElem?_eq_some_iff.1 p).1;simpa using this
      have K : x = f i := by
        rw [List.getElem?_map, List.getElem?_range' d] at p;simpa using p.symm
      obtain ⟨Qb, L⟩ := G i d;rw [K];refine ⟨fun w hw j v M => ?_, L⟩;have := Qb j v M;rw [Dj, Dj] at this;exact Eu this (z w hw)
structure Gn (P : Program) (Kh hk Oh Ri Vh dk Ci Di Zi ek Ei Ak : TypeId) : Prop where
  i : P.underlying Kh = some (.int .i64)
  n : P.underlying hk = some (.int .i64)
  s : P.underlying Oh = some .string
  ty : nf P Ri [(Kh, 0), (Oh, 1)] 2
  ex : nf P Vh [(Kh, 0), (hk, 1), (Oh, 2), (dk, 3)] 4
  es : P.underlying dk = some (.slice Vh)
  st : nf P Ci [(Kh, 0), (Oh, 1), (Vh, 2), (Di, 6), (Di, 7)] 8
  Wg : P.underlying Di = some (.slice Ci)
  vv : nf P Zi [(Oh, 0), (Ri, 1)] 3
  qh : P.underlying ek = some (.slice Zi)
  ku : nf P Ei [(Kh, 0), (Oh, 1), (Ri, 2), (Ri, 4), (Kh, 6), (ek, 7), (Di, 8)] 9
  ds : P.underlying Ak = some (.slice Ei)
  one : P.cellsOf Kh = 1 ∧ P.cellsOf hk = 1 ∧ P.cellsOf Oh = 1 ∧ P.cellsOf dk = 1 ∧ P.cellsOf Di = 1 ∧ P.cellsOf ek = 1
variable {Kh hk Oh Ri Vh dk Ci Di Zi ek Ei Ak : TypeId}
theorem fv (L : Gn P Kh hk Oh Ri Vh dk Ci Di Zi ek Ei Ak){fuel : Nat}{cs : List Value}{r : DataW H × List MemPlace}(h : DataW.trod enc P W 0 sp held fuel Ri cs = some r) : ∃ t : pb, cs = [.int .i64 t.Kind, S t.Pa]:= by
  cases fuel with
  | zero => cases h
  | succ fuel =>
    obtain ⟨za, c⟩ := ev L.ty h;obtain ⟨_, d⟩ := c (Kh, 0) (by simp);obtain ⟨_, e⟩ := c (Oh, 1) (by simp);simp only [L.one] at d e
    match cs, za with
    | [a, b], _ =>
      obtain ⟨k, bb⟩ := mn L.i d;obtain ⟨g, ma⟩ := rq L.s e;simp at bb ma;subst bb;subst ma;exact ⟨⟨k, g⟩, rfl⟩
theorem xI (L : Gn P Kh hk Oh Ri Vh dk Ci Di Zi ek Ei Ak) (v : Ho W μ) : ∀ (n fuel : Nat) (cs : List Value) (r : DataW H × List MemPlace), fuel ≤ n → DataW.trod enc P W 0 sp held fuel Vh cs = some r → ∃ x : hb, fb.cs μ cs x := by
  intro n
  induction n with
  | zero => intro fuel cs r w h; cases fuel with | zero => cases h | succ f => omega
  | succ n y =>
    intro fuel cs r w h;cases fuel with
    | zero => cases h
    | succ fuel =>
      obtain ⟨za, e⟩ := ev L.ex h;obtain ⟨_, j⟩ := e (Kh, 0) (by simp);obtain ⟨_, o⟩ := e (hk, 1) (by simp);obtain ⟨_, p⟩ := e (Oh, 2) (by simp);obtain ⟨_, q⟩ := e (dk, 3) (by simp);simp only [L.one] at j o p q
      match cs, za with
      | [a, b, c, d], _ =>
        obtain ⟨k, bb⟩ := mn L.i j;obtain ⟨m, ma⟩ := mn L.n o;obtain ⟨g, t⟩ := rq L.s p;obtain ⟨z, Fc, l, u, A⟩ := Xt (α := hb) L.es L.ex.size v q fun f cs r' e h => y f cs r' (by omega) h;simp at bb ma t u;subst bb;subst ma;subst t;subst u;exact ⟨⟨k, m, g, l⟩, hb.i ⟨z, Fc, rfl, A⟩⟩
theorem yI (L : Gn P Kh hk Oh Ri Vh dk Ci Di Zi ek Ei Ak) (j : Ho W μ) : ∀ (n fuel : Nat) (cs : List Value) (r : DataW H × List MemPlace), fuel ≤ n → DataW.trod enc P W 0 sp held fuel Ci cs = some r → ∃ x : cb, fb.cs μ cs x := by
  intro n
  induction n with
  | zero => intro fuel cs r z h; cases fuel with | zero => cases h | succ f => omega
  | succ n m =>
    intro fuel cs r z h;cases fuel with
    | zero => cases h
    | succ fuel =>
      obtain ⟨za, c⟩ := ev L.st h;obtain ⟨_, p⟩ := c (Kh, 0) (by simp);obtain ⟨_, q⟩ := c (Oh, 1) (by simp);obtain ⟨_, t⟩ := c (Vh, 2) (by simp);obtain ⟨_, u⟩ := c (Di, 6) (by simp);obtain ⟨_, v⟩ := c (Di, 7) (by simp);simp only [L.one, L.ex.size] at p q t u v
      match cs, za with
      | [a, b, c0, C, c2, c3, d, e], _ =>
        obtain ⟨k, bb⟩ := mn L.i p;obtain ⟨g, ma⟩ := rq L.s q;obtain ⟨x, A⟩ := xI L j _ _ _ _ (Nat.le_refl _) t;obtain ⟨a2, q2, l, w, B⟩ := Xt (α := cb) L.Wg L.st.size j u fun f cs r' c h => m f cs r' (by omega) h;obtain ⟨a3, q3, ab, y, De⟩ := Xt (α := cb) L.Wg L.st.size j v fun f cs r' c h => m f cs r' (by omega) h;obtain ⟨Da, q1, Ma, Qb⟩ := hb.o A;simp at bb ma w y Ma;obtain ⟨rfl, rfl, rfl, rfl⟩ := Ma;subst bb;subst ma;subst w;subst y;exact ⟨⟨k, g, x, l, ab⟩, cb.i ⟨Da, q1, a2, q2, a3, q3, rfl, Qb, B, De⟩⟩
theorem PC (L : Gn P Kh hk Oh Ri Vh dk Ci Di Zi ek Ei Ak){fuel : Nat}{cs : List Value}{r : DataW H × List MemPlace}(h : DataW.trod enc P W 0 sp held fuel Zi cs = some r) : ∃ x : TParam, fb.cs μ cs x := by
  cases fuel with
  | zero => cases h
  | succ n =>
    obtain ⟨za, d⟩ := ev L.vv h;obtain ⟨_, e⟩ := d (Oh, 0) (by simp);obtain ⟨_, f⟩ := d (Ri, 1) (by simp);simp only [L.one, L.ty.size] at e f
    match cs, za with
    | [a, b, c], _ =>
      obtain ⟨Df, bb⟩ := rq L.s e;obtain ⟨t, ma⟩ := fv L f;simp at bb ma;obtain ⟨rfl, rfl⟩ := ma;subst bb;exact ⟨⟨Df, t⟩, rfl⟩
theorem zI (L : Gn P Kh hk Oh Ri Vh dk Ci Di Zi ek Ei Ak) (d : Ho W μ){fuel : Nat}{cs : List Value}{r : DataW H × List MemPlace}(h : DataW.trod enc P W 0 sp held fuel Ei cs = some r) : ∃ x : na, fb.cs μ cs x := by
  cases fuel with
  | zero => cases h
  | succ fuel =>
    obtain ⟨za, c⟩ := ev L.ku h;obtain ⟨_, j⟩ := c (Kh, 0) (by simp);obtain ⟨_, m⟩ := c (Oh, 1) (by simp);obtain ⟨_, o⟩ := c (Ri, 2) (by simp);obtain ⟨_, p⟩ := c (Ri, 4) (by simp);obtain ⟨_, q⟩ := c (Kh, 6) (by simp);obtain ⟨_, u⟩ := c (ek, 7) (by simp);obtain ⟨_, v⟩ := c (Di, 8) (by simp);simp only [L.one, L.ty.size] at j m o p q u v
    match cs, za with
    | [a, b, c0, E, d0, d1, e, f, g], _ =>
      obtain ⟨k, bb⟩ := mn L.i j;obtain ⟨Df, ma⟩ := rq L.s m;obtain ⟨t, w⟩ := fv L o;obtain ⟨Rd, y⟩ := fv L p;obtain ⟨yx, z⟩ := mn L.i q;obtain ⟨Da, q1, l, A, C⟩ := Xt (α := TParam) L.qh L.vv.size d u fun n cs r' _ h => PC L h;obtain ⟨a2, q2, ab, B, D⟩ := Xt (α := cb) L.Wg L.st.size d v fun n cs r' _ h => yI L d _ _ _ _ (Nat.le_refl _) h;simp at bb ma w y z A B;obtain ⟨rfl, rfl⟩ := w;obtain ⟨rfl, rfl⟩ := y;subst bb;subst ma;subst z;subst A;subst B;exact ⟨⟨k, Df, t, Rd, yx, l, ab⟩, Da, q1, a2, q2, rfl, C, D⟩
theorem VJ (L : Gn P Kh hk Oh Ri Vh dk Ci Di Zi ek Ei Ak) (b : Ho W μ){v : Value}{d : DataW H}{qh : List MemPlace}(h : DataW.Trod enc P W 0 sp held Ak v d qh) (f : v.cells.toList = [v]) : ∃ (a : Option Addr) (c : Nat) (l : List na), v = .slice a l.length c ∧ Ua μ a c l := by
  obtain ⟨fuel, h⟩ := h;obtain ⟨a, c, l, e, k⟩ := Xt (α := na) L.ds L.ku.size b h fun n cs r' _ h => zI L b h;rw [f] at e;cases e;exact ⟨a, c, l, rfl, k⟩
end
end Go.nd
namespace Go.nd
open Go.pc Go.RowKit Go.ChangeShapes Go.Y
section
variable {H : Type}{enc : TypeId × Value → H}{P : Program}{W : World}{sp : Nat → Bool}{held : Bool}{μ : M}
def Hn (P : Program) (T : TypeId) (d : DataW H) : Prop := ∀ n ∈ d.weights P T, n ≤ reachBytes
theorem hG {α β : Type}{f : α → Option β} : ∀ {l : List α}{ys : List β}, l.mapM f = some ys → ys.length = l.length ∧ ∀ (i : Nat) (x : α), l[i]? = some x → ∃ y, ys[i]? = some y ∧ f x = some y := by
  intro l
  induction l with
  | nil => intro ys h; cases h; exact ⟨rfl, fun i x c => by simp at c⟩
  | cons a l e =>
    intro ys h;rw [List.mapM_cons] at h;cases d : f a with
    | none => rw [d] at h; cases h
    | some b =>
      rw [d] at h;cases za : l.mapM f with
      | none => rw [za] at h; cases h
      | some k =>
        rw [za] at h;cases h;obtain ⟨g, j⟩ := e za;refine ⟨by simp [g], fun i x c => ?_⟩;cases i with
        | zero => cases c; exact ⟨b, rfl, d⟩
        | succ i => exact j i x c
theorem Vy {T : TypeId}{a : List (TypeId × Nat)}{n fuel : Nat}{cs : List Value}{r : DataW H × List MemPlace}(e : nf P T a n) (h : DataW.trod enc P W 0 sp held (fuel + 1) T cs = some r) (g : Hn P T r.1) :
    cs.length = n ∧ ∀ (i : Nat) (p : TypeId × Nat), a[i]? = some p → ∃ r', DataW.trod enc P W 0 sp held fuel p.1 ((cs.drop p.2).take (P.cellsOf p.1)) = some r' ∧ Hn P p.1 r'.1 := by
  obtain ⟨b, hu, l, m⟩ := e.out;by_cases za : cs.length = P.cellsOf T
  · refine ⟨za.trans m, ?_⟩;have o : ∃ ys, b.toList.mapM (fun f => DataW.trod enc P W 0 sp held fuel f.type ((cs.drop f.offset).take (P.cellsOf f.type))) = some ys ∧ r.1 = .agg (ys.map (·.1)):= by
      unfold DataW.trod at h;simp only [hu, za, if_true] at h;cases hm : b.toList.mapM (fun f => DataW.trod enc P W 0 sp held fuel f.type ((cs.drop f.offset).take (P.cellsOf f.type))) with
      | none => rw [hm] at h; cases h
      | some ys => rw [hm] at h; cases h; exact ⟨ys, rfl, rfl⟩
    obtain ⟨ys, q, s⟩ := o;obtain ⟨m1, m2⟩ := hG q;intro i p c;rw [← l, List.getElem?_map] at c;obtain ⟨f, d, rfl⟩ := Option.map_eq_some_iff.1 c;obtain ⟨y, t, u⟩ := m2 i f d;refine ⟨y, u, fun k v => g k ?_⟩;rw [s, DataW.weights, hu];exact DataW.weights_mem_each (j := i) (by rw [List.getElem?_map, d];rfl) (by rw [List.getElem?_map, t];rfl) k v
  · unfold DataW.trod at h;simp only [hu, za, if_false] at h;cases h
theorem Cz {e : TypeId} : ∀ {ds : List (DataW H)}{i : Nat}{d : DataW H}, ds[i]? = some d → ∀ n ∈ d.weights P e, n ∈ DataW.weightsAll P e ds
  | d0 :: ds, 0, d, h, n, a => by
    cases h;rw [DataW.weightsAll];exact List.mem_append.2 (.inl a)
  | d0 :: ds, i + 1, d, h, n, a => by
    rw [DataW.weightsAll];exact List.mem_append.2 (.inr (Cz (i := i) (by simpa using h) n a))
  | [], i, d, h, n, a => by simp at h
theorem Vt {α : Type}[fb α]{B : Nat}{Rz : α → Prop}{fuel : Nat}{T e : TypeId}{cs : List Value}{r : DataW H × List MemPlace}(hu : P.underlying T = some (.slice e)) (hm : P.cellsOf e = fb.sz α) (Z : reachBytes < (B + 1) * P.bytesOf e) (F : Ho W μ) (h : DataW.trod enc P W 0 sp held fuel T cs = some r) (z : Hn P T r.1)
    (G : ∀ n cs r', n < fuel → DataW.trod enc P W 0 sp held n e cs = some r' → Hn P e r'.1 → ∃ x : α, fb.cs μ cs x ∧ Rz x) : ∃ (a : Option Addr) (c : Nat) (l : List α), cs = [.slice a l.length c] ∧ Ua μ a c l ∧ l.length ≤ B ∧ ∀ x ∈ l, Rz x := by
  rcases DataW.trod_slice hu h with ⟨rfl, -⟩ | ⟨a, len, cap, elems, rest, n, rfl, rfl, A, -, gc, C, K, L, -⟩
  · exact ⟨none, 0, [], rfl, Ua.nil, by simp, by simp⟩
  · have hw : (elems.length + rest.length) * P.bytesOf e ≤ reachBytes := z _ (by rw [A];simp [DataW.weights, hu]);have lc : len ≤ B := by
      rw [K] at hw;rcases Nat.lt_or_ge B len with c | c
      · have : (B + 1) * P.bytesOf e ≤ (len + rest.length) * P.bytesOf e := Nat.mul_le_mul_right _ (by omega);omega
      · exact c
    have M : ∀ (i : Nat) (y : DataW H × List MemPlace), elems[i]? = some y → Hn P e y.1 := fun i y t k N => z k (by
      rw [A];simp only [DataW.weights, hu];refine List.mem_cons_of_mem _ (List.mem_append.2 (.inl ?_));exact Cz (i := i) (by rw [List.getElem?_map, t];rfl) k N)
    rcases Nat.eq_zero_or_pos len with u | u
    · subst u;exact ⟨some a, cap, [], rfl, ⟨by simp, C, .inl rfl⟩, by simp, by simp⟩
    · have each : ∀ i, i < len → ∃ cs, cs.length = fb.sz α ∧ (∀ j v, cs[j]? = some v → W.cell? ((a.add (i * fb.sz α)).add j) = some v) ∧ ∃ x : α, fb.cs μ cs x ∧ Rz x := by
        intro i d;have he := L i d;rw [hm] at he;obtain ⟨y, t⟩ : ∃ y, elems[i]? = some y := ⟨_, List.getElem?_eq_getElem (by omega)⟩;rw [t] at he;cases m : W.cells? 0 (a.add (i * fb.sz α)) (fb.sz α) with
        | none => rw [m] at he; cases he
        | some cs =>
          rw [m] at he;exact ⟨cs, (zw m).1, (zw m).2, G n cs y (Nat.lt_succ_self _) he (M i y t)⟩
      have D : a.spot = none := by
        obtain ⟨cs, za, m, -⟩ := each 0 u;have rc := fb.pos (α := α);obtain ⟨v, O⟩ : ∃ v, cs[0]? = some v := ⟨_, List.getElem?_eq_getElem (by omega)⟩;have := m 0 v O;cases Q : a.spot with
        | none => rfl
        | some q =>
          have e : ((a.add (0 * fb.sz α)).add 0).spot = some q := by simp [Addr.add, Q]
          unfold World.cell? at this;rw [e] at this;simp at this;split at this<;>cases this
      obtain ⟨b, o, s⟩ := a;simp only at D;subst D;have R : ∃ g : Nat → List Value, ∃ f : Nat → α, ∀ i, i < len → (∀ j v, (g i)[j]? = some v → W.cell? (((⟨b, o, none⟩ : Addr).add (i * fb.sz α)).add j) = some v) ∧ fb.cs μ (g i) (f i) ∧ Rz (f i):= by
        have ne : Nonempty α := by obtain ⟨_, -, -, x, -⟩ := each 0 u;exact ⟨x⟩
        refine ⟨fun i => if d : i < len then Classical.choose (each i d) else [], fun i => if d : i < len then Classical.choose (Classical.choose_spec (each i d)).2.2 else Classical.choice ne, fun i d => ?_⟩;simp only [dif_pos d];exact ⟨(Classical.choose_spec (each i d)).2.1, Classical.choose_spec (Classical.choose_spec (each i d)).2.2⟩
      obtain ⟨g, f, E⟩ := R;refine ⟨some ⟨b, o, none⟩, cap, (List.range' 0 len).map f, by simp, ⟨by simp;omega, C, .inr ⟨b, o, rfl, g, fun i x p => ?_⟩⟩, by simp;omega, fun x p => ?_⟩
      · have d : i < len := by
          have := (List.getElem?_eq_some_iff.1 p).1;simpa using this
        have S : x = f i := by
          rw [List.getElem?_map, List.getElem?_range' d] at p;simpa using p.symm
        obtain ⟨Qb, V, -⟩ := E i d;rw [S];refine ⟨fun w hw j v X => ?_, V⟩;have := Qb j v X;rw [Dj, Dj] at this;exact Eu this (F w hw)
      · obtain ⟨i, d, rfl⟩ := List.mem_map.1 p;have Y : i < len := by simpa using (List.mem_range'_1.1 d).2
        exact (E i Y).2.2
structure wv (P : Program) (Vh Ci Zi Ei : TypeId) : Prop where
  ex : P.bytesOf Vh = 56
  st : P.bytesOf Ci = 128
  vv : P.bytesOf Zi = 40
  ku : P.bytesOf Ei = 128
variable {Kh hk Oh Ri Vh dk Ci Di Zi ek Ei Ak : TypeId}
theorem GH (L : Gn P Kh hk Oh Ri Vh dk Ci Di Zi ek Ei Ak) (Z : wv P Vh Ci Zi Ei) (v : Ho W μ) : ∀ (n fuel : Nat) (cs : List Value) (r : DataW H × List MemPlace), fuel ≤ n → DataW.trod enc P W 0 sp held fuel Vh cs = some r → Hn P Vh r.1 → ∃ x : hb, fb.cs μ cs x ∧ Io n x := by
  intro n
  induction n with
  | zero => intro fuel cs r w h; cases fuel with | zero => cases h | succ f => omega
  | succ n y =>
    intro fuel cs r w h A;cases fuel with
    | zero => cases h
    | succ fuel =>
      obtain ⟨za, e⟩ := Vy L.ex h A;obtain ⟨_, j, -⟩ := e 0 (Kh, 0) rfl;obtain ⟨_, o, -⟩ := e 1 (hk, 1) rfl;obtain ⟨_, p, -⟩ := e 2 (Oh, 2) rfl;obtain ⟨_, q, z3⟩ := e 3 (dk, 3) rfl;simp only [L.one] at j o p q
      match cs, za with
      | [a, b, c, d], _ =>
        obtain ⟨k, bb⟩ := mn L.i j;obtain ⟨m, ma⟩ := mn L.n o;obtain ⟨g, t⟩ := rq L.s p;obtain ⟨C, Fc, l, u, D, s1, s2⟩ := Vt (α := hb) (B := 2513169434916) (Rz := Io n) L.es L.ex.size (by rw [Z.ex];decide) v q z3 fun f cs r' e h z => y f cs r' (by omega) h z;simp at bb ma t u;subst bb;subst ma;subst t;subst u;exact ⟨⟨k, m, g, l⟩, hb.i ⟨C, Fc, rfl, D⟩, s1, s2⟩
theorem HH (L : Gn P Kh hk Oh Ri Vh dk Ci Di Zi ek Ei Ak) (Z : wv P Vh Ci Zi Ei) (j : Ho W μ) : ∀ (n fuel : Nat) (cs : List Value) (r : DataW H × List MemPlace), fuel ≤ n → DataW.trod enc P W 0 sp held fuel Ci cs = some r → Hn P Ci r.1 → ∃ x : cb, fb.cs μ cs x ∧ Nk n x := by
  intro n
  induction n with
  | zero => intro fuel cs r A h; cases fuel with | zero => cases h | succ f => omega
  | succ n m =>
    intro fuel cs r A h C;cases fuel with
    | zero => cases h
    | succ fuel =>
      obtain ⟨za, c⟩ := Vy L.st h C;obtain ⟨_, p, -⟩ := c 0 (Kh, 0) rfl;obtain ⟨_, q, -⟩ := c 1 (Oh, 1) rfl;obtain ⟨_, t, z2⟩ := c 2 (Vh, 2) rfl;obtain ⟨_, u, z3⟩ := c 3 (Di, 6) rfl;obtain ⟨_, v, z4⟩ := c 4 (Di, 7) rfl;simp only [L.one, L.ex.size] at p q t u v
      match cs, za with
      | [a, b, c0, M, c2, c3, d, e], _ =>
        obtain ⟨k, bb⟩ := mn L.i p;obtain ⟨g, ma⟩ := rq L.s q;obtain ⟨x, D, E⟩ := GH L Z j n _ _ _ (by omega) t z2;obtain ⟨a2, q2, l, w, F, s1, s2⟩ := Vt (α := cb) (B := 1099511627776) (Rz := Nk n) L.Wg L.st.size (by rw [Z.st];decide) j u z3 fun f cs r' c h z => m f cs r' (by omega) h z;obtain ⟨a3, q3, ab, y, De, G, K⟩ := Vt (α := cb) (B := 1099511627776) (Rz := Nk n) L.Wg L.st.size (by rw [Z.st];decide) j v z4 fun f cs r' c h z => m f cs r' (by omega) h z;obtain ⟨Da, q1, Ma, Qb⟩ := hb.o D;simp at bb ma w y Ma;obtain ⟨rfl, rfl, rfl, rfl⟩ := Ma;subst bb;subst ma;subst w;subst y;exact ⟨⟨k, g, x, l, ab⟩, cb.i ⟨Da, q1, a2, q2, a3, q3, rfl, Qb, F, De⟩, E, ⟨s1, s2⟩, ⟨G, K⟩⟩
theorem IH (L : Gn P Kh hk Oh Ri Vh dk Ci Di Zi ek Ei Ak) (Z : wv P Vh Ci Zi Ei) (d : Ho W μ){n fuel : Nat}(O : fuel ≤ n){cs : List Value}{r : DataW H × List MemPlace}(h : DataW.trod enc P W 0 sp held fuel Ei cs = some r) (F : Hn P Ei r.1) : ∃ x : na, fb.cs μ cs x ∧ rz n x := by
  cases fuel with
  | zero => cases h
  | succ fuel =>
    obtain ⟨za, c⟩ := Vy L.ku h F;obtain ⟨_, j, -⟩ := c 0 (Kh, 0) rfl;obtain ⟨_, o, -⟩ := c 1 (Oh, 1) rfl;obtain ⟨_, p, -⟩ := c 2 (Ri, 2) rfl;obtain ⟨_, q, -⟩ := c 3 (Ri, 4) rfl;obtain ⟨_, u, -⟩ := c 4 (Kh, 6) rfl;obtain ⟨_, v, z5⟩ := c 5 (ek, 7) rfl;obtain ⟨_, w, G⟩ := c 6 (Di, 8) rfl;simp only [L.one, L.ty.size] at j o p q u v w
    match cs, za with
    | [a, b, c0, Q, d0, d1, e, f, g], _ =>
      obtain ⟨k, bb⟩ := mn L.i j;obtain ⟨Df, ma⟩ := rq L.s o;obtain ⟨t, y⟩ := fv L p;obtain ⟨Rd, A⟩ := fv L q;obtain ⟨yx, C⟩ := mn L.i u;obtain ⟨Da, q1, l, D, K, s1, -⟩ := Vt (α := TParam) (B := 3518437208883) (Rz := fun _ => True) L.qh L.vv.size (by rw [Z.vv];decide) d v z5 fun n cs r' _ h _ => (PC L h).imp fun _ h => ⟨h, trivial⟩;obtain ⟨a2, q2, ab, E, M, s2, N⟩ := Vt (α := cb) (B := 1099511627776) (Rz := Nk n) L.Wg L.st.size (by rw [Z.st];decide) d w G fun m cs r' hm h z => HH L Z d n m _ _ (by omega) h z;simp at bb ma y A C D E;obtain ⟨rfl, rfl⟩ := y;obtain ⟨rfl, rfl⟩ := A;subst bb;subst ma;subst C;subst D;subst E;exact ⟨⟨k, Df, t, Rd, yx, l, ab⟩, ⟨Da, q1, a2, q2, rfl, K, M⟩, s1, s2, N⟩
theorem iG (L : Gn P Kh hk Oh Ri Vh dk Ci Di Zi ek Ei Ak) (Z : wv P Vh Ci Zi Ei) (b : Ho W μ){v : Value}{d : DataW H}{qh : List MemPlace}(h : DataW.Trod enc P W 0 sp held Ak v d qh) (f : Hn P Ak d) (g : v.cells.toList = [v]) : ∃ (a : Option Addr) (c : Nat) (l : List na) (k : Nat), v = .slice a l.length c ∧ Ua μ a c l ∧ Jo k l := by
  obtain ⟨fuel, h⟩ := h;obtain ⟨a, c, l, e, k, s1, s2⟩ := Vt (α := na) (B := 1099511627776) (Rz := rz fuel) L.ds L.ku.size (by rw [Z.ku];decide) b h f fun n cs r' i h z => IH L Z b (by omega) h z;rw [g] at e;cases e;exact ⟨a, c, l, fuel, rfl, k, s1, s2⟩
theorem AI {a us : List TypeId}{ds gs : List (DataW H)}(h : (DataW.weightsEach P (a ++ us) (ds ++ gs)).all (· ≤ reachBytes) = true){j : Nat}{t : TypeId}{d : DataW H}(b : a[j]? = some t) (Ba : ds[j]? = some d) : Hn P t d := by
  intro n c;refine of_decide_eq_true (List.all_eq_true.1 h n (DataW.weights_mem_each (j := j) (t := t) (d := d) ?_ ?_ n c))
  · rw [List.getElem?_append_left (List.getElem?_eq_some_iff.1 b).1];exact b
  · rw [List.getElem?_append_left (List.getElem?_eq_some_iff.1 Ba).1];exact Ba
end
end Go.nd
namespace Go.Proofs.Yteiemedhecjgiaa.genMakes
open Go.pc Go.nd Go.Y Go.ChangeShapes Go.WideShapes Go.ChangeAt Go.RowKit
theorem BI {fu : Nat}{c : List na}{a0 : Option Addr}{c0 : Nat}(W : World) (e : vk (fun _ => True) W yd) (m0 : Ua (fun w => yd w ∧ ∀ k, k < W.heap.size → w.heap[k]? = W.heap[k]?) a0 c0 c) (f : Bu fu c = some true) :
    nc Try.prog 5 [.slice a0 c.length c0] W fun v w => v = .bool true ∧ yo W w := by
  have g : ra (fun w => yd w ∧ ∀ k, k < W.heap.size → w.heap[k]? = W.heap[k]?) W W []:= Sep.start W _ _ (e.and fun w' _ i k d => i k d trivial);refine (RD (fu := fu) (fun _ h => h.1) m0 f g).mono ?_;rintro v w' ⟨xa, rfl, hle, b⟩;have d := hle _ b.a;exact ⟨rfl, b.keeps.os, b.keeps.tape, b.keeps.output, b.keeps.size, fun k j _ => d.2 k j⟩
theorem kJ : Gn Try.prog 3 2 9 55 119 117 121 57 107 56 59 22 := ⟨Try.underlying3, Try.underlying2, Try.underlying9, ⟨⟨_, Try.underlying55, by kernel_rfl, by kernel_rfl⟩⟩, ⟨⟨_, Try.underlying119, by kernel_rfl, by kernel_rfl⟩⟩, Try.underlying117, ⟨⟨_, Try.underlying121, by kernel_rfl, by kernel_rfl⟩⟩, Try.underlying57, ⟨⟨_, Try.underlying107, by kernel_rfl, by kernel_rfl⟩⟩, Try.underlying56, ⟨⟨_, Try.underlying59, by kernel_rfl, by kernel_rfl⟩⟩, Try.underlying22, by kernel_rfl, by kernel_rfl, by kernel_rfl, by kernel_rfl, by kernel_rfl, by kernel_rfl⟩
theorem Nd : wv Try.prog 119 121 107 59 := ⟨by kernel_rfl, by kernel_rfl, by kernel_rfl, by kernel_rfl⟩
theorem own : ownKnob Try.prog.godebug = none := by kernel_rfl
theorem laidOut : laidOutB Try.prog = true := by kernel_rfl
set_option maxRecDepth 100000 in
set_option maxHeartbeats 4000000 in
theorem jG (H : Type) (enc : TypeId × Value → H) (W : World) (base : Nat) (args : Array Value) (ds gs : List (DataW H)) (before : List MemPlace)
    (b : ∀ (j : Nat) t v, Try.f5.params[j]? = some t → args[j]? = some v → Value.okWide Try.prog W .any base t v)
    (f : DataW.Whole enc Try.prog Try.f5.params.toList Rows.genMakesSpec.vars false W args.toList ds gs before) (s : ∀ (j : Nat) t d, Try.f5.params.toList[j]? = some t → ds[j]? = some d → Hn Try.prog t d) (u : W.ShapedOpen Try.prog) :
    Calls Try.prog 5 args W fun e i => ∃ v, e = .returned v ∧ Rows.genMakesSpec.post enc Try.prog Try.f5 false true false false W args v i := by
  have a := f;obtain ⟨p, q, l, y, rfl, M, N⟩ := f;have n : DataW.TrodAll enc Try.prog W 0 (fun _ => true) true Try.f5.params.toList args.toList ds p := l;rw [Try.params5] at n b;obtain ⟨v0, O, z, Q, Wa, R, S, rfl, rfl, o, A⟩ := trodAll_cons n;obtain ⟨rfl, rfl, rfl⟩ := trodAll_nil A;obtain rfl : args = #[v0]:= by cases args;simp_all
  obtain ⟨rfl, rfl⟩ := trodVars_none y;clear l;simp only [List.append_nil] at a;have B := a.lt;have C : v0.cells.toList = [v0]:= by obtain ⟨_, _, _, rfl⟩ := okWide_slice Try.underlying22 (b 0 22 v0 rfl rfl);rfl
  obtain ⟨a0, c0, T, z0, D, m0, E⟩ := iG (μ := fun w => yd w ∧ ∀ k, k < W.heap.size → w.heap[k]? = W.heap[k]?) kJ Nd (fun w h => h.2) o (s 0 22 z (by rw [Try.params5];rfl) rfl) C;obtain ⟨m, hm⟩ := cell_of_shapedOpen_int (P := Try.prog) (g := 0) (t := 3) (zero := #[.int .i64 0]) u (of_decide_eq_true (by kernel_rfl)) (by kernel_rfl) (by kernel_rfl) (by kernel_rfl) (by kernel_rfl) Try.underlying3;have F : vk (fun _ => True) W yd := fun w' _ G => ⟨m, Eu hm fun k K => G k K trivial⟩;have walk := (BI W F m0 (AD _ _ E)).out;rw [← D] at walk;refine walk.mono fun e i he => ?_;cases e with
  | panicked c => exact he.elim
  | outgrown => exact he.elim
  | returned v =>
    obtain ⟨rfl, r⟩ := he;exact ⟨_, rfl, _, _, _, [], _, [], a, trodAll_cons_mk (shut_bool Try.underlying4 _) trodAll_mk0, (trodAll_cons_mk (Below.trod laidOut (by kernel_rfl) (of_decide_eq_true (by kernel_rfl)) o r.below (fun x L => B x (by simp [L]))) trodAll_mk0), rfl, r.below.frame _, fun h => by cases h⟩
theorem lJ : (World.laidAll Try.prog default Rows.genMakesRow.laid).os = default := World.laidAll_os _ _ _
set_option maxRecDepth 100000 in
theorem lifted (os : Os) (started : os.Started) (H : Type) (enc : TypeId × Value → H) (F : Stop.Interp) :
    ReturnsInHanded {} Try.checked os 5 .any ((OpenSpec.ofChange Rows.genMakesSpec).preRow enc Try.prog Try.f5 Rows.genMakesRow.domain false Rows.genMakesRow.laid) (((OpenSpec.ofChange Rows.genMakesSpec).at F).post enc Try.prog Try.f5 false true false false):= by
  have a : ∃ places, DataW.whole enc Try.prog ((World.laidAll Try.prog os Rows.genMakesRow.laid).forCall (fun _ _ => 0) ⟨#[], #[.slice none 0 0], []⟩).memory Try.f5.params.toList Rows.genMakesSpec.vars false (#[.slice none 0 0] : Array Value).toList 8 = some ([.nil], [], places):= ⟨[], by kernel_rfl⟩;obtain ⟨places, a⟩ := a;have b : Input.okWideB Try.prog ((World.laidAll Try.prog os Rows.genMakesRow.laid).forCall (fun _ _ => 0) ⟨#[], #[.slice none 0 0], []⟩) 5 ⟨#[], #[.slice none 0 0], []⟩ = true := by kernel_rfl
  refine returnsInHanded_of_row (C := Try.checked) (s := OpenSpec.ofChange Rows.genMakesSpec) own started (by kernel_rfl) Try.func5
    ⟨World.laidAll Try.prog os Rows.genMakesRow.laid, fun _ _ => 0, ⟨#[], #[.slice none 0 0], []⟩, World.laidAll_os _ _ _, World.shaped_of_ZipB (by kernel_rfl) (by kernel_rfl), (Input.okWide_of_okWideB (base := 0) b).1, (Input.okWide_of_okWideB b).2,
      OpenSpec.preRow_of_cond 8 a (by kernel_rfl) (fun k c => by cases c) (by kernel_rfl) (by rw [MakeChecks.laidMetH_plain _ _ _ (by kernel_rfl)];exact laidMet_laidAll _ (by kernel_rfl) (by kernel_rfl)), by
        simp only [Assume.holds];exact ⟨by simp, by simp, fun _ => Modest.zero, by simp, by simp⟩⟩ ?_
  intro W base args ds gs before e f _ c g l h _;exact jG H enc W base args ds gs before e f (fun j t d i Ba => AI g i Ba) h
theorem said : Rows.GenMakesSaid :=
  OpenClaim.holds_of_cond 5 Try.f5 rfl rfl rfl rfl rfl rfl rfl ⟨rfl, rfl, rfl, rfl, rfl⟩ rfl rfl rfl rfl rfl (by kernel_rfl) Try.func5 (by kernel_rfl)
    (of_decide_eq_true (by kernel_rfl)) (by unfold Func.isWrapper;first | (rw [if_pos (by decide +kernel)];kernel_rfl) | (rw [if_neg (by decide +kernel)];exact ⟨rfl, rfl⟩))
    (fun os started H enc _ F => by rw [OpenClaim.pre_eq_preRow];exact lifted os started H enc F)
end Go.Proofs.Yteiemedhecjgiaa.genMakes
