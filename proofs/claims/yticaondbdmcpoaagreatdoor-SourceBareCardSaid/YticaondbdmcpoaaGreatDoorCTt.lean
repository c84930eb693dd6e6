/- SourceBare: the statement holds for every input; as the card says it (the listed variables are laid as the text lays them). -/
import Derived.Test.YticaondbdmcpoaaGreatDoorCXt
import Derived.ChangeSlices
import Derived.ChangeShapes
import Derived.Test.YticaondbdmcpoaaGreatDoorCMd
import Derived.ChangeArms
import Derived.Test.YticaondbdmcpoaaGreatDoorCPl
import Derived.SizedLaws
import Derived.Test.YticaondbdmcpoaaGreatDoorCards
import Derived.Test.YticaondbdmcpoaaGreatDoorTie
import Derived.WalkKit
import Derived.ProofKit
import Derived.OpenShut
import Derived.Deep.DeepHandedRow
import Derived.Lay
import Derived.Shelf.Vars
import Derived.Carry
import Derived.Test.YticaondbdmcpoaaGreatDoorCWl
import Derived.Test.YticaondbdmcpoaaGreatDoorCPm
set_option linter.unusedSimpArgs false
set_option linter.unusedVariables false
set_option linter.unusedSectionVars false
namespace Go.ec
open Go.Rb Go.RowKit Go.ChangeShapes
section
variable {H : Type}{enc : TypeId × Value → H}{P : Program}{W : World}{d : DataW H}{Nf : List MemPlace}{v : Value}
theorem fL {w : World}{b i : Nat}{v : Value}(h : w.cell? ⟨b, i, none⟩ = some v) : b < w.heap.size := by
  refine Decidable.byContradiction fun a => ?_;have : w.heap[b]? = none := Array.getElem?_eq_none (by omega);simp [World.cell?, this] at h
theorem Tv {w w' : World}{b i : Nat}{v : Value}(h : w.cell? ⟨b, i, none⟩ = some v) (a : ∀ k, k < w.heap.size → w'.heap[k]? = w.heap[k]?) : w'.cell? ⟨b, i, none⟩ = some v := by
  have ia := fL h;simpa [World.cell?, a b ia] using h
theorem RP {t e : TypeId}{μ : M}(r : P.underlying t = some (.slice e)) (he : P.underlying e = some (.int .i64)) (y : P.cellsOf e = 1) (h : DataW.Trod enc P W 0 (fun _ => true) true t v d Nf) (z : v.cells.toList = [v])
    (A : ∀ w, μ w → ∀ k, k < W.heap.size → w.heap[k]? = W.heap[k]?) :
    ∃ (a : Option Addr) (c : Nat) (l : List Int), v = .slice a l.length c ∧ Ja μ a c l ∧ ∀ x ∈ l, -9223372036854775808 ≤ x ∧ x ≤ 9223372036854775807 := by
  obtain ⟨fuel, h⟩ := h;rw [z] at h;rcases open_ints r he y h with ⟨e, -⟩ | ⟨a, len, cap, g, e, -, H, B, C, -, m, D⟩
  · cases e;exact ⟨none, 0, [], rfl, Ja.nil, by simp⟩
  · simp only [if_true] at C;cases e;have hlen : (g.take len).length = len := by rw [List.length_take];omega
    refine ⟨some a, cap, g.take len, by rw [hlen], ⟨by omega, B, ?_⟩, fun x f => ?_⟩
    · by_cases E : len = 0
      · left;subst E;simp
      · right;have n : a.spot = none := by
          have := m 0 (by omega);cases F : a.spot with
          | none => rfl
          | some q =>
            have e : (a.add 0).spot = some q := by simp [Addr.add, F]
            unfold World.cell? at this;rw [e] at this;simp at this;split at this<;>cases this
        obtain ⟨b, o, s⟩ := a;simp only at n;subst n;refine ⟨b, o, rfl, fun i => [.int .i64 (g.getD i 0)], fun i x f => ⟨fun w hw j u hu => ?_, ?_⟩⟩
        · have K : i < len := by
            have := (List.getElem?_eq_some_iff.1 f).1;omega
          have G : j = 0 := by
            have := (List.getElem?_eq_some_iff.1 hu).1;simpa using this
          subst G;cases hu;have p := m i (by omega);rw [Ak] at p;have := Tv p (A w hw);show w.cell? ⟨b, o + i * 1 + 0, none⟩ = _;rw [Nat.mul_one, Nat.add_zero];exact this
        · rw [List.getElem?_take] at f;split at f
          · show _ = _;simp [List.getD_eq_getElem?_getD, f]
          · cases f
    · have := D x (List.mem_of_mem_take f);simpa [Lit.wf, IntKind.min, IntKind.max, IntKind.signed, IntKind.bits] using this
theorem wO {t e : TypeId}{μ : M}(A : P.underlying t = some (.slice e)) (he : P.underlying e = some .bool) (B : P.cellsOf e = 1) (h : DataW.Trod enc P W 0 (fun _ => true) true t v d Nf) (C : v.cells.toList = [v])
    (D : ∀ w, μ w → ∀ k, k < W.heap.size → w.heap[k]? = W.heap[k]?) :
    ∃ (a : Option Addr) (c : Nat) (l : List Bool), v = .slice a l.length c ∧ Ja μ a c l ∧ True := by
  obtain ⟨fuel, h⟩ := h;rw [C] at h;rcases DataW.trod_slice A h with ⟨e, -⟩ | ⟨a, len, cap, elems, rest, n, -, e, -, -, E, F, R, G, -⟩
  · cases e;exact ⟨none, 0, [], rfl, Ja.nil, trivial⟩
  · cases e;have each : ∀ i, i < len → ∃ q : Bool, W.cell? (a.add i) = some (.bool q):= by
      intro i g;have p := G i g;rw [B, Nat.mul_one] at p;have H : i < elems.length := by omega
      rw [List.getElem?_eq_getElem H, Option.bind_eq_some_iff] at p;obtain ⟨cs, K, L⟩ := p;obtain ⟨q, rfl, -⟩ := DataW.trod_bool he L;exact ⟨q, cell_of_cells?_one K⟩
    let f : Nat → Bool := fun i => if g : i < len then Classical.choose (each i g) else false
    have r : ∀ i, i < len → W.cell? (a.add i) = some (.bool (f i)):= fun i g => by
      simp only [f, dif_pos g];exact Classical.choose_spec (each i g)
    refine ⟨some a, cap, (List.range len).map f, by simp, ⟨by simpa using E, F, ?_⟩, trivial⟩;by_cases N : len = 0
    · left;subst N;simp
    · right;have y : a.spot = none := by
        have := r 0 (by omega);cases O : a.spot with
        | none => rfl
        | some q =>
          have e : (a.add 0).spot = some q := by simp [Addr.add, O]
          unfold World.cell? at this;rw [e] at this;simp at this;split at this<;>cases this
      obtain ⟨b, o, s⟩ := a;simp only at y;subst y;refine ⟨b, o, rfl, fun i => [.bool (f i)], fun i x m => ⟨fun w hw j u hu => ?_, ?_⟩⟩
      · have g : i < len := by
          have := (List.getElem?_eq_some_iff.1 m).1;simpa using this
        have Q : j = 0 := by
          have := (List.getElem?_eq_some_iff.1 hu).1;simpa using this
        subst Q;cases hu;have z := r i g;rw [Ak] at z;have := Tv z (D w hw);show w.cell? ⟨b, o + i * 1 + 0, none⟩ = _;rw [Nat.mul_one, Nat.add_zero];exact this
      · have g : i < len := by
          have := (List.getElem?_eq_some_iff.1 m).1;simpa using this
        simp [g] at m;show [Value.bool (f i)] = [Value.bool x];rw [m]
end
end Go.ec
namespace Go.ec
open Go.Rb Go.RowKit Go.ChangeShapes Go.Y
section
variable {H : Type}{enc : TypeId × Value → H}{P : Program}{W : World}{sp : Nat → Bool}{held : Bool}{μ : M}
def xq (W : World) (μ : M) : Prop := ∀ w, μ w → ∀ k, k < W.heap.size → w.heap[k]? = W.heap[k]?
theorem JJ {α β : Type}{f : α → Option β} : ∀ {l : List α}{ys : List β}, l.mapM f = some ys → ∀ x ∈ l, ∃ y, f x = some y := by
  intro l
  induction l with
  | nil => intro ys _ x c; cases c
  | cons a l e =>
    intro ys h x c;rw [List.mapM_cons] at h;cases d : f a with
    | none => rw [d] at h; cases h
    | some b =>
      rw [d] at h;cases ia : l.mapM f with
      | none => rw [ia] at h; cases h
      | some bs =>
        rcases List.mem_cons.1 c with rfl | c
        · exact ⟨b, d⟩
        · exact e ia x c
structure Df (P : Program) (T : TypeId) (b : List (TypeId × Nat)) (n : Nat) : Prop where
  out : ∃ a, P.underlying T = some (.struct a) ∧ (a.toList.map fun f => (f.type, f.offset)) = b ∧ P.cellsOf T = n
theorem Df.size {T : TypeId}{a : List (TypeId × Nat)}{n : Nat}(h : Df P T a n) : P.cellsOf T = n := by
  obtain ⟨b, -, -, h⟩ := h.out;exact h
theorem Cw {T : TypeId}{a : List (TypeId × Nat)}{n fuel : Nat}{cs : List Value}{r : DataW H × List MemPlace}(d : Df P T a n) (h : DataW.trod enc P W 0 sp held (fuel + 1) T cs = some r) :
    cs.length = n ∧ ∀ p ∈ a, ∃ r', DataW.trod enc P W 0 sp held fuel p.1 ((cs.drop p.2).take (P.cellsOf p.1)) = some r' := by
  obtain ⟨b, hu, e, g⟩ := d.out;by_cases ia : cs.length = P.cellsOf T
  · refine ⟨ia.trans g, ?_⟩;have i : ∃ ys, b.toList.mapM (fun f => DataW.trod enc P W 0 sp held fuel f.type ((cs.drop f.offset).take (P.cellsOf f.type))) = some ys := by
      unfold DataW.trod at h;simp only [hu, ia, if_true] at h;cases hm : b.toList.mapM (fun f => DataW.trod enc P W 0 sp held fuel f.type ((cs.drop f.offset).take (P.cellsOf f.type))) with
      | none => rw [hm] at h; cases h
      | some ys => exact ⟨ys, rfl⟩
    obtain ⟨ys, j⟩ := i;intro p c;rw [← e] at c;obtain ⟨f, k, rfl⟩ := List.mem_map.1 c;exact JJ j f k
  · unfold DataW.trod at h;simp only [hu, ia, if_false] at h;cases h
theorem kp {t : TypeId}{fuel : Nat}{cs : List Value}{r : DataW H × List MemPlace}(a : P.underlying t = some (.int .i64)) (h : DataW.trod enc P W 0 sp held fuel t cs = some r) : ∃ n, cs = [.int .i64 n]:= by
  obtain ⟨n, b, -, -⟩ := DataW.trod_int a h;exact ⟨n, b⟩
theorem Bs {t : TypeId}{fuel : Nat}{cs : List Value}{r : DataW H × List MemPlace}(a : P.underlying t = some .string) (h : DataW.trod enc P W 0 sp held fuel t cs = some r) : ∃ s, cs = [S s]:= by
  obtain ⟨⟨⟨s⟩⟩, b, -, -⟩ := DataW.trod_string a h;exact ⟨s, b⟩
theorem hy {a : Addr}{m : Nat}{cs : List Value}(h : W.cells? 0 a m = some cs) : cs.length = m ∧ ∀ i v, cs[i]? = some v → W.cell? (a.add i) = some v := by
  unfold World.cells? at h;rw [if_pos (Nat.zero_le _)] at h;have ia := mapM_some_length h;refine ⟨by simpa using ia, fun i v b => ?_⟩;have c : i < m := by have := (List.getElem?_eq_some_iff.1 b).1;rw [ia] at this;simpa using this
  rw [← b];exact mapM_some_get h i i (by simp [c])
theorem jv {α : Type}[ab α]{fuel : Nat}{T e : TypeId}{cs : List Value}{r : DataW H × List MemPlace}(hu : P.underlying T = some (.slice e)) (hm : P.cellsOf e = ab.sz α) (z : xq W μ) (h : DataW.trod enc P W 0 sp held fuel T cs = some r)
    (A : ∀ n cs r', n < fuel → DataW.trod enc P W 0 sp held n e cs = some r' → ∃ x : α, ab.cs μ cs x) : ∃ (a : Option Addr) (c : Nat) (l : List α), cs = [.slice a l.length c] ∧ Ja μ a c l := by
  rcases DataW.trod_slice hu h with ⟨rfl, -⟩ | ⟨a, len, cap, elems, rest, n, rfl, rfl, -, -, N, t, O, B, -⟩
  · exact ⟨none, 0, [], rfl, Ja.nil⟩
  · rcases Nat.eq_zero_or_pos len with m | m
    · subst m;exact ⟨some a, cap, [], rfl, ⟨by simp, t, .inl rfl⟩⟩
    · have each : ∀ i, i < len → ∃ cs, cs.length = ab.sz α ∧ (∀ j v, cs[j]? = some v → W.cell? ((a.add (i * ab.sz α)).add j) = some v) ∧ ∃ x : α, ab.cs μ cs x := by
        intro i d;have he := B i d;rw [hm] at he;obtain ⟨y, C⟩ : ∃ y, elems[i]? = some y := ⟨_, List.getElem?_eq_getElem (by omega)⟩;rw [C] at he;cases k : W.cells? 0 (a.add (i * ab.sz α)) (ab.sz α) with
        | none => rw [k] at he; cases he
        | some cs =>
          rw [k] at he;exact ⟨cs, (hy k).1, (hy k).2, A n cs y (Nat.lt_succ_self _) he⟩
      have u : a.spot = none := by
        obtain ⟨cs, ia, k, -⟩ := each 0 m;have Q := ab.pos (α := α);obtain ⟨v, D⟩ : ∃ v, cs[0]? = some v := ⟨_, List.getElem?_eq_getElem (by omega)⟩;have := k 0 v D;cases E : a.spot with
        | none => rfl
        | some q =>
          have e : ((a.add (0 * ab.sz α)).add 0).spot = some q := by simp [Addr.add, E]
          unfold World.cell? at this;rw [e] at this;simp at this;split at this<;>cases this
      obtain ⟨b, o, s⟩ := a;simp only at u;subst u;have F : ∃ g : Nat → List Value, ∃ f : Nat → α, ∀ i, i < len → (∀ j v, (g i)[j]? = some v → W.cell? (((⟨b, o, none⟩ : Addr).add (i * ab.sz α)).add j) = some v) ∧ ab.cs μ (g i) (f i):= by
        have ne : Nonempty α := by obtain ⟨_, -, -, x, -⟩ := each 0 m;exact ⟨x⟩
        refine ⟨fun i => if d : i < len then Classical.choose (each i d) else [], fun i => if d : i < len then Classical.choose (Classical.choose_spec (each i d)).2.2 else Classical.choice ne, fun i d => ?_⟩;simp only [dif_pos d];exact ⟨(Classical.choose_spec (each i d)).2.1, Classical.choose_spec (Classical.choose_spec (each i d)).2.2⟩
      obtain ⟨g, f, G⟩ := F;refine ⟨some ⟨b, o, none⟩, cap, (List.range' 0 len).map f, by simp, ⟨by simp;omega, t, .inr ⟨b, o, rfl, g, fun i x p => ?_⟩⟩⟩;have d : i < len := by
        have := (List.getElem?_eq_some_iff.1 p).1;simpa using this
      have K : x = f i := by
        rw [List.getElem?_map, List.getElem?_range' d] at p;simpa using p.symm
      obtain ⟨k1, L⟩ := G i d;rw [K];refine ⟨fun w hw j v M => ?_, L⟩;have := k1 j v M;rw [Ak, Ak] at this;exact Tv this (z w hw)
structure Ep (P : Program) (Ei Gl Mi fk Ui Dl Dj Ej tk El Fj dm : TypeId) : Prop where
  i : P.underlying Ei = some (.int .i64)
  n : P.underlying Gl = some (.int .i64)
  s : P.underlying Mi = some .string
  ty : Df P fk [(Ei, 0), (Mi, 1)] 2
  ex : Df P Ui [(Ei, 0), (Gl, 1), (Mi, 2), (Dl, 3)] 4
  es : P.underlying Dl = some (.slice Ui)
  st : Df P Dj [(Ei, 0), (Mi, 1), (Ui, 2), (Ej, 6), (Ej, 7)] 8
  Ev : P.underlying Ej = some (.slice Dj)
  gx : Df P tk [(Mi, 0), (fk, 1)] 3
  Nf : P.underlying El = some (.slice tk)
  Fv : Df P Fj [(Ei, 0), (Mi, 1), (fk, 2), (fk, 4), (Ei, 6), (El, 7), (Ej, 8)] 9
  ds : P.underlying dm = some (.slice Fj)
  one : P.cellsOf Ei = 1 ∧ P.cellsOf Gl = 1 ∧ P.cellsOf Mi = 1 ∧ P.cellsOf Dl = 1 ∧ P.cellsOf Ej = 1 ∧ P.cellsOf El = 1
variable {Ei Gl Mi fk Ui Dl Dj Ej tk El Fj dm : TypeId}
theorem Dw (L : Ep P Ei Gl Mi fk Ui Dl Dj Ej tk El Fj dm){fuel : Nat}{cs : List Value}{r : DataW H × List MemPlace}(h : DataW.trod enc P W 0 sp held fuel fk cs = some r) : ∃ t : Sa, cs = [.int .i64 t.Kind, S t.bc]:= by
  cases fuel with
  | zero => cases h
  | succ fuel =>
    obtain ⟨ia, c⟩ := Cw L.ty h;obtain ⟨_, d⟩ := c (Ei, 0) (by simp);obtain ⟨_, e⟩ := c (Mi, 1) (by simp);simp only [L.one] at d e
    match cs, ia with
    | [a, b], _ =>
      obtain ⟨k, nb⟩ := kp L.i d;obtain ⟨g, qa⟩ := Bs L.s e;simp at nb qa;subst nb;subst qa;exact ⟨⟨k, g⟩, rfl⟩
theorem BN (L : Ep P Ei Gl Mi fk Ui Dl Dj Ej tk El Fj dm) (v : xq W μ) : ∀ (n fuel : Nat) (cs : List Value) (r : DataW H × List MemPlace), fuel ≤ n → DataW.trod enc P W 0 sp held fuel Ui cs = some r → ∃ x : Da, ab.cs μ cs x := by
  intro n
  induction n with
  | zero => intro fuel cs r w h; cases fuel with | zero => cases h | succ f => omega
  | succ n y =>
    intro fuel cs r w h;cases fuel with
    | zero => cases h
    | succ fuel =>
      obtain ⟨ia, e⟩ := Cw L.ex h;obtain ⟨_, j⟩ := e (Ei, 0) (by simp);obtain ⟨_, o⟩ := e (Gl, 1) (by simp);obtain ⟨_, p⟩ := e (Mi, 2) (by simp);obtain ⟨_, q⟩ := e (Dl, 3) (by simp);simp only [L.one] at j o p q
      match cs, ia with
      | [a, b, c, d], _ =>
        obtain ⟨k, nb⟩ := kp L.i j;obtain ⟨m, qa⟩ := kp L.n o;obtain ⟨g, t⟩ := Bs L.s p;obtain ⟨z, c', l, u, A⟩ := jv (α := Da) L.es L.ex.size v q fun f cs r' e h => y f cs r' (by omega) h;simp at nb qa t u;subst nb;subst qa;subst t;subst u;exact ⟨⟨k, m, g, l⟩, Da.i ⟨z, c', rfl, A⟩⟩
theorem CN (L : Ep P Ei Gl Mi fk Ui Dl Dj Ej tk El Fj dm) (j : xq W μ) : ∀ (n fuel : Nat) (cs : List Value) (r : DataW H × List MemPlace), fuel ≤ n → DataW.trod enc P W 0 sp held fuel Dj cs = some r → ∃ x : Ea, ab.cs μ cs x := by
  intro n
  induction n with
  | zero => intro fuel cs r z h; cases fuel with | zero => cases h | succ f => omega
  | succ n m =>
    intro fuel cs r z h;cases fuel with
    | zero => cases h
    | succ fuel =>
      obtain ⟨ia, c⟩ := Cw L.st h;obtain ⟨_, p⟩ := c (Ei, 0) (by simp);obtain ⟨_, q⟩ := c (Mi, 1) (by simp);obtain ⟨_, t⟩ := c (Ui, 2) (by simp);obtain ⟨_, u⟩ := c (Ej, 6) (by simp);obtain ⟨_, v⟩ := c (Ej, 7) (by simp);simp only [L.one, L.ex.size] at p q t u v
      match cs, ia with
      | [a, b, c0, jb, c2, c3, d, e], _ =>
        obtain ⟨k, nb⟩ := kp L.i p;obtain ⟨g, qa⟩ := Bs L.s q;obtain ⟨x, A⟩ := BN L j _ _ _ _ (Nat.le_refl _) t;obtain ⟨a2, B, l, w, C⟩ := jv (α := Ea) L.Ev L.st.size j u fun f cs r' c h => m f cs r' (by omega) h;obtain ⟨a3, D, E, y, Ue⟩ := jv (α := Ea) L.Ev L.st.size j v fun f cs r' c h => m f cs r' (by omega) h;obtain ⟨oa, F, Pa, k1⟩ := Da.o A;simp at nb qa w y Pa;obtain ⟨rfl, rfl, rfl, rfl⟩ := Pa;subst nb;subst qa;subst w;subst y;exact ⟨⟨k, g, x, l, E⟩, Ea.i ⟨oa, F, a2, B, a3, D, rfl, k1, C, Ue⟩⟩
theorem UF (L : Ep P Ei Gl Mi fk Ui Dl Dj Ej tk El Fj dm){fuel : Nat}{cs : List Value}{r : DataW H × List MemPlace}(h : DataW.trod enc P W 0 sp held fuel tk cs = some r) : ∃ x : TParam, ab.cs μ cs x := by
  cases fuel with
  | zero => cases h
  | succ n =>
    obtain ⟨ia, d⟩ := Cw L.gx h;obtain ⟨_, e⟩ := d (Mi, 0) (by simp);obtain ⟨_, f⟩ := d (fk, 1) (by simp);simp only [L.one, L.ty.size] at e f
    match cs, ia with
    | [a, b, c], _ =>
      obtain ⟨mc, nb⟩ := Bs L.s e;obtain ⟨t, qa⟩ := Dw L f;simp at nb qa;obtain ⟨rfl, rfl⟩ := qa;subst nb;exact ⟨⟨mc, t⟩, rfl⟩
theorem DN (L : Ep P Ei Gl Mi fk Ui Dl Dj Ej tk El Fj dm) (d : xq W μ){fuel : Nat}{cs : List Value}{r : DataW H × List MemPlace}(h : DataW.trod enc P W 0 sp held fuel Fj cs = some r) : ∃ x : sa, ab.cs μ cs x := by
  cases fuel with
  | zero => cases h
  | succ fuel =>
    obtain ⟨ia, c⟩ := Cw L.Fv h;obtain ⟨_, j⟩ := c (Ei, 0) (by simp);obtain ⟨_, m⟩ := c (Mi, 1) (by simp);obtain ⟨_, o⟩ := c (fk, 2) (by simp);obtain ⟨_, p⟩ := c (fk, 4) (by simp);obtain ⟨_, q⟩ := c (Ei, 6) (by simp);obtain ⟨_, u⟩ := c (El, 7) (by simp);obtain ⟨_, v⟩ := c (Ej, 8) (by simp);simp only [L.one, L.ty.size] at j m o p q u v
    match cs, ia with
    | [a, b, c0, jb, d0, d1, e, f, g], _ =>
      obtain ⟨k, nb⟩ := kp L.i j;obtain ⟨mc, qa⟩ := Bs L.s m;obtain ⟨t, w⟩ := Dw L o;obtain ⟨ib, y⟩ := Dw L p;obtain ⟨Ig, z⟩ := kp L.i q;obtain ⟨oa, C, l, A, D⟩ := jv (α := TParam) L.Nf L.gx.size d u fun n cs r' _ h => UF L h;obtain ⟨a2, E, F, B, G⟩ := jv (α := Ea) L.Ev L.st.size d v fun n cs r' _ h => CN L d _ _ _ _ (Nat.le_refl _) h;simp at nb qa w y z A B;obtain ⟨rfl, rfl⟩ := w;obtain ⟨rfl, rfl⟩ := y;subst nb;subst qa;subst z;subst A;subst B;exact ⟨⟨k, mc, t, ib, Ig, l, F⟩, oa, C, a2, E, rfl, D, G⟩
theorem SP (L : Ep P Ei Gl Mi fk Ui Dl Dj Ej tk El Fj dm) (b : xq W μ){v : Value}{d : DataW H}{Nf : List MemPlace}(h : DataW.Trod enc P W 0 sp held dm v d Nf) (f : v.cells.toList = [v]) : ∃ (a : Option Addr) (c : Nat) (l : List sa), v = .slice a l.length c ∧ Ja μ a c l := by
  obtain ⟨fuel, h⟩ := h;obtain ⟨a, c, l, e, k⟩ := jv (α := sa) L.ds L.Fv.size b h fun n cs r' _ h => DN L b h;rw [f] at e;cases e;exact ⟨a, c, l, rfl, k⟩
end
end Go.ec
namespace Go.ec
open Go.Rb Go.RowKit Go.ChangeShapes Go.Y
section
variable {H : Type}{enc : TypeId × Value → H}{P : Program}{W : World}{sp : Nat → Bool}{held : Bool}{μ : M}
def Fp (P : Program) (T : TypeId) (d : DataW H) : Prop := ∀ n ∈ d.weights P T, n ≤ reachBytes
theorem KJ {α β : Type}{f : α → Option β} : ∀ {l : List α}{ys : List β}, l.mapM f = some ys → ys.length = l.length ∧ ∀ (i : Nat) (x : α), l[i]? = some x → ∃ y, ys[i]? = some y ∧ f x = some y := by
  intro l
  induction l with
  | nil => intro ys h; cases h; exact ⟨rfl, fun i x c => by simp at c⟩
  | cons a l e =>
    intro ys h;rw [List.mapM_cons] at h;cases d : f a with
    | none => rw [d] at h; cases h
    | some b =>
      rw [d] at h;cases ia : l.mapM f with
      | none => rw [ia] at h; cases h
      | some bs =>
        rw [ia] at h;cases h;obtain ⟨g, j⟩ := e ia;refine ⟨by simp [g], fun i x c => ?_⟩;cases i with
        | zero => cases c; exact ⟨b, rfl, d⟩
        | succ i => exact j i x c
theorem qB {T : TypeId}{a : List (TypeId × Nat)}{n fuel : Nat}{cs : List Value}{r : DataW H × List MemPlace}(e : Df P T a n) (h : DataW.trod enc P W 0 sp held (fuel + 1) T cs = some r) (g : Fp P T r.1) :
    cs.length = n ∧ ∀ (i : Nat) (p : TypeId × Nat), a[i]? = some p → ∃ r', DataW.trod enc P W 0 sp held fuel p.1 ((cs.drop p.2).take (P.cellsOf p.1)) = some r' ∧ Fp P p.1 r'.1 := by
  obtain ⟨b, hu, l, m⟩ := e.out;by_cases ia : cs.length = P.cellsOf T
  · refine ⟨ia.trans m, ?_⟩;have o : ∃ ys, b.toList.mapM (fun f => DataW.trod enc P W 0 sp held fuel f.type ((cs.drop f.offset).take (P.cellsOf f.type))) = some ys ∧ r.1 = .agg (ys.map (·.1)):= by
      unfold DataW.trod at h;simp only [hu, ia, if_true] at h;cases hm : b.toList.mapM (fun f => DataW.trod enc P W 0 sp held fuel f.type ((cs.drop f.offset).take (P.cellsOf f.type))) with
      | none => rw [hm] at h; cases h
      | some ys => rw [hm] at h; cases h; exact ⟨ys, rfl, rfl⟩
    obtain ⟨ys, q, s⟩ := o;obtain ⟨m1, m2⟩ := KJ q;intro i p c;rw [← l, List.getElem?_map] at c;obtain ⟨f, d, rfl⟩ := Option.map_eq_some_iff.1 c;obtain ⟨y, t, u⟩ := m2 i f d;refine ⟨y, u, fun k v => g k ?_⟩;rw [s, DataW.weights, hu];exact DataW.weights_mem_each (j := i) (by rw [List.getElem?_map, d];rfl) (by rw [List.getElem?_map, t];rfl) k v
  · unfold DataW.trod at h;simp only [hu, ia, if_false] at h;cases h
theorem qC {e : TypeId} : ∀ {ds : List (DataW H)}{i : Nat}{d : DataW H}, ds[i]? = some d → ∀ n ∈ d.weights P e, n ∈ DataW.weightsAll P e ds
  | d0 :: ds, 0, d, h, n, a => by
    cases h;rw [DataW.weightsAll];exact List.mem_append.2 (.inl a)
  | d0 :: ds, i + 1, d, h, n, a => by
    rw [DataW.weightsAll];exact List.mem_append.2 (.inr (qC (i := i) (by simpa using h) n a))
  | [], i, d, h, n, a => by simp at h
theorem fv {α : Type}[ab α]{B : Nat}{Rz : α → Prop}{fuel : Nat}{T e : TypeId}{cs : List Value}{r : DataW H × List MemPlace}(hu : P.underlying T = some (.slice e)) (hm : P.cellsOf e = ab.sz α) (Y : reachBytes < (B + 1) * P.bytesOf e) (F : xq W μ) (h : DataW.trod enc P W 0 sp held fuel T cs = some r) (z : Fp P T r.1)
    (G : ∀ n cs r', n < fuel → DataW.trod enc P W 0 sp held n e cs = some r' → Fp P e r'.1 → ∃ x : α, ab.cs μ cs x ∧ Rz x) : ∃ (a : Option Addr) (c : Nat) (l : List α), cs = [.slice a l.length c] ∧ Ja μ a c l ∧ l.length ≤ B ∧ ∀ x ∈ l, Rz x := by
  rcases DataW.trod_slice hu h with ⟨rfl, -⟩ | ⟨a, len, cap, elems, rest, n, rfl, rfl, A, -, Z, C, K, L, -⟩
  · exact ⟨none, 0, [], rfl, Ja.nil, by simp, by simp⟩
  · have hw : (elems.length + rest.length) * P.bytesOf e ≤ reachBytes := z _ (by rw [A];simp [DataW.weights, hu]);have hB : len ≤ B := by
      rw [K] at hw;rcases Nat.lt_or_ge B len with c | c
      · have : (B + 1) * P.bytesOf e ≤ (len + rest.length) * P.bytesOf e := Nat.mul_le_mul_right _ (by omega);omega
      · exact c
    have M : ∀ (i : Nat) (y : DataW H × List MemPlace), elems[i]? = some y → Fp P e y.1 := fun i y t k N => z k (by
      rw [A];simp only [DataW.weights, hu];refine List.mem_cons_of_mem _ (List.mem_append.2 (.inl ?_));exact qC (i := i) (by rw [List.getElem?_map, t];rfl) k N)
    rcases Nat.eq_zero_or_pos len with u | u
    · subst u;exact ⟨some a, cap, [], rfl, ⟨by simp, C, .inl rfl⟩, by simp, by simp⟩
    · have each : ∀ i, i < len → ∃ cs, cs.length = ab.sz α ∧ (∀ j v, cs[j]? = some v → W.cell? ((a.add (i * ab.sz α)).add j) = some v) ∧ ∃ x : α, ab.cs μ cs x ∧ Rz x := by
        intro i d;have he := L i d;rw [hm] at he;obtain ⟨y, t⟩ : ∃ y, elems[i]? = some y := ⟨_, List.getElem?_eq_getElem (by omega)⟩;rw [t] at he;cases m : W.cells? 0 (a.add (i * ab.sz α)) (ab.sz α) with
        | none => rw [m] at he; cases he
        | some cs =>
          rw [m] at he;exact ⟨cs, (hy m).1, (hy m).2, G n cs y (Nat.lt_succ_self _) he (M i y t)⟩
      have D : a.spot = none := by
        obtain ⟨cs, ia, m, -⟩ := each 0 u;have bb := ab.pos (α := α);obtain ⟨v, O⟩ : ∃ v, cs[0]? = some v := ⟨_, List.getElem?_eq_getElem (by omega)⟩;have := m 0 v O;cases Q : a.spot with
        | none => rfl
        | some q =>
          have e : ((a.add (0 * ab.sz α)).add 0).spot = some q := by simp [Addr.add, Q]
          unfold World.cell? at this;rw [e] at this;simp at this;split at this<;>cases this
      obtain ⟨b, o, s⟩ := a;simp only at D;subst D;have R : ∃ g : Nat → List Value, ∃ f : Nat → α, ∀ i, i < len → (∀ j v, (g i)[j]? = some v → W.cell? (((⟨b, o, none⟩ : Addr).add (i * ab.sz α)).add j) = some v) ∧ ab.cs μ (g i) (f i) ∧ Rz (f i):= by
        have ne : Nonempty α := by obtain ⟨_, -, -, x, -⟩ := each 0 u;exact ⟨x⟩
        refine ⟨fun i => if d : i < len then Classical.choose (each i d) else [], fun i => if d : i < len then Classical.choose (Classical.choose_spec (each i d)).2.2 else Classical.choice ne, fun i d => ?_⟩;simp only [dif_pos d];exact ⟨(Classical.choose_spec (each i d)).2.1, Classical.choose_spec (Classical.choose_spec (each i d)).2.2⟩
      obtain ⟨g, f, E⟩ := R;refine ⟨some ⟨b, o, none⟩, cap, (List.range' 0 len).map f, by simp, ⟨by simp;omega, C, .inr ⟨b, o, rfl, g, fun i x p => ?_⟩⟩, by simp;omega, fun x p => ?_⟩
      · have d : i < len := by
          have := (List.getElem?_eq_some_iff.1 p).1;simpa using this
        have S : x = f i := by
          rw [List.getElem?_map, List.getElem?_range' d] at p;simpa using p.symm
        obtain ⟨k1, U, -⟩ := E i d;rw [S];refine ⟨fun w hw j v V => ?_, U⟩;have := k1 j v V;rw [Ak, Ak] at this;exact Tv this (F w hw)
      · obtain ⟨i, d, rfl⟩ := List.mem_map.1 p;have X : i < len := by simpa using (List.mem_range'_1.1 d).2
        exact (E i X).2.2
structure hx (P : Program) (Ui Dj tk Fj : TypeId) : Prop where
  ex : P.bytesOf Ui = 56
  st : P.bytesOf Dj = 128
  gx : P.bytesOf tk = 40
  Fv : P.bytesOf Fj = 128
variable {Ei Gl Mi fk Ui Dl Dj Ej tk El Fj dm : TypeId}
theorem GM (L : Ep P Ei Gl Mi fk Ui Dl Dj Ej tk El Fj dm) (Z : hx P Ui Dj tk Fj) (v : xq W μ) : ∀ (n fuel : Nat) (cs : List Value) (r : DataW H × List MemPlace), fuel ≤ n → DataW.trod enc P W 0 sp held fuel Ui cs = some r → Fp P Ui r.1 → ∃ x : Da, ab.cs μ cs x ∧ wv n x := by
  intro n
  induction n with
  | zero => intro fuel cs r w h; cases fuel with | zero => cases h | succ f => omega
  | succ n y =>
    intro fuel cs r w h A;cases fuel with
    | zero => cases h
    | succ fuel =>
      obtain ⟨ia, e⟩ := qB L.ex h A;obtain ⟨_, j, -⟩ := e 0 (Ei, 0) rfl;obtain ⟨_, o, -⟩ := e 1 (Gl, 1) rfl;obtain ⟨_, p, -⟩ := e 2 (Mi, 2) rfl;obtain ⟨_, q, z3⟩ := e 3 (Dl, 3) rfl;simp only [L.one] at j o p q
      match cs, ia with
      | [a, b, c, d], _ =>
        obtain ⟨k, nb⟩ := kp L.i j;obtain ⟨m, qa⟩ := kp L.n o;obtain ⟨g, t⟩ := Bs L.s p;obtain ⟨C, c', l, u, D, s1, s2⟩ := fv (α := Da) (B := 2513169434916) (Rz := wv n) L.es L.ex.size (by rw [Z.ex];decide) v q z3 fun f cs r' e h z => y f cs r' (by omega) h z;simp at nb qa t u;subst nb;subst qa;subst t;subst u;exact ⟨⟨k, m, g, l⟩, Da.i ⟨C, c', rfl, D⟩, s1, s2⟩
theorem HM (L : Ep P Ei Gl Mi fk Ui Dl Dj Ej tk El Fj dm) (Z : hx P Ui Dj tk Fj) (j : xq W μ) : ∀ (n fuel : Nat) (cs : List Value) (r : DataW H × List MemPlace), fuel ≤ n → DataW.trod enc P W 0 sp held fuel Dj cs = some r → Fp P Dj r.1 → ∃ x : Ea, ab.cs μ cs x ∧ zr n x := by
  intro n
  induction n with
  | zero => intro fuel cs r A h; cases fuel with | zero => cases h | succ f => omega
  | succ n m =>
    intro fuel cs r A h C;cases fuel with
    | zero => cases h
    | succ fuel =>
      obtain ⟨ia, c⟩ := qB L.st h C;obtain ⟨_, p, -⟩ := c 0 (Ei, 0) rfl;obtain ⟨_, q, -⟩ := c 1 (Mi, 1) rfl;obtain ⟨_, t, z2⟩ := c 2 (Ui, 2) rfl;obtain ⟨_, u, z3⟩ := c 3 (Ej, 6) rfl;obtain ⟨_, v, z4⟩ := c 4 (Ej, 7) rfl;simp only [L.one, L.ex.size] at p q t u v
      match cs, ia with
      | [a, b, c0, jb, c2, c3, d, e], _ =>
        obtain ⟨k, nb⟩ := kp L.i p;obtain ⟨g, qa⟩ := Bs L.s q;obtain ⟨x, D, E⟩ := GM L Z j n _ _ _ (by omega) t z2;obtain ⟨a2, F, l, w, G, s1, s2⟩ := fv (α := Ea) (B := 1099511627776) (Rz := zr n) L.Ev L.st.size (by rw [Z.st];decide) j u z3 fun f cs r' c h z => m f cs r' (by omega) h z;obtain ⟨a3, K, M, y, Ue, N, O⟩ := fv (α := Ea) (B := 1099511627776) (Rz := zr n) L.Ev L.st.size (by rw [Z.st];decide) j v z4 fun f cs r' c h z => m f cs r' (by omega) h z;obtain ⟨oa, Q, Pa, k1⟩ := Da.o D;simp at nb qa w y Pa;obtain ⟨rfl, rfl, rfl, rfl⟩ := Pa;subst nb;subst qa;subst w;subst y;exact ⟨⟨k, g, x, l, M⟩, Ea.i ⟨oa, Q, a2, F, a3, K, rfl, k1, G, Ue⟩, E, ⟨s1, s2⟩, ⟨N, O⟩⟩
theorem IM (L : Ep P Ei Gl Mi fk Ui Dl Dj Ej tk El Fj dm) (Z : hx P Ui Dj tk Fj) (d : xq W μ){n fuel : Nat}(S : fuel ≤ n){cs : List Value}{r : DataW H × List MemPlace}(h : DataW.trod enc P W 0 sp held fuel Fj cs = some r) (F : Fp P Fj r.1) : ∃ x : sa, ab.cs μ cs x ∧ Vs n x := by
  cases fuel with
  | zero => cases h
  | succ fuel =>
    obtain ⟨ia, c⟩ := qB L.Fv h F;obtain ⟨_, j, -⟩ := c 0 (Ei, 0) rfl;obtain ⟨_, o, -⟩ := c 1 (Mi, 1) rfl;obtain ⟨_, p, -⟩ := c 2 (fk, 2) rfl;obtain ⟨_, q, -⟩ := c 3 (fk, 4) rfl;obtain ⟨_, u, -⟩ := c 4 (Ei, 6) rfl;obtain ⟨_, v, z5⟩ := c 5 (El, 7) rfl;obtain ⟨_, w, G⟩ := c 6 (Ej, 8) rfl;simp only [L.one, L.ty.size] at j o p q u v w
    match cs, ia with
    | [a, b, c0, jb, d0, d1, e, f, g], _ =>
      obtain ⟨k, nb⟩ := kp L.i j;obtain ⟨mc, qa⟩ := Bs L.s o;obtain ⟨t, y⟩ := Dw L p;obtain ⟨ib, A⟩ := Dw L q;obtain ⟨Ig, C⟩ := kp L.i u;obtain ⟨oa, K, l, D, M, s1, -⟩ := fv (α := TParam) (B := 3518437208883) (Rz := fun _ => True) L.Nf L.gx.size (by rw [Z.gx];decide) d v z5 fun n cs r' _ h _ => (UF L h).imp fun _ h => ⟨h, trivial⟩;obtain ⟨a2, N, O, E, Q, s2, R⟩ := fv (α := Ea) (B := 1099511627776) (Rz := zr n) L.Ev L.st.size (by rw [Z.st];decide) d w G fun m cs r' hm h z => HM L Z d n m _ _ (by omega) h z;simp at nb qa y A C D E;obtain ⟨rfl, rfl⟩ := y;obtain ⟨rfl, rfl⟩ := A;subst nb;subst qa;subst C;subst D;subst E;exact ⟨⟨k, mc, t, ib, Ig, l, O⟩, ⟨oa, K, a2, N, rfl, M, Q⟩, s1, s2, R⟩
theorem LJ (L : Ep P Ei Gl Mi fk Ui Dl Dj Ej tk El Fj dm) (Z : hx P Ui Dj tk Fj) (b : xq W μ){v : Value}{d : DataW H}{Nf : List MemPlace}(h : DataW.Trod enc P W 0 sp held dm v d Nf) (f : Fp P dm d) (g : v.cells.toList = [v]) : ∃ (a : Option Addr) (c : Nat) (l : List sa) (k : Nat), v = .slice a l.length c ∧ Ja μ a c l ∧ Lm k l := by
  obtain ⟨fuel, h⟩ := h;obtain ⟨a, c, l, e, k, s1, s2⟩ := fv (α := sa) (B := 1099511627776) (Rz := Vs fuel) L.ds L.Fv.size (by rw [Z.Fv];decide) b h f fun n cs r' i h z => IM L Z b (by omega) h z;rw [g] at e;cases e;exact ⟨a, c, l, fuel, rfl, k, s1, s2⟩
theorem EN {la us : List TypeId}{ds gs : List (DataW H)}(h : (DataW.weightsEach P (la ++ us) (ds ++ gs)).all (· ≤ reachBytes) = true){j : Nat}{t : TypeId}{d : DataW H}(a : la[j]? = some t) (xa : ds[j]? = some d) : Fp P t d := by
  intro n b;refine of_decide_eq_true (List.all_eq_true.1 h n (DataW.weights_mem_each (j := j) (t := t) (d := d) ?_ ?_ n b))
  · rw [List.getElem?_append_left (List.getElem?_eq_some_iff.1 a).1];exact a
  · rw [List.getElem?_append_left (List.getElem?_eq_some_iff.1 xa).1];exact xa
end
end Go.ec
namespace Go.Proofs.YticaondbdmcpoaaGreatDoor.sourceBare
open Go.Rb Go.ec Go.Y Go.ChangeShapes Go.WideShapes Go.ChangeAt Go.RowKit
theorem FN {fu : Nat}{c : List sa}{a0 : Option Addr}{c0 : Nat}(W : World) (e : Wl (fun _ => True) W ke) (m0 : Ja (fun w => ke w ∧ ∀ k, k < W.heap.size → w.heap[k]? = W.heap[k]?) a0 c0 c) (f : Rv fu c = some true) :
    wc Tryz.prog 5 [.slice a0 c.length c0] W fun v w => v = .bool true ∧ Grow W w := by
  have g : ha (fun w => ke w ∧ ∀ k, k < W.heap.size → w.heap[k]? = W.heap[k]?) W W []:= Sep.start W _ _ (e.and fun w' _ i k d => i k d trivial);refine (nH (fu := fu) (fun _ h => h.1) m0 f g).mono ?_;rintro v w' ⟨J, rfl, hle, b⟩;have d := hle _ b.a;exact ⟨rfl, b.keeps.os, b.keeps.tape, b.keeps.output, b.keeps.size, fun k j _ => d.2 k j⟩
theorem vf : Ep Tryz.prog 3 2 9 42 142 140 144 44 91 43 46 22 := ⟨Tryz.underlying3, Tryz.underlying2, Tryz.underlying9, ⟨⟨_, Tryz.underlying42, by kernel_rfl, by kernel_rfl⟩⟩, ⟨⟨_, Tryz.underlying142, by kernel_rfl, by kernel_rfl⟩⟩, Tryz.underlying140, ⟨⟨_, Tryz.underlying144, by kernel_rfl, by kernel_rfl⟩⟩, Tryz.underlying44, ⟨⟨_, Tryz.underlying91, by kernel_rfl, by kernel_rfl⟩⟩, Tryz.underlying43, ⟨⟨_, Tryz.underlying46, by kernel_rfl, by kernel_rfl⟩⟩, Tryz.underlying22, by kernel_rfl, by kernel_rfl, by kernel_rfl, by kernel_rfl, by kernel_rfl, by kernel_rfl⟩
theorem Ud : hx Tryz.prog 142 144 91 46 := ⟨by kernel_rfl, by kernel_rfl, by kernel_rfl, by kernel_rfl⟩
theorem own : ownKnob Tryz.prog.godebug = none := by kernel_rfl
theorem laidOut : laidOutB Tryz.prog = true := by kernel_rfl
set_option maxRecDepth 100000 in
set_option maxHeartbeats 4000000 in
theorem MJ (H : Type) (enc : TypeId × Value → H) (W : World) (base : Nat) (args : Array Value) (ds gs : List (DataW H)) (before : List MemPlace)
    (b : ∀ (j : Nat) t v, Tryz.f5.params[j]? = some t → args[j]? = some v → Value.okWide Tryz.prog W .any base t v)
    (f : DataW.Whole enc Tryz.prog Tryz.f5.params.toList Rows.sourceBareSpec.vars false W args.toList ds gs before) (s : ∀ (j : Nat) t d, Tryz.f5.params.toList[j]? = some t → ds[j]? = some d → Fp Tryz.prog t d) (u : W.ShapedOpen Tryz.prog) :
    Calls Tryz.prog 5 args W fun e i => ∃ v, e = .returned v ∧ Rows.sourceBareSpec.post enc Tryz.prog Tryz.f5 false true false false W args v i := by
  have a := f;obtain ⟨p, q, l, y, rfl, M, N⟩ := f;have n : DataW.TrodAll enc Tryz.prog W 0 (fun _ => true) true Tryz.f5.params.toList args.toList ds p := l;rw [Tryz.params5] at n b;obtain ⟨v0, O, z, Q, wa, R, S, rfl, rfl, o, A⟩ := trodAll_cons n;obtain ⟨rfl, rfl, rfl⟩ := trodAll_nil A;obtain rfl : args = #[v0]:= by cases args;simp_all
  obtain ⟨rfl, rfl⟩ := trodVars_none y;clear l;simp only [List.append_nil] at a;have B := a.lt;have C : v0.cells.toList = [v0]:= by obtain ⟨_, _, _, rfl⟩ := okWide_slice Tryz.underlying22 (b 0 22 v0 rfl rfl);rfl
  obtain ⟨a0, c0, T, z0, D, m0, E⟩ := LJ (μ := fun w => ke w ∧ ∀ k, k < W.heap.size → w.heap[k]? = W.heap[k]?) vf Ud (fun w h => h.2) o (s 0 22 z (by rw [Tryz.params5];rfl) rfl) C;obtain ⟨m, hm⟩ := cell_of_shapedOpen_int (P := Tryz.prog) (g := 2) (t := 3) (zero := #[.int .i64 0]) u (of_decide_eq_true (by kernel_rfl)) (by kernel_rfl) (by kernel_rfl) (by kernel_rfl) (by kernel_rfl) Tryz.underlying3;have F : Wl (fun _ => True) W ke := fun w' _ G => ⟨m, Tv hm fun k K => G k K trivial⟩;have walk := (FN W F m0 (MG _ _ E)).out;rw [← D] at walk;refine walk.mono fun e i he => ?_;cases e with
  | panicked c => exact he.elim
  | outgrown => exact he.elim
  | returned v =>
    obtain ⟨rfl, r⟩ := he;exact ⟨_, rfl, _, _, _, [], _, [], a, trodAll_cons_mk (shut_bool Tryz.underlying4 _) trodAll_mk0, (trodAll_cons_mk (Below.trod laidOut (by kernel_rfl) (of_decide_eq_true (by kernel_rfl)) o r.below (fun x L => B x (by simp [L]))) trodAll_mk0), rfl, r.below.frame _, fun h => by cases h⟩
theorem vO : (World.laidAll Tryz.prog default Rows.sourceBareRow.laid).os = default := World.laidAll_os _ _ _
set_option maxRecDepth 100000 in
theorem lifted (os : Os) (started : os.Started) (H : Type) (enc : TypeId × Value → H) (F : Stop.Interp) :
    ReturnsInHanded {} Tryz.checked os 5 .any ((OpenSpec.ofChange Rows.sourceBareSpec).preRow enc Tryz.prog Tryz.f5 Rows.sourceBareRow.domain false Rows.sourceBareRow.laid) (((OpenSpec.ofChange Rows.sourceBareSpec).at F).post enc Tryz.prog Tryz.f5 false true false false):= by
  have a : ∃ places, DataW.whole enc Tryz.prog ((World.laidAll Tryz.prog os Rows.sourceBareRow.laid).forCall (fun _ _ => 0) ⟨#[], #[.slice none 0 0], []⟩).memory Tryz.f5.params.toList Rows.sourceBareSpec.vars false (#[.slice none 0 0] : Array Value).toList 8 = some ([.nil], [], places):= ⟨[], by kernel_rfl⟩;obtain ⟨places, a⟩ := a;have b : Input.okWideB Tryz.prog ((World.laidAll Tryz.prog os Rows.sourceBareRow.laid).forCall (fun _ _ => 0) ⟨#[], #[.slice none 0 0], []⟩) 5 ⟨#[], #[.slice none 0 0], []⟩ = true := by kernel_rfl
  refine returnsInHanded_of_row (C := Tryz.checked) (s := OpenSpec.ofChange Rows.sourceBareSpec) own started (by kernel_rfl) Tryz.func5
    ⟨World.laidAll Tryz.prog os Rows.sourceBareRow.laid, fun _ _ => 0, ⟨#[], #[.slice none 0 0], []⟩, World.laidAll_os _ _ _, World.shaped_of_ZipB (by kernel_rfl) (by kernel_rfl), (Input.okWide_of_okWideB (base := 0) b).1, (Input.okWide_of_okWideB b).2,
      OpenSpec.preRow_of_cond 8 a (by kernel_rfl) (fun k c => by cases c) (by kernel_rfl) (by rw [MakeChecks.laidMetH_plain _ _ _ (by kernel_rfl)];exact laidMet_laidAll _ (by kernel_rfl) (by kernel_rfl)), by
        simp only [Assume.holds];exact ⟨by simp, by simp, fun _ => Modest.zero, by simp, by simp⟩⟩ ?_
  intro W base args ds gs before e f _ c g l h _;exact MJ H enc W base args ds gs before e f (fun j t d i xa => EN g i xa) h
theorem said : Rows.SourceBareSaid :=
  OpenClaim.holds_of_cond 5 Tryz.f5 rfl rfl rfl rfl rfl rfl rfl ⟨rfl, rfl, rfl, rfl, rfl⟩ rfl rfl rfl rfl rfl (by kernel_rfl) Tryz.func5 (by kernel_rfl)
    (of_decide_eq_true (by kernel_rfl)) (by unfold Func.isWrapper;first | (rw [if_pos (by decide +kernel)];kernel_rfl) | (rw [if_neg (by decide +kernel)];exact ⟨rfl, rfl⟩))
    (fun os started H enc _ F => by rw [OpenClaim.pre_eq_preRow];exact lifted os started H enc F)
theorem plain (f : FuncId) (fn : Func) (b : Tryz.pinned.checked.prog.funcNamed Rows.sourceBareRow.func = some f) (c : Tryz.pinned.checked.prog.funcs[f]? = some fn) :
    true = Tryz.pinned.checked.prog.looks [] ∧ ∀ (j : Nat) t, fn.params[j]? = some t → Tryz.pinned.checked.prog.wantsStandIn t = false := by
  obtain rfl : f = 5 := Option.some.inj ((show Tryz.prog.funcNamed Rows.sourceBareRow.func = some 5 by kernel_rfl).symm.trans b) |>.symm;obtain rfl : fn = Tryz.f5 := (Option.some.inj (Tryz.func5.symm.trans c)).symm;refine ⟨by kernel_rfl, fun j t a => ?_⟩;rw [Tryz.params5] at a;have hm : t ∈ [22]:= by
    first
      | simpa using Array.mem_of_getElem? a
      | (have := Array.mem_of_getElem? a; simp at this ⊢; exact this.symm)
  simp only [List.mem_cons, List.not_mem_nil, or_false] at hm;try (rcases hm with rfl | rfl)
  try subst hm
  exact (show Tryz.prog.wantsStandIn 22 = false by kernel_rfl)
theorem card : Rows.SourceBareCardSaid :=
  Claim7.holds_tied_plain_at .later [] _ _ _ _ said (fun _ h => by cases h) (by kernel_rfl) (fun _ h => by cases h) sourceBare_row_tie rfl ⟨rfl, rfl⟩ (by kernel_rfl) rfl plain (by kernel_rfl)
end Go.Proofs.YticaondbdmcpoaaGreatDoor.sourceBare
