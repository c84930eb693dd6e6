/- SourceRest: the statement holds for every input; as the card says it (the listed variables are laid as the text lays them). -/
import Derived.Test.YticaondbdmcpoaaGreatDoorCXt
import Derived.ChangeSlices
import Derived.ChangeShapes
import Derived.Test.YticaondbdmcpoaaGreatDoorCMd
import Derived.ChangeArms
import Derived.Test.YticaondbdmcpoaaGreatDoorCards
import Derived.Test.YticaondbdmcpoaaGreatDoorTie
import Derived.WalkKit
import Derived.ProofKit
import Derived.OpenShut
import Derived.Deep.DeepHandedRow
import Derived.Lay
import Derived.SizedLaws
import Derived.Shelf.Vars
import Derived.Carry
import Derived.Test.YticaondbdmcpoaaGreatDoorCWl
import Derived.Test.YticaondbdmcpoaaGreatDoorCPm
set_option linter.unusedSimpArgs false
set_option linter.unusedVariables false
set_option linter.unusedSectionVars false
namespace Go.Mc
open Go.hc Go.RowKit Go.ChangeShapes
section
variable {H : Type}{enc : TypeId × Value → H}{P : Program}{W : World}{d : DataW H}{Eh : List MemPlace}{v : Value}
theorem mI {w : World}{b i : Nat}{v : Value}(h : w.cell? ⟨b, i, none⟩ = some v) : b < w.heap.size := by
  refine Decidable.byContradiction fun a => ?_;have : w.heap[b]? = none := Array.getElem?_eq_none (by omega);simp [World.cell?, this] at h
theorem aw {w w' : World}{b i : Nat}{v : Value}(h : w.cell? ⟨b, i, none⟩ = some v) (a : ∀ k, k < w.heap.size → w'.heap[k]? = w.heap[k]?) : w'.cell? ⟨b, i, none⟩ = some v := by
  have oa := mI h;simpa [World.cell?, a b oa] using h
theorem nM {t e : TypeId}{μ : M}(r : P.underlying t = some (.slice e)) (he : P.underlying e = some (.int .i64)) (y : P.cellsOf e = 1) (h : DataW.Trod enc P W 0 (fun _ => true) true t v d Eh) (z : v.cells.toList = [v])
    (A : ∀ w, μ w → ∀ k, k < W.heap.size → w.heap[k]? = W.heap[k]?) :
    ∃ (a : Option Addr) (c : Nat) (l : List Int), v = .slice a l.length c ∧ Na μ a c l ∧ ∀ x ∈ l, -9223372036854775808 ≤ x ∧ x ≤ 9223372036854775807 := by
  obtain ⟨fuel, h⟩ := h;rw [z] at h;rcases open_ints r he y h with ⟨e, -⟩ | ⟨a, len, cap, g, e, -, H, B, C, -, m, D⟩
  · cases e;exact ⟨none, 0, [], rfl, Na.nil, by simp⟩
  · simp only [if_true] at C;cases e;have hlen : (g.take len).length = len := by rw [List.length_take];omega
    refine ⟨some a, cap, g.take len, by rw [hlen], ⟨by omega, B, ?_⟩, fun x f => ?_⟩
    · by_cases E : len = 0
      · left;subst E;simp
      · right;have n : a.spot = none := by
          have := m 0 (by omega);cases F : a.spot with
          | none => rfl
          | some q =>
            have e : (a.add 0).spot = some q := by simp [Addr.add, F]
            unfold World.cell? at this;rw [e] at this;simp at this;split at this<;>cases this
        obtain ⟨b, o, s⟩ := a;simp only at n;subst n;refine ⟨b, o, rfl, fun i => [.int .i64 (g.getD i 0)], fun i x f => ⟨fun w hw j u hu => ?_, ?_⟩⟩
        · have K : i < len := by
            have := (List.getElem?_eq_some_iff.1 f).1;omega
          have G : j = 0 := by
            have := (List.getElem?_eq_some_iff.1 hu).1;simpa using this
          subst G;cases hu;have p := m i (by omega);rw [Zj] at p;have := aw p (A w hw);show w.cell? ⟨b, o + i * 1 + 0, none⟩ = _;rw [Nat.mul_one, Nat.add_zero];exact this
        · rw [List.getElem?_take] at f;split at f
          · show _ = _;simp [List.getD_eq_getElem?_getD, f]
          · cases f
    · have := D x (List.mem_of_mem_take f);simpa [Lit.wf, IntKind.min, IntKind.max, IntKind.signed, IntKind.bits] using this
theorem lL {t e : TypeId}{μ : M}(A : P.underlying t = some (.slice e)) (he : P.underlying e = some .bool) (B : P.cellsOf e = 1) (h : DataW.Trod enc P W 0 (fun _ => true) true t v d Eh) (C : v.cells.toList = [v])
    (D : ∀ w, μ w → ∀ k, k < W.heap.size → w.heap[k]? = W.heap[k]?) :
    ∃ (a : Option Addr) (c : Nat) (l : List Bool), v = .slice a l.length c ∧ Na μ a c l ∧ True := by
  obtain ⟨fuel, h⟩ := h;rw [C] at h;rcases DataW.trod_slice A h with ⟨e, -⟩ | ⟨a, len, cap, elems, rest, n, -, e, -, -, E, F, R, G, -⟩
  · cases e;exact ⟨none, 0, [], rfl, Na.nil, trivial⟩
  · cases e;have each : ∀ i, i < len → ∃ q : Bool, W.cell? (a.add i) = some (.bool q):= by
      intro i g;have p := G i g;rw [B, Nat.mul_one] at p;have H : i < elems.length := by omega
      rw [List.getElem?_eq_getElem H, Option.bind_eq_some_iff] at p;obtain ⟨cs, K, L⟩ := p;obtain ⟨q, rfl, -⟩ := DataW.trod_bool he L;exact ⟨q, cell_of_cells?_one K⟩
    let f : Nat → Bool := fun i => if g : i < len then Classical.choose (each i g) else false
    have r : ∀ i, i < len → W.cell? (a.add i) = some (.bool (f i)):= fun i g => by
      simp only [f, dif_pos g];exact Classical.choose_spec (each i g)
    refine ⟨some a, cap, (List.range len).map f, by simp, ⟨by simpa using E, F, ?_⟩, trivial⟩;by_cases N : len = 0
    · left;subst N;simp
    · right;have y : a.spot = none := by
        have := r 0 (by omega);cases O : a.spot with
        | none => rfl
        | some q =>
          have e : (a.add 0).spot = some q := by simp [Addr.add, O]
          unfold World.cell? at this;rw [e] at this;simp at this;split at this<;>cases this
      obtain ⟨b, o, s⟩ := a;simp only at y;subst y;refine ⟨b, o, rfl, fun i => [.bool (f i)], fun i x m => ⟨fun w hw j u hu => ?_, ?_⟩⟩
      · have g : i < len := by
          have := (List.getElem?_eq_some_iff.1 m).1;simpa using this
        have Q : j = 0 := by
          have := (List.getElem?_eq_some_iff.1 hu).1;simpa using this
        subst Q;cases hu;have z := r i g;rw [Zj] at z;have := aw z (D w hw);show w.cell? ⟨b, o + i * 1 + 0, none⟩ = _;rw [Nat.mul_one, Nat.add_zero];exact this
      · have g : i < len := by
          have := (List.getElem?_eq_some_iff.1 m).1;simpa using this
        simp [g] at m;show [Value.bool (f i)] = [Value.bool x];rw [m]
end
end Go.Mc
namespace Go.Mc
open Go.hc Go.RowKit Go.ChangeShapes Go.Y
section
variable {H : Type}{enc : TypeId × Value → H}{P : Program}{W : World}{sp : Nat → Bool}{held : Bool}{μ : M}
def fv (W : World) (μ : M) : Prop := ∀ w, μ w → ∀ k, k < W.heap.size → w.heap[k]? = W.heap[k]?
theorem UG {α β : Type}{f : α → Option β} : ∀ {l : List α}{ys : List β}, l.mapM f = some ys → ∀ x ∈ l, ∃ y, f x = some y := by
  intro l
  induction l with
  | nil => intro ys _ x c; cases c
  | cons a l e =>
    intro ys h x c;rw [List.mapM_cons] at h;cases d : f a with
    | none => rw [d] at h; cases h
    | some b =>
      rw [d] at h;cases oa : l.mapM f with
      | none => rw [oa] at h; cases h
      | some bs =>
        rcases List.mem_cons.1 c with rfl | c
        · exact ⟨b, d⟩
        · exact e oa x c
structure Df (P : Program) (T : TypeId) (b : List (TypeId × Nat)) (n : Nat) : Prop where
  out : ∃ a, P.underlying T = some (.struct a) ∧ (a.toList.map fun f => (f.type, f.offset)) = b ∧ P.cellsOf T = n
theorem Df.size {T : TypeId}{a : List (TypeId × Nat)}{n : Nat}(h : Df P T a n) : P.cellsOf T = n := by
  obtain ⟨b, -, -, h⟩ := h.out;exact h
theorem Uu {T : TypeId}{a : List (TypeId × Nat)}{n fuel : Nat}{cs : List Value}{r : DataW H × List MemPlace}(d : Df P T a n) (h : DataW.trod enc P W 0 sp held (fuel + 1) T cs = some r) :
    cs.length = n ∧ ∀ p ∈ a, ∃ r', DataW.trod enc P W 0 sp held fuel p.1 ((cs.drop p.2).take (P.cellsOf p.1)) = some r' := by
  obtain ⟨b, hu, e, g⟩ := d.out;by_cases oa : cs.length = P.cellsOf T
  · refine ⟨oa.trans g, ?_⟩;have i : ∃ ys, b.toList.mapM (fun f => DataW.trod enc P W 0 sp held fuel f.type ((cs.drop f.offset).take (P.cellsOf f.type))) = some ys := by
      unfold DataW.trod at h;simp only [hu, oa, if_true] at h;cases hm : b.toList.mapM (fun f => DataW.trod enc P W 0 sp held fuel f.type ((cs.drop f.offset).take (P.cellsOf f.type))) with
      | none => rw [hm] at h; cases h
      | some ys => exact ⟨ys, rfl⟩
    obtain ⟨ys, j⟩ := i;intro p c;rw [← e] at c;obtain ⟨f, k, rfl⟩ := List.mem_map.1 c;exact UG j f k
  · unfold DataW.trod at h;simp only [hu, oa, if_false] at h;cases h
theorem Bt {t : TypeId}{fuel : Nat}{cs : List Value}{r : DataW H × List MemPlace}(a : P.underlying t = some (.int .i64)) (h : DataW.trod enc P W 0 sp held fuel t cs = some r) : ∃ n, cs = [.int .i64 n]:= by
  obtain ⟨n, b, -, -⟩ := DataW.trod_int a h;exact ⟨n, b⟩
theorem Gu {t : TypeId}{fuel : Nat}{cs : List Value}{r : DataW H × List MemPlace}(a : P.underlying t = some .string) (h : DataW.trod enc P W 0 sp held fuel t cs = some r) : ∃ s, cs = [S s]:= by
  obtain ⟨⟨⟨s⟩⟩, b, -, -⟩ := DataW.trod_string a h;exact ⟨s, b⟩
theorem AB {a : Addr}{m : Nat}{cs : List Value}(h : W.cells? 0 a m = some cs) : cs.length = m ∧ ∀ i v, cs[i]? = some v → W.cell? (a.add i) = some v := by
  unfold World.cells? at h;rw [if_pos (Nat.zero_le _)] at h;have oa := mapM_some_length h;refine ⟨by simpa using oa, fun i v b => ?_⟩;have c : i < m := by have := (List.getElem?_eq_some_iff.1 b).1;rw [oa] at this;simpa using this
  rw [← b];exact mapM_some_get h i i (by simp [c])
theorem Et {α : Type}[mb α]{fuel : Nat}{T e : TypeId}{cs : List Value}{r : DataW H × List MemPlace}(hu : P.underlying T = some (.slice e)) (hm : P.cellsOf e = mb.sz α) (z : fv W μ) (h : DataW.trod enc P W 0 sp held fuel T cs = some r)
    (A : ∀ n cs r', n < fuel → DataW.trod enc P W 0 sp held n e cs = some r' → ∃ x : α, mb.cs μ cs x) : ∃ (a : Option Addr) (c : Nat) (l : List α), cs = [.slice a l.length c] ∧ Na μ a c l := by
  rcases DataW.trod_slice hu h with ⟨rfl, -⟩ | ⟨a, len, cap, elems, rest, n, rfl, rfl, -, -, N, t, O, B, -⟩
  · exact ⟨none, 0, [], rfl, Na.nil⟩
  · rcases Nat.eq_zero_or_pos len with m | m
    · subst m;exact ⟨some a, cap, [], rfl, ⟨by simp, t, .inl rfl⟩⟩
    · have each : ∀ i, i < len → ∃ cs, cs.length = mb.sz α ∧ (∀ j v, cs[j]? = some v → W.cell? ((a.add (i * mb.sz α)).add j) = some v) ∧ ∃ x : α, mb.cs μ cs x := by
        intro i d;have he := B i d;rw [hm] at he;obtain ⟨y, C⟩ : ∃ y, elems[i]? = some y := ⟨_, List.getElem?_eq_getElem (by omega)⟩;rw [C] at he;cases k : W.cells? 0 (a.add (i * mb.sz α)) (mb.sz α) with
        | none => rw [k] at he; cases he
        | some cs =>
          rw [k] at he;exact ⟨cs, (AB k).1, (AB k).2, A n cs y (Nat.lt_succ_self _) he⟩
      have u : a.spot = none := by
        obtain ⟨cs, oa, k, -⟩ := each 0 m;have Q := mb.pos (α := α);obtain ⟨v, D⟩ : ∃ v, cs[0]? = some v := ⟨_, List.getElem?_eq_getElem (by omega)⟩;have := k 0 v D;cases E : a.spot with
        | none => rfl
        | some q =>
          have e : ((a.add (0 * mb.sz α)).add 0).spot = some q := by simp [Addr.add, E]
          unfold World.cell? at this;rw [e] at this;simp at this;split at this<;>cases this
      obtain ⟨b, o, s⟩ := a;simp only at u;subst u;have F : ∃ g : Nat → List Value, ∃ f : Nat → α, ∀ i, i < len → (∀ j v, (g i)[j]? = some v → W.cell? (((⟨b, o, none⟩ : Addr).add (i * mb.sz α)).add j) = some v) ∧ mb.cs μ (g i) (f i):= by
        have ne : Nonempty α := by obtain ⟨_, -, -, x, -⟩ := each 0 m;exact ⟨x⟩
        refine ⟨fun i => if d : i < len then Classical.choose (each i d) else [], fun i => if d : i < len then Classical.choose (Classical.choose_spec (each i d)).2.2 else Classical.choice ne, fun i d => ?_⟩;simp only [dif_pos d];exact ⟨(Classical.choose_spec (each i d)).2.1, Classical.choose_spec (Classical.choose_spec (each i d)).2.2⟩
      obtain ⟨g, f, G⟩ := F;refine ⟨some ⟨b, o, none⟩, cap, (List.range' 0 len).map f, by simp, ⟨by simp;omega, t, .inr ⟨b, o, rfl, g, fun i x p => ?_⟩⟩⟩;have d : i < len := by
        have := (List.getElem?_eq_some_iff.1 p).1;simpa using this
      have K : x = f i := by
        rw [List.getElem?_map, List.getElem?_range' d] at p;simpa using p.symm
      obtain ⟨k1, L⟩ := G i d;rw [K];refine ⟨fun w hw j v M => ?_, L⟩;have := k1 j v M;rw [Zj, Zj] at this;exact aw this (z w hw)
structure Fs (P : Program) (Nj Kn Oj Cl Um En Ao Dl Bo Gn Co Kp : TypeId) : Prop where
  i : P.underlying Nj = some (.int .i64)
  n : P.underlying Kn = some (.int .i64)
  s : P.underlying Oj = some .string
  ty : Df P Cl [(Nj, 0), (Oj, 1)] 2
  ex : Df P Um [(Nj, 0), (Kn, 1), (Oj, 2), (En, 3)] 4
  es : P.underlying En = some (.slice Um)
  st : Df P Ao [(Nj, 0), (Oj, 1), (Um, 2), (Dl, 6), (Dl, 7)] 8
  Tz : P.underlying Dl = some (.slice Ao)
  QD : Df P Bo [(Oj, 0), (Cl, 1)] 3
  Eh : P.underlying Gn = some (.slice Bo)
  RD : Df P Co [(Nj, 0), (Oj, 1), (Cl, 2), (Cl, 4), (Nj, 6), (Gn, 7), (Dl, 8)] 9
  ds : P.underlying Kp = some (.slice Co)
  one : P.cellsOf Nj = 1 ∧ P.cellsOf Kn = 1 ∧ P.cellsOf Oj = 1 ∧ P.cellsOf En = 1 ∧ P.cellsOf Dl = 1 ∧ P.cellsOf Gn = 1
variable {Nj Kn Oj Cl Um En Ao Dl Bo Gn Co Kp : TypeId}
theorem lz (L : Fs P Nj Kn Oj Cl Um En Ao Dl Bo Gn Co Kp){fuel : Nat}{cs : List Value}{r : DataW H × List MemPlace}(h : DataW.trod enc P W 0 sp held fuel Cl cs = some r) : ∃ t : Ya, cs = [.int .i64 t.Kind, S t.Gc]:= by
  cases fuel with
  | zero => cases h
  | succ fuel =>
    obtain ⟨oa, c⟩ := Uu L.ty h;obtain ⟨_, d⟩ := c (Nj, 0) (by simp);obtain ⟨_, e⟩ := c (Oj, 1) (by simp);simp only [L.one] at d e
    match cs, oa with
    | [a, b], _ =>
      obtain ⟨k, Xa⟩ := Bt L.i d;obtain ⟨g, ia⟩ := Gu L.s e;simp at Xa ia;subst Xa;subst ia;exact ⟨⟨k, g⟩, rfl⟩
theorem wK (L : Fs P Nj Kn Oj Cl Um En Ao Dl Bo Gn Co Kp) (v : fv W μ) : ∀ (n fuel : Nat) (cs : List Value) (r : DataW H × List MemPlace), fuel ≤ n → DataW.trod enc P W 0 sp held fuel Um cs = some r → ∃ x : Va, mb.cs μ cs x := by
  intro n
  induction n with
  | zero => intro fuel cs r w h; cases fuel with | zero => cases h | succ f => omega
  | succ n y =>
    intro fuel cs r w h;cases fuel with
    | zero => cases h
    | succ fuel =>
      obtain ⟨oa, e⟩ := Uu L.ex h;obtain ⟨_, j⟩ := e (Nj, 0) (by simp);obtain ⟨_, o⟩ := e (Kn, 1) (by simp);obtain ⟨_, p⟩ := e (Oj, 2) (by simp);obtain ⟨_, q⟩ := e (En, 3) (by simp);simp only [L.one] at j o p q
      match cs, oa with
      | [a, b, c, d], _ =>
        obtain ⟨k, Xa⟩ := Bt L.i j;obtain ⟨m, ia⟩ := Bt L.n o;obtain ⟨g, t⟩ := Gu L.s p;obtain ⟨z, c', l, u, A⟩ := Et (α := Va) L.es L.ex.size v q fun f cs r' e h => y f cs r' (by omega) h;simp at Xa ia t u;subst Xa;subst ia;subst t;subst u;exact ⟨⟨k, m, g, l⟩, Va.i ⟨z, c', rfl, A⟩⟩
theorem xK (L : Fs P Nj Kn Oj Cl Um En Ao Dl Bo Gn Co Kp) (j : fv W μ) : ∀ (n fuel : Nat) (cs : List Value) (r : DataW H × List MemPlace), fuel ≤ n → DataW.trod enc P W 0 sp held fuel Ao cs = some r → ∃ x : gb, mb.cs μ cs x := by
  intro n
  induction n with
  | zero => intro fuel cs r z h; cases fuel with | zero => cases h | succ f => omega
  | succ n m =>
    intro fuel cs r z h;cases fuel with
    | zero => cases h
    | succ fuel =>
      obtain ⟨oa, c⟩ := Uu L.st h;obtain ⟨_, p⟩ := c (Nj, 0) (by simp);obtain ⟨_, q⟩ := c (Oj, 1) (by simp);obtain ⟨_, t⟩ := c (Um, 2) (by simp);obtain ⟨_, u⟩ := c (Dl, 6) (by simp);obtain ⟨_, v⟩ := c (Dl, 7) (by simp);simp only [L.one, L.ex.size] at p q t u v
      match cs, oa with
      | [a, b, c0, bc, c2, c3, d, e], _ =>
        obtain ⟨k, Xa⟩ := Bt L.i p;obtain ⟨g, ia⟩ := Gu L.s q;obtain ⟨x, A⟩ := wK L j _ _ _ _ (Nat.le_refl _) t;obtain ⟨a2, B, l, w, C⟩ := Et (α := gb) L.Tz L.st.size j u fun f cs r' c h => m f cs r' (by omega) h;obtain ⟨a3, D, E, y, Xe⟩ := Et (α := gb) L.Tz L.st.size j v fun f cs r' c h => m f cs r' (by omega) h;obtain ⟨na, F, Ma, k1⟩ := Va.o A;simp at Xa ia w y Ma;obtain ⟨rfl, rfl, rfl, rfl⟩ := Ma;subst Xa;subst ia;subst w;subst y;exact ⟨⟨k, g, x, l, E⟩, gb.i ⟨na, F, a2, B, a3, D, rfl, k1, C, Xe⟩⟩
theorem yK (L : Fs P Nj Kn Oj Cl Um En Ao Dl Bo Gn Co Kp){fuel : Nat}{cs : List Value}{r : DataW H × List MemPlace}(h : DataW.trod enc P W 0 sp held fuel Bo cs = some r) : ∃ x : TParam, mb.cs μ cs x := by
  cases fuel with
  | zero => cases h
  | succ n =>
    obtain ⟨oa, d⟩ := Uu L.QD h;obtain ⟨_, e⟩ := d (Oj, 0) (by simp);obtain ⟨_, f⟩ := d (Cl, 1) (by simp);simp only [L.one, L.ty.size] at e f
    match cs, oa with
    | [a, b, c], _ =>
      obtain ⟨Hc, Xa⟩ := Gu L.s e;obtain ⟨t, ia⟩ := lz L f;simp at Xa ia;obtain ⟨rfl, rfl⟩ := ia;subst Xa;exact ⟨⟨Hc, t⟩, rfl⟩
theorem zK (L : Fs P Nj Kn Oj Cl Um En Ao Dl Bo Gn Co Kp) (d : fv W μ){fuel : Nat}{cs : List Value}{r : DataW H × List MemPlace}(h : DataW.trod enc P W 0 sp held fuel Co cs = some r) : ∃ x : va, mb.cs μ cs x := by
  cases fuel with
  | zero => cases h
  | succ fuel =>
    obtain ⟨oa, c⟩ := Uu L.RD h;obtain ⟨_, j⟩ := c (Nj, 0) (by simp);obtain ⟨_, m⟩ := c (Oj, 1) (by simp);obtain ⟨_, o⟩ := c (Cl, 2) (by simp);obtain ⟨_, p⟩ := c (Cl, 4) (by simp);obtain ⟨_, q⟩ := c (Nj, 6) (by simp);obtain ⟨_, u⟩ := c (Gn, 7) (by simp);obtain ⟨_, v⟩ := c (Dl, 8) (by simp);simp only [L.one, L.ty.size] at j m o p q u v
    match cs, oa with
    | [a, b, c0, bc, d0, d1, e, f, g], _ =>
      obtain ⟨k, Xa⟩ := Bt L.i j;obtain ⟨Hc, ia⟩ := Gu L.s m;obtain ⟨t, w⟩ := lz L o;obtain ⟨qc, y⟩ := lz L p;obtain ⟨wi, z⟩ := Bt L.i q;obtain ⟨na, C, l, A, D⟩ := Et (α := TParam) L.Eh L.QD.size d u fun n cs r' _ h => yK L h;obtain ⟨a2, E, F, B, G⟩ := Et (α := gb) L.Tz L.st.size d v fun n cs r' _ h => xK L d _ _ _ _ (Nat.le_refl _) h;simp at Xa ia w y z A B;obtain ⟨rfl, rfl⟩ := w;obtain ⟨rfl, rfl⟩ := y;subst Xa;subst ia;subst z;subst A;subst B;exact ⟨⟨k, Hc, t, qc, wi, l, F⟩, na, C, a2, E, rfl, D, G⟩
theorem nI (L : Fs P Nj Kn Oj Cl Um En Ao Dl Bo Gn Co Kp) (b : fv W μ){v : Value}{d : DataW H}{Eh : List MemPlace}(h : DataW.Trod enc P W 0 sp held Kp v d Eh) (f : v.cells.toList = [v]) : ∃ (a : Option Addr) (c : Nat) (l : List va), v = .slice a l.length c ∧ Na μ a c l := by
  obtain ⟨fuel, h⟩ := h;obtain ⟨a, c, l, e, k⟩ := Et (α := va) L.ds L.RD.size b h fun n cs r' _ h => zK L b h;rw [f] at e;cases e;exact ⟨a, c, l, rfl, k⟩
end
end Go.Mc
namespace Go.Proofs.YticaondbdmcpoaaGreatDoor.sourceRest
open Go.hc Go.Mc Go.Y Go.ChangeShapes Go.WideShapes Go.ChangeAt Go.RowKit
theorem AK {c : List va}{a0 : Option Addr}{c0 : Nat}(W : World) (e : Jk (fun _ => True) W ye) (m0 : Na (fun w => ye w ∧ ∀ k, k < W.heap.size → w.heap[k]? = W.heap[k]?) a0 c0 c) (f : ru 1000000 c = some true) :
    Ic Tryz.prog 4 [.slice a0 c.length c0] W fun v w => v = .bool true ∧ Grow W w := by
  have g : ja (fun w => ye w ∧ ∀ k, k < W.heap.size → w.heap[k]? = W.heap[k]?) W W []:= Sep.start W _ _ (e.and fun w' _ i k d => i k d trivial);refine (KE (fu := 1000000) (fun _ h => h.1) m0 f g).mono ?_;rintro v w' ⟨J, rfl, hle, b⟩;have d := hle _ b.a;exact ⟨rfl, b.keeps.os, b.keeps.tape, b.keeps.output, b.keeps.size, fun k j _ => d.2 k j⟩
theorem vf : Fs Tryz.prog 3 2 9 42 142 140 144 44 91 43 46 22 := ⟨Tryz.underlying3, Tryz.underlying2, Tryz.underlying9, ⟨⟨_, Tryz.underlying42, by kernel_rfl, by kernel_rfl⟩⟩, ⟨⟨_, Tryz.underlying142, by kernel_rfl, by kernel_rfl⟩⟩, Tryz.underlying140, ⟨⟨_, Tryz.underlying144, by kernel_rfl, by kernel_rfl⟩⟩, Tryz.underlying44, ⟨⟨_, Tryz.underlying91, by kernel_rfl, by kernel_rfl⟩⟩, Tryz.underlying43, ⟨⟨_, Tryz.underlying46, by kernel_rfl, by kernel_rfl⟩⟩, Tryz.underlying22, by kernel_rfl, by kernel_rfl, by kernel_rfl, by kernel_rfl, by kernel_rfl, by kernel_rfl⟩
theorem own : ownKnob Tryz.prog.godebug = none := by kernel_rfl
theorem laidOut : laidOutB Tryz.prog = true := by kernel_rfl
set_option maxRecDepth 100000 in
set_option maxHeartbeats 4000000 in
theorem VG (H : Type) (enc : TypeId × Value → H) (W : World) (base : Nat) (args : Array Value) (ds gs : List (DataW H)) (before : List MemPlace)
    (b : ∀ (j : Nat) t v, Tryz.f4.params[j]? = some t → args[j]? = some v → Value.okWide Tryz.prog W .any base t v)
    (d : DataW.Whole enc Tryz.prog Tryz.f4.params.toList Rows.sourceRestSpec.vars false W args.toList ds gs before) (r : W.ShapedOpen Tryz.prog) :
    Calls Tryz.prog 4 args W fun e f => ∃ v, e = .returned v ∧ Rows.sourceRestSpec.post enc Tryz.prog Tryz.f4 false true false false W args v f := by
  have a := d;obtain ⟨p, q, i, s, rfl, G, K⟩ := d;have l : DataW.TrodAll enc Tryz.prog W 0 (fun _ => true) true Tryz.f4.params.toList args.toList ds p := i;rw [Tryz.params4] at l b;obtain ⟨v0, L, M, N, ua, O, Q, rfl, rfl, n, u⟩ := trodAll_cons l;obtain ⟨rfl, rfl, rfl⟩ := trodAll_nil u;obtain rfl : args = #[v0]:= by cases args;simp_all
  obtain ⟨rfl, rfl⟩ := trodVars_none s;clear i;simp only [List.append_nil] at a;have y := a.lt;have z : v0.cells.toList = [v0]:= by obtain ⟨_, _, _, rfl⟩ := okWide_slice Tryz.underlying22 (b 0 22 v0 rfl rfl);rfl
  obtain ⟨a0, c0, A, B, m0⟩ := nI (μ := fun w => ye w ∧ ∀ k, k < W.heap.size → w.heap[k]? = W.heap[k]?) vf (fun w h => h.2) n z;obtain ⟨m, hm⟩ := cell_of_shapedOpen_int (P := Tryz.prog) (g := 2) (t := 3) (zero := #[.int .i64 0]) r (of_decide_eq_true (by kernel_rfl)) (by kernel_rfl) (by kernel_rfl) (by kernel_rfl) (by kernel_rfl) Tryz.underlying3;have C : Jk (fun _ => True) W ye := fun w' _ D => ⟨m, aw hm fun k E => D k E trivial⟩;have walk := (AK W C m0 (jE A)).out;rw [← B] at walk;refine walk.mono fun e f he => ?_;cases e with
  | panicked c => exact he.elim
  | outgrown => exact he.elim
  | returned v =>
    obtain ⟨rfl, o⟩ := he;exact ⟨_, rfl, _, _, _, [], _, [], a, trodAll_cons_mk (shut_bool Tryz.underlying4 _) trodAll_mk0, (trodAll_cons_mk (Below.trod laidOut (by kernel_rfl) (of_decide_eq_true (by kernel_rfl)) n o.below (fun x F => y x (by simp [F]))) trodAll_mk0), rfl, o.below.frame _, fun h => by cases h⟩
theorem kL : (World.laidAll Tryz.prog default Rows.sourceRestRow.laid).os = default := World.laidAll_os _ _ _
set_option maxRecDepth 100000 in
theorem lifted (os : Os) (started : os.Started) (H : Type) (enc : TypeId × Value → H) (F : Stop.Interp) :
    ReturnsInHanded {} Tryz.checked os 4 .any ((OpenSpec.ofChange Rows.sourceRestSpec).preRow enc Tryz.prog Tryz.f4 Rows.sourceRestRow.domain false Rows.sourceRestRow.laid) (((OpenSpec.ofChange Rows.sourceRestSpec).at F).post enc Tryz.prog Tryz.f4 false true false false):= by
  have a : ∃ places, DataW.whole enc Tryz.prog ((World.laidAll Tryz.prog os Rows.sourceRestRow.laid).forCall (fun _ _ => 0) ⟨#[], #[.slice none 0 0], []⟩).memory Tryz.f4.params.toList Rows.sourceRestSpec.vars false (#[.slice none 0 0] : Array Value).toList 8 = some ([.nil], [], places):= ⟨[], by kernel_rfl⟩;obtain ⟨places, a⟩ := a;have b : Input.okWideB Tryz.prog ((World.laidAll Tryz.prog os Rows.sourceRestRow.laid).forCall (fun _ _ => 0) ⟨#[], #[.slice none 0 0], []⟩) 4 ⟨#[], #[.slice none 0 0], []⟩ = true := by kernel_rfl
  refine returnsInHanded_of_row (C := Tryz.checked) (s := OpenSpec.ofChange Rows.sourceRestSpec) own started (by kernel_rfl) Tryz.func4
    ⟨World.laidAll Tryz.prog os Rows.sourceRestRow.laid, fun _ _ => 0, ⟨#[], #[.slice none 0 0], []⟩, World.laidAll_os _ _ _, World.shaped_of_ZipB (by kernel_rfl) (by kernel_rfl), (Input.okWide_of_okWideB (base := 0) b).1, (Input.okWide_of_okWideB b).2,
      OpenSpec.preRow_of_cond 8 a (by kernel_rfl) (fun k c => by cases c) (by kernel_rfl) (by rw [MakeChecks.laidMetH_plain _ _ _ (by kernel_rfl)];exact laidMet_laidAll _ (by kernel_rfl) (by kernel_rfl)), by
        simp only [Assume.holds];exact ⟨by simp, by simp, fun _ => Modest.zero, by simp, by simp⟩⟩ ?_
  intro W base args ds gs before d e _ c g h f _;exact VG H enc W base args ds gs before d e f
theorem said : Rows.SourceRestSaid :=
  OpenClaim.holds_of_cond 4 Tryz.f4 rfl rfl rfl rfl rfl rfl rfl ⟨rfl, rfl, rfl, rfl, rfl⟩ rfl rfl rfl rfl rfl (by kernel_rfl) Tryz.func4 (by kernel_rfl)
    (of_decide_eq_true (by kernel_rfl)) (by unfold Func.isWrapper;first | (rw [if_pos (by decide +kernel)];kernel_rfl) | (rw [if_neg (by decide +kernel)];exact ⟨rfl, rfl⟩))
    (fun os started H enc _ F => by rw [OpenClaim.pre_eq_preRow];exact lifted os started H enc F)
theorem plain (f : FuncId) (fn : Func) (b : Tryz.pinned.checked.prog.funcNamed Rows.sourceRestRow.func = some f) (c : Tryz.pinned.checked.prog.funcs[f]? = some fn) :
    true = Tryz.pinned.checked.prog.looks [] ∧ ∀ (j : Nat) t, fn.params[j]? = some t → Tryz.pinned.checked.prog.wantsStandIn t = false := by
  obtain rfl : f = 4 := Option.some.inj ((show Tryz.prog.funcNamed Rows.sourceRestRow.func = some 4 by kernel_rfl).symm.trans b) |>.symm;obtain rfl : fn = Tryz.f4 := (Option.some.inj (Tryz.func4.symm.trans c)).symm;refine ⟨by kernel_rfl, fun j t a => ?_⟩;rw [Tryz.params4] at a;have hm : t ∈ [22]:= by
    first
      | simpa using Array.mem_of_getElem? a
      | (have := Array.mem_of_getElem? a; simp at this ⊢; exact this.symm)
  simp only [List.mem_cons, List.not_mem_nil, or_false] at hm;try (rcases hm with rfl | rfl)
  try subst hm
  exact (show Tryz.prog.wantsStandIn 22 = false by kernel_rfl)
theorem card : Rows.SourceRestCardSaid :=
  Claim7.holds_tied_plain_at .later [] _ _ _ _ said (fun _ h => by cases h) (by kernel_rfl) (fun _ h => by cases h) sourceRest_row_tie rfl ⟨rfl, rfl⟩ (by kernel_rfl) rfl plain (by kernel_rfl)
end Go.Proofs.YticaondbdmcpoaaGreatDoor.sourceRest
