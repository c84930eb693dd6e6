/- SynTurns: the statement holds for every input; as the card says it (the listed variables are laid as the text lays them). -/
import Derived.Test.YtbdiobhgejmgoaaGreatDoorCXt
import Derived.ChangeSlices
import Derived.ChangeShapes
import Derived.Test.YtbdiobhgejmgoaaGreatDoorCMd
import Derived.ChangeArms
import Derived.Test.YtbdiobhgejmgoaaGreatDoorCPm
import Derived.SizedLaws
import Derived.Test.YtbdiobhgejmgoaaGreatDoorCards
import Derived.Test.YtbdiobhgejmgoaaGreatDoorTie
import Derived.WalkKit
import Derived.ProofKit
import Derived.OpenShut
import Derived.Deep.DeepHandedRow
import Derived.Lay
import Derived.Shelf.Vars
import Derived.Carry
import Derived.LaidSub
import Derived.MakeChecks
import Derived.Lib.LaidTab
import Derived.Test.YtbdiobhgejmgoaaGreatDoorCWl
set_option linter.unusedSimpArgs false
set_option linter.unusedVariables false
set_option linter.unusedSectionVars false
namespace Go.ec
open Go.Sb Go.RowKit Go.ChangeShapes
section
variable {H : Type}{enc : TypeId × Value → H}{P : Program}{W : World}{d : DataW H}{Xd : List MemPlace}{v : Value}
theorem wD {w : World}{b i : Nat}{v : Value}(h : w.cell? ⟨b, i, none⟩ = some v) : b < w.heap.size := by
  refine Decidable.byContradiction fun a => ?_;have : w.heap[b]? = none := Array.getElem?_eq_none (by omega);simp [World.cell?, this] at h
theorem Yq {w w' : World}{b i : Nat}{v : Value}(h : w.cell? ⟨b, i, none⟩ = some v) (a : ∀ k, k < w.heap.size → w'.heap[k]? = w.heap[k]?) : w'.cell? ⟨b, i, none⟩ = some v := by
  have c := wD h;simpa [World.cell?, a b c] using h
theorem XG {t e : TypeId}{μ : M}(r : P.underlying t = some (.slice e)) (he : P.underlying e = some (.int .i64)) (y : P.cellsOf e = 1) (h : DataW.Trod enc P W 0 (fun _ => true) true t v d Xd) (z : v.cells.toList = [v])
    (A : ∀ w, μ w → ∀ k, k < W.heap.size → w.heap[k]? = W.heap[k]?) :
    ∃ (a : Option Addr) (c : Nat) (l : List Int), v = .slice a l.length c ∧ mb μ a c l ∧ ∀ x ∈ l, -9223372036854775808 ≤ x ∧ x ≤ 9223372036854775807 := by
  obtain ⟨fuel, h⟩ := h;rw [z] at h;rcases open_ints r he y h with ⟨e, -⟩ | ⟨a, len, cap, g, e, -, H, B, C, -, m, D⟩
  · cases e;exact ⟨none, 0, [], rfl, mb.nil, by simp⟩
  · simp only [if_true] at C;cases e;have hlen : (g.take len).length = len := by rw [List.length_take];omega
    refine ⟨some a, cap, g.take len, by rw [hlen], ⟨by omega, B, ?_⟩, fun x f => ?_⟩
    · by_cases E : len = 0
      · left;subst E;simp
      · right;have n : a.spot = none := by
          have := m 0 (by omega);cases F : a.spot with
          | none => rfl
          | some q =>
            have e : (a.add 0).spot = some q := by simp [Addr.add, F]
            unfold World.cell? at this;rw [e] at this;simp at this;split at this<;>cases this
        obtain ⟨b, o, s⟩ := a;simp only at n;subst n;refine ⟨b, o, rfl, fun i => [.int .i64 (g.getD i 0)], fun i x f => ⟨fun w hw j u hu => ?_, ?_⟩⟩
        · have K : i < len := by
            have := (List.getElem?_eq_some_iff.1 f).1;omega
          have G : j = 0 := by
            have := (List.getElem?_eq_some_iff.1 hu).1;simpa using this
          subst G;cases hu;have p := m i (by omega);rw [gi] at p;have := Yq p (A w hw);show w.cell? ⟨b, o + i * 1 + 0, none⟩ = _;rw [Nat.mul_one, Nat.add_zero];exact this
        · rw [List.getElem?_take] at f;split at f
          · show _ = _;simp [List.getD_eq_getElem?_getD, f]
          · cases f
    · have := D x (List.mem_of_mem_take f);simpa [Lit.wf, IntKind.min, IntKind.max, IntKind.signed, IntKind.bits] using this
theorem WG {t e : TypeId}{μ : M}(A : P.underlying t = some (.slice e)) (he : P.underlying e = some .bool) (B : P.cellsOf e = 1) (h : DataW.Trod enc P W 0 (fun _ => true) true t v d Xd) (C : v.cells.toList = [v])
    (D : ∀ w, μ w → ∀ k, k < W.heap.size → w.heap[k]? = W.heap[k]?) :
    ∃ (a : Option Addr) (c : Nat) (l : List Bool), v = .slice a l.length c ∧ mb μ a c l ∧ True := by
  obtain ⟨fuel, h⟩ := h;rw [C] at h;rcases DataW.trod_slice A h with ⟨e, -⟩ | ⟨a, len, cap, elems, rest, n, -, e, -, -, E, F, S, G, -⟩
  · cases e;exact ⟨none, 0, [], rfl, mb.nil, trivial⟩
  · cases e;have each : ∀ i, i < len → ∃ q : Bool, W.cell? (a.add i) = some (.bool q):= by
      intro i g;have p := G i g;rw [B, Nat.mul_one] at p;have H : i < elems.length := by omega
      rw [List.getElem?_eq_getElem H, Option.bind_eq_some_iff] at p;obtain ⟨cs, K, L⟩ := p;obtain ⟨q, rfl, -⟩ := DataW.trod_bool he L;exact ⟨q, cell_of_cells?_one K⟩
    let f : Nat → Bool := fun i => if g : i < len then Classical.choose (each i g) else false
    have r : ∀ i, i < len → W.cell? (a.add i) = some (.bool (f i)):= fun i g => by
      simp only [f, dif_pos g];exact Classical.choose_spec (each i g)
    refine ⟨some a, cap, (List.range len).map f, by simp, ⟨by simpa using E, F, ?_⟩, trivial⟩;by_cases N : len = 0
    · left;subst N;simp
    · right;have y : a.spot = none := by
        have := r 0 (by omega);cases Q : a.spot with
        | none => rfl
        | some q =>
          have e : (a.add 0).spot = some q := by simp [Addr.add, Q]
          unfold World.cell? at this;rw [e] at this;simp at this;split at this<;>cases this
      obtain ⟨b, o, s⟩ := a;simp only at y;subst y;refine ⟨b, o, rfl, fun i => [.bool (f i)], fun i x m => ⟨fun w hw j u hu => ?_, ?_⟩⟩
      · have g : i < len := by
          have := (List.getElem?_eq_some_iff.1 m).1;simpa using this
        have R : j = 0 := by
          have := (List.getElem?_eq_some_iff.1 hu).1;simpa using this
        subst R;cases hu;have z := r i g;rw [gi] at z;have := Yq z (D w hw);show w.cell? ⟨b, o + i * 1 + 0, none⟩ = _;rw [Nat.mul_one, Nat.add_zero];exact this
      · have g : i < len := by
          have := (List.getElem?_eq_some_iff.1 m).1;simpa using this
        simp [g] at m;show [Value.bool (f i)] = [Value.bool x];rw [m]
end
end Go.ec
namespace Go.ec
open Go.Sb Go.RowKit Go.ChangeShapes Go.Y
section
variable {H : Type}{enc : TypeId × Value → H}{P : Program}{W : World}{sp : Nat → Bool}{held : Bool}{μ : M}
def Om (W : World) (μ : M) : Prop := ∀ w, μ w → ∀ k, k < W.heap.size → w.heap[k]? = W.heap[k]?
theorem uC {α β : Type}{f : α → Option β} : ∀ {l : List α}{ys : List β}, l.mapM f = some ys → ∀ x ∈ l, ∃ y, f x = some y := by
  intro l
  induction l with
  | nil => intro ys _ x c; cases c
  | cons a l g =>
    intro ys h x c;rw [List.mapM_cons] at h;cases d : f a with
    | none => rw [d] at h; cases h
    | some b =>
      rw [d] at h;cases e : l.mapM f with
      | none => rw [e] at h; cases h
      | some i =>
        rcases List.mem_cons.1 c with rfl | c
        · exact ⟨b, d⟩
        · exact g e x c
structure He (P : Program) (T : TypeId) (b : List (TypeId × Nat)) (n : Nat) : Prop where
  out : ∃ a, P.underlying T = some (.struct a) ∧ (a.toList.map fun f => (f.type, f.offset)) = b ∧ P.cellsOf T = n
theorem He.size {T : TypeId}{a : List (TypeId × Nat)}{n : Nat}(h : He P T a n) : P.cellsOf T = n := by
  obtain ⟨b, -, -, h⟩ := h.out;exact h
theorem Jr {T : TypeId}{b : List (TypeId × Nat)}{n fuel : Nat}{cs : List Value}{r : DataW H × List MemPlace}(e : He P T b n) (h : DataW.trod enc P W 0 sp held (fuel + 1) T cs = some r) :
    cs.length = n ∧ ∀ p ∈ b, ∃ r', DataW.trod enc P W 0 sp held fuel p.1 ((cs.drop p.2).take (P.cellsOf p.1)) = some r' := by
  obtain ⟨c, hu, g, i⟩ := e.out;by_cases a : cs.length = P.cellsOf T
  · refine ⟨a.trans i, ?_⟩;have j : ∃ ys, c.toList.mapM (fun f => DataW.trod enc P W 0 sp held fuel f.type ((cs.drop f.offset).take (P.cellsOf f.type))) = some ys := by
      unfold DataW.trod at h;simp only [hu, a, if_true] at h;cases hm : c.toList.mapM (fun f => DataW.trod enc P W 0 sp held fuel f.type ((cs.drop f.offset).take (P.cellsOf f.type))) with
      | none => rw [hm] at h; cases h
      | some ys => exact ⟨ys, rfl⟩
    obtain ⟨ys, k⟩ := j;intro p d;rw [← g] at d;obtain ⟨f, l, rfl⟩ := List.mem_map.1 d;exact uC k f l
  · unfold DataW.trod at h;simp only [hu, a, if_false] at h;cases h
theorem Ll {t : TypeId}{fuel : Nat}{cs : List Value}{r : DataW H × List MemPlace}(a : P.underlying t = some (.int .i64)) (h : DataW.trod enc P W 0 sp held fuel t cs = some r) : ∃ n, cs = [.int .i64 n]:= by
  obtain ⟨n, b, -, -⟩ := DataW.trod_int a h;exact ⟨n, b⟩
theorem ao {t : TypeId}{fuel : Nat}{cs : List Value}{r : DataW H × List MemPlace}(a : P.underlying t = some .string) (h : DataW.trod enc P W 0 sp held fuel t cs = some r) : ∃ s, cs = [S s]:= by
  obtain ⟨⟨⟨s⟩⟩, b, -, -⟩ := DataW.trod_string a h;exact ⟨s, b⟩
theorem ht {a : Addr}{m : Nat}{cs : List Value}(h : W.cells? 0 a m = some cs) : cs.length = m ∧ ∀ i v, cs[i]? = some v → W.cell? (a.add i) = some v := by
  unfold World.cells? at h;rw [if_pos (Nat.zero_le _)] at h;have b := mapM_some_length h;refine ⟨by simpa using b, fun i v c => ?_⟩;have d : i < m := by have := (List.getElem?_eq_some_iff.1 c).1;rw [b] at this;simpa using this
  rw [← c];exact mapM_some_get h i i (by simp [d])
theorem zq {α : Type}[Ob α]{fuel : Nat}{T e : TypeId}{cs : List Value}{r : DataW H × List MemPlace}(hu : P.underlying T = some (.slice e)) (hm : P.cellsOf e = Ob.Jb α) (z : Om W μ) (h : DataW.trod enc P W 0 sp held fuel T cs = some r)
    (A : ∀ n cs r', n < fuel → DataW.trod enc P W 0 sp held n e cs = some r' → ∃ x : α, Ob.cs μ cs x) : ∃ (a : Option Addr) (c : Nat) (l : List α), cs = [.slice a l.length c] ∧ mb μ a c l := by
  rcases DataW.trod_slice hu h with ⟨rfl, -⟩ | ⟨a, len, cap, elems, rest, n, rfl, rfl, -, -, N, t, Q, B, -⟩
  · exact ⟨none, 0, [], rfl, mb.nil⟩
  · rcases Nat.eq_zero_or_pos len with m | m
    · subst m;exact ⟨some a, cap, [], rfl, ⟨by simp, t, .inl rfl⟩⟩
    · have each : ∀ i, i < len → ∃ cs, cs.length = Ob.Jb α ∧ (∀ j v, cs[j]? = some v → W.cell? ((a.add (i * Ob.Jb α)).add j) = some v) ∧ ∃ x : α, Ob.cs μ cs x := by
        intro i d;have he := B i d;rw [hm] at he;obtain ⟨y, C⟩ : ∃ y, elems[i]? = some y := ⟨_, List.getElem?_eq_getElem (by omega)⟩;rw [C] at he;cases k : W.cells? 0 (a.add (i * Ob.Jb α)) (Ob.Jb α) with
        | none => rw [k] at he; cases he
        | some cs =>
          rw [k] at he;exact ⟨cs, (ht k).1, (ht k).2, A n cs y (Nat.lt_succ_self _) he⟩
      have u : a.spot = none := by
        obtain ⟨cs, R, k, -⟩ := each 0 m;have S := Ob.pos (α := α);obtain ⟨v, D⟩ : ∃ v, cs[0]? = some v := ⟨_, List.getElem?_eq_getElem (by omega)⟩;have := k 0 v D;cases E : a.spot with
        | none => rfl
        | some q =>
          have e : ((a.add (0 * Ob.Jb α)).add 0).spot = some q := by simp [Addr.add, E]
          unfold World.cell? at this;rw [e] at this;simp at this;split at this<;>cases this
      obtain ⟨b, o, s⟩ := a;simp only at u;subst u;have F : ∃ g : Nat → List Value, ∃ f : Nat → α, ∀ i, i < len → (∀ j v, (g i)[j]? = some v → W.cell? (((⟨b, o, none⟩ : Addr).add (i * Ob.Jb α)).add j) = some v) ∧ Ob.cs μ (g i) (f i):= by
        have ne : Nonempty α := by obtain ⟨_, -, -, x, -⟩ := each 0 m;exact ⟨x⟩
        refine ⟨fun i => if d : i < len then Classical.choose (each i d) else [], fun i => if d : i < len then Classical.choose (Classical.choose_spec (each i d)).2.2 else Classical.choice ne, fun i d => ?_⟩;simp only [dif_pos d];exact ⟨(Classical.choose_spec (each i d)).2.1, Classical.choose_spec (Classical.choose_spec (each i d)).2.2⟩
      obtain ⟨g, f, G⟩ := F;refine ⟨some ⟨b, o, none⟩, cap, (List.range' 0 len).map f, by simp, ⟨by simp;omega, t, .inr ⟨b, o, rfl, g, fun i x p => ?_⟩⟩⟩;have d : i < len := by
        have := (List.getElem?_eq_some_iff.1 p).1;simpa using this
      have K : x = f i := by
        rw [List.getElem?_map, List.getElem?_range' d] at p;simpa using p.symm
      obtain ⟨k1, L⟩ := G i d;rw [K];refine ⟨fun w hw j v M => ?_, L⟩;have := k1 j v M;rw [gi, gi] at this;exact Yq this (z w hw)
structure bm (P : Program) (mg Ri xg vh Bg Mi hh ih Dh Ni jh hj : TypeId) : Prop where
  i : P.underlying mg = some (.int .i64)
  n : P.underlying Ri = some (.int .i64)
  s : P.underlying xg = some .string
  ty : He P vh [(mg, 0), (xg, 1)] 2
  ex : He P Bg [(mg, 0), (Ri, 1), (xg, 2), (Mi, 3)] 4
  es : P.underlying Mi = some (.slice Bg)
  st : He P hh [(mg, 0), (xg, 1), (Bg, 2), (ih, 6), (ih, 7)] 8
  Pq : P.underlying ih = some (.slice hh)
  Gn : He P Dh [(xg, 0), (vh, 1)] 3
  Xd : P.underlying Ni = some (.slice Dh)
  Qq : He P jh [(mg, 0), (xg, 1), (vh, 2), (vh, 4), (mg, 6), (Ni, 7), (ih, 8)] 9
  ds : P.underlying hj = some (.slice jh)
  one : P.cellsOf mg = 1 ∧ P.cellsOf Ri = 1 ∧ P.cellsOf xg = 1 ∧ P.cellsOf Mi = 1 ∧ P.cellsOf ih = 1 ∧ P.cellsOf Ni = 1
variable {mg Ri xg vh Bg Mi hh ih Dh Ni jh hj : TypeId}
theorem Kr (L : bm P mg Ri xg vh Bg Mi hh ih Dh Ni jh hj){fuel : Nat}{cs : List Value}{r : DataW H × List MemPlace}(h : DataW.trod enc P W 0 sp held fuel vh cs = some r) : ∃ t : zc, cs = [.int .i64 t.Kind, S t.Qc]:= by
  cases fuel with
  | zero => cases h
  | succ fuel =>
    obtain ⟨f, c⟩ := Jr L.ty h;obtain ⟨_, d⟩ := c (mg, 0) (by simp);obtain ⟨_, e⟩ := c (xg, 1) (by simp);simp only [L.one] at d e
    match cs, f with
    | [a, b], _ =>
      obtain ⟨k, ta⟩ := Ll L.i d;obtain ⟨g, ea⟩ := ao L.s e;simp at ta ea;subst ta;subst ea;exact ⟨⟨k, g⟩, rfl⟩
theorem RF (L : bm P mg Ri xg vh Bg Mi hh ih Dh Ni jh hj) (u : Om W μ) : ∀ (n fuel : Nat) (cs : List Value) (r : DataW H × List MemPlace), fuel ≤ n → DataW.trod enc P W 0 sp held fuel Bg cs = some r → ∃ x : wa, Ob.cs μ cs x := by
  intro n
  induction n with
  | zero => intro fuel cs r v h; cases fuel with | zero => cases h | succ f => omega
  | succ n w =>
    intro fuel cs r v h;cases fuel with
    | zero => cases h
    | succ fuel =>
      obtain ⟨y, e⟩ := Jr L.ex h;obtain ⟨_, j⟩ := e (mg, 0) (by simp);obtain ⟨_, o⟩ := e (Ri, 1) (by simp);obtain ⟨_, p⟩ := e (xg, 2) (by simp);obtain ⟨_, q⟩ := e (Mi, 3) (by simp);simp only [L.one] at j o p q
      match cs, y with
      | [a, b, c, d], _ =>
        obtain ⟨k, ta⟩ := Ll L.i j;obtain ⟨m, ea⟩ := Ll L.n o;obtain ⟨g, e2⟩ := ao L.s p;obtain ⟨z, A, l, t, B⟩ := zq (α := wa) L.es L.ex.size u q fun f cs r' e h => w f cs r' (by omega) h;simp at ta ea e2 t;subst ta;subst ea;subst e2;subst t;exact ⟨⟨k, m, g, l⟩, wa.i ⟨z, A, rfl, B⟩⟩
theorem SF (L : bm P mg Ri xg vh Bg Mi hh ih Dh Ni jh hj) (j : Om W μ) : ∀ (n fuel : Nat) (cs : List Value) (r : DataW H × List MemPlace), fuel ≤ n → DataW.trod enc P W 0 sp held fuel hh cs = some r → ∃ x : ib, Ob.cs μ cs x := by
  intro n
  induction n with
  | zero => intro fuel cs r z h; cases fuel with | zero => cases h | succ f => omega
  | succ n m =>
    intro fuel cs r z h;cases fuel with
    | zero => cases h
    | succ fuel =>
      obtain ⟨A, c⟩ := Jr L.st h;obtain ⟨_, p⟩ := c (mg, 0) (by simp);obtain ⟨_, q⟩ := c (xg, 1) (by simp);obtain ⟨_, t⟩ := c (Bg, 2) (by simp);obtain ⟨_, u⟩ := c (ih, 6) (by simp);obtain ⟨_, v⟩ := c (ih, 7) (by simp);simp only [L.one, L.ex.size] at p q t u v
      match cs, A with
      | [a, b, c0, M, c2, c3, d, e], _ =>
        obtain ⟨k, ta⟩ := Ll L.i p;obtain ⟨g, ea⟩ := ao L.s q;obtain ⟨x, B⟩ := RF L j _ _ _ _ (Nat.le_refl _) t;obtain ⟨a2, C, l, w, D⟩ := zq (α := ib) L.Pq L.st.size j u fun f cs r' c h => m f cs r' (by omega) h;obtain ⟨a3, E, F, y, Oh⟩ := zq (α := ib) L.Pq L.st.size j v fun f cs r' c h => m f cs r' (by omega) h;obtain ⟨G, K, ka, k1⟩ := wa.o B;simp at ta ea w y ka;obtain ⟨rfl, rfl, rfl, rfl⟩ := ka;subst ta;subst ea;subst w;subst y;exact ⟨⟨k, g, x, l, F⟩, ib.i ⟨G, K, a2, C, a3, E, rfl, k1, D, Oh⟩⟩
theorem hz (L : bm P mg Ri xg vh Bg Mi hh ih Dh Ni jh hj){fuel : Nat}{cs : List Value}{r : DataW H × List MemPlace}(h : DataW.trod enc P W 0 sp held fuel Dh cs = some r) : ∃ x : TParam, Ob.cs μ cs x := by
  cases fuel with
  | zero => cases h
  | succ n =>
    obtain ⟨g, d⟩ := Jr L.Gn h;obtain ⟨_, e⟩ := d (xg, 0) (by simp);obtain ⟨_, f⟩ := d (vh, 1) (by simp);simp only [L.one, L.ty.size] at e f
    match cs, g with
    | [a, b, c], _ =>
      obtain ⟨eg, ta⟩ := ao L.s e;obtain ⟨t, ea⟩ := Kr L f;simp at ta ea;obtain ⟨rfl, rfl⟩ := ea;subst ta;exact ⟨⟨eg, t⟩, rfl⟩
theorem TF (L : bm P mg Ri xg vh Bg Mi hh ih Dh Ni jh hj) (d : Om W μ){fuel : Nat}{cs : List Value}{r : DataW H × List MemPlace}(h : DataW.trod enc P W 0 sp held fuel jh cs = some r) : ∃ x : sb, Ob.cs μ cs x := by
  cases fuel with
  | zero => cases h
  | succ fuel =>
    obtain ⟨B, c⟩ := Jr L.Qq h;obtain ⟨_, j⟩ := c (mg, 0) (by simp);obtain ⟨_, m⟩ := c (xg, 1) (by simp);obtain ⟨_, o⟩ := c (vh, 2) (by simp);obtain ⟨_, p⟩ := c (vh, 4) (by simp);obtain ⟨_, q⟩ := c (mg, 6) (by simp);obtain ⟨_, u⟩ := c (Ni, 7) (by simp);obtain ⟨_, v⟩ := c (ih, 8) (by simp);simp only [L.one, L.ty.size] at j m o p q u v
    match cs, B with
    | [a, b, c0, N, d0, d1, e, f, g], _ =>
      obtain ⟨k, ta⟩ := Ll L.i j;obtain ⟨eg, ea⟩ := ao L.s m;obtain ⟨t, e2⟩ := Kr L o;obtain ⟨C, w⟩ := Kr L p;obtain ⟨vg, y⟩ := Ll L.i q;obtain ⟨D, E, l, z, F⟩ := zq (α := TParam) L.Xd L.Gn.size d u fun n cs r' _ h => hz L h;obtain ⟨a2, G, K, A, M⟩ := zq (α := ib) L.Pq L.st.size d v fun n cs r' _ h => SF L d _ _ _ _ (Nat.le_refl _) h;simp at ta ea e2 w y z A;obtain ⟨rfl, rfl⟩ := e2;obtain ⟨rfl, rfl⟩ := w;subst ta;subst ea;subst y;subst z;subst A;exact ⟨⟨k, eg, t, C, vg, l, K⟩, D, E, a2, G, rfl, F, M⟩
theorem YG (L : bm P mg Ri xg vh Bg Mi hh ih Dh Ni jh hj) (b : Om W μ){v : Value}{d : DataW H}{Xd : List MemPlace}(h : DataW.Trod enc P W 0 sp held hj v d Xd) (f : v.cells.toList = [v]) : ∃ (a : Option Addr) (c : Nat) (l : List sb), v = .slice a l.length c ∧ mb μ a c l := by
  obtain ⟨fuel, h⟩ := h;obtain ⟨a, c, l, e, k⟩ := zq (α := sb) L.ds L.Qq.size b h fun n cs r' _ h => TF L b h;rw [f] at e;cases e;exact ⟨a, c, l, rfl, k⟩
end
end Go.ec
namespace Go.ec
open Go.Sb Go.RowKit Go.ChangeShapes Go.Y
section
variable {H : Type}{enc : TypeId × Value → H}{P : Program}{W : World}{sp : Nat → Bool}{held : Bool}{μ : M}
def cm (P : Program) (T : TypeId) (d : DataW H) : Prop := ∀ n ∈ d.weights P T, n ≤ reachBytes
theorem vC {α β : Type}{f : α → Option β} : ∀ {l : List α}{ys : List β}, l.mapM f = some ys → ys.length = l.length ∧ ∀ (i : Nat) (x : α), l[i]? = some x → ∃ y, ys[i]? = some y ∧ f x = some y := by
  intro l
  induction l with
  | nil => intro ys h; cases h; exact ⟨rfl, fun i x c => by simp at c⟩
  | cons a l g =>
    intro ys h;rw [List.mapM_cons] at h;cases d : f a with
    | none => rw [d] at h; cases h
    | some b =>
      rw [d] at h;cases e : l.mapM f with
      | none => rw [e] at h; cases h
      | some m =>
        rw [e] at h;cases h;obtain ⟨j, k⟩ := g e;refine ⟨by simp [j], fun i x c => ?_⟩;cases i with
        | zero => cases c; exact ⟨b, rfl, d⟩
        | succ i => exact k i x c
theorem yv {T : TypeId}{b : List (TypeId × Nat)}{n fuel : Nat}{cs : List Value}{r : DataW H × List MemPlace}(g : He P T b n) (h : DataW.trod enc P W 0 sp held (fuel + 1) T cs = some r) (l : cm P T r.1) :
    cs.length = n ∧ ∀ (i : Nat) (p : TypeId × Nat), b[i]? = some p → ∃ r', DataW.trod enc P W 0 sp held fuel p.1 ((cs.drop p.2).take (P.cellsOf p.1)) = some r' ∧ cm P p.1 r'.1 := by
  obtain ⟨c, hu, m, o⟩ := g.out;by_cases a : cs.length = P.cellsOf T
  · refine ⟨a.trans o, ?_⟩;have q : ∃ ys, c.toList.mapM (fun f => DataW.trod enc P W 0 sp held fuel f.type ((cs.drop f.offset).take (P.cellsOf f.type))) = some ys ∧ r.1 = .agg (ys.map (·.1)):= by
      unfold DataW.trod at h;simp only [hu, a, if_true] at h;cases hm : c.toList.mapM (fun f => DataW.trod enc P W 0 sp held fuel f.type ((cs.drop f.offset).take (P.cellsOf f.type))) with
      | none => rw [hm] at h; cases h
      | some ys => rw [hm] at h; cases h; exact ⟨ys, rfl, rfl⟩
    obtain ⟨ys, s, t⟩ := q;obtain ⟨m1, m2⟩ := vC s;intro i p d;rw [← m, List.getElem?_map] at d;obtain ⟨f, e, rfl⟩ := Option.map_eq_some_iff.1 d;obtain ⟨y, u, v⟩ := m2 i f e;refine ⟨y, v, fun k w => l k ?_⟩;rw [t, DataW.weights, hu];exact DataW.weights_mem_each (j := i) (by rw [List.getElem?_map, e];rfl) (by rw [List.getElem?_map, u];rfl) k w
  · unfold DataW.trod at h;simp only [hu, a, if_false] at h;cases h
theorem iw {e : TypeId} : ∀ {ds : List (DataW H)}{i : Nat}{d : DataW H}, ds[i]? = some d → ∀ n ∈ d.weights P e, n ∈ DataW.weightsAll P e ds
  | d0 :: ds, 0, d, h, n, a => by
    cases h;rw [DataW.weightsAll];exact List.mem_append.2 (.inl a)
  | d0 :: ds, i + 1, d, h, n, a => by
    rw [DataW.weightsAll];exact List.mem_append.2 (.inr (iw (i := i) (by simpa using h) n a))
  | [], i, d, h, n, a => by simp at h
theorem tq {α : Type}[Ob α]{B : Nat}{Rz : α → Prop}{fuel : Nat}{T e : TypeId}{cs : List Value}{r : DataW H × List MemPlace}(hu : P.underlying T = some (.slice e)) (hm : P.cellsOf e = Ob.Jb α) (gc : reachBytes < (B + 1) * P.bytesOf e) (F : Om W μ) (h : DataW.trod enc P W 0 sp held fuel T cs = some r) (z : cm P T r.1)
    (G : ∀ n cs r', n < fuel → DataW.trod enc P W 0 sp held n e cs = some r' → cm P e r'.1 → ∃ x : α, Ob.cs μ cs x ∧ Rz x) : ∃ (a : Option Addr) (c : Nat) (l : List α), cs = [.slice a l.length c] ∧ mb μ a c l ∧ l.length ≤ B ∧ ∀ x ∈ l, Rz x := by
  rcases DataW.trod_slice hu h with ⟨rfl, -⟩ | ⟨a, len, cap, elems, rest, n, rfl, rfl, A, -, lc, C, K, L, -⟩
  · exact ⟨none, 0, [], rfl, mb.nil, by simp, by simp⟩
  · have hw : (elems.length + rest.length) * P.bytesOf e ≤ reachBytes := z _ (by rw [A];simp [DataW.weights, hu]);have rc : len ≤ B := by
      rw [K] at hw;rcases Nat.lt_or_ge B len with c | c
      · have : (B + 1) * P.bytesOf e ≤ (len + rest.length) * P.bytesOf e := Nat.mul_le_mul_right _ (by omega);omega
      · exact c
    have M : ∀ (i : Nat) (y : DataW H × List MemPlace), elems[i]? = some y → cm P e y.1 := fun i y t k N => z k (by
      rw [A];simp only [DataW.weights, hu];refine List.mem_cons_of_mem _ (List.mem_append.2 (.inl ?_));exact iw (i := i) (by rw [List.getElem?_map, t];rfl) k N)
    rcases Nat.eq_zero_or_pos len with u | u
    · subst u;exact ⟨some a, cap, [], rfl, ⟨by simp, C, .inl rfl⟩, by simp, by simp⟩
    · have each : ∀ i, i < len → ∃ cs, cs.length = Ob.Jb α ∧ (∀ j v, cs[j]? = some v → W.cell? ((a.add (i * Ob.Jb α)).add j) = some v) ∧ ∃ x : α, Ob.cs μ cs x ∧ Rz x := by
        intro i d;have he := L i d;rw [hm] at he;obtain ⟨y, t⟩ : ∃ y, elems[i]? = some y := ⟨_, List.getElem?_eq_getElem (by omega)⟩;rw [t] at he;cases m : W.cells? 0 (a.add (i * Ob.Jb α)) (Ob.Jb α) with
        | none => rw [m] at he; cases he
        | some cs =>
          rw [m] at he;exact ⟨cs, (ht m).1, (ht m).2, G n cs y (Nat.lt_succ_self _) he (M i y t)⟩
      have D : a.spot = none := by
        obtain ⟨cs, fd, m, -⟩ := each 0 u;have id := Ob.pos (α := α);obtain ⟨v, Q⟩ : ∃ v, cs[0]? = some v := ⟨_, List.getElem?_eq_getElem (by omega)⟩;have := m 0 v Q;cases R : a.spot with
        | none => rfl
        | some q =>
          have e : ((a.add (0 * Ob.Jb α)).add 0).spot = some q := by simp [Addr.add, R]
          unfold World.cell? at this;rw [e] at this;simp at this;split at this<;>cases this
      obtain ⟨b, o, s⟩ := a;simp only at D;subst D;have S : ∃ g : Nat → List Value, ∃ f : Nat → α, ∀ i, i < len → (∀ j v, (g i)[j]? = some v → W.cell? (((⟨b, o, none⟩ : Addr).add (i * Ob.Jb α)).add j) = some v) ∧ Ob.cs μ (g i) (f i) ∧ Rz (f i):= by
        have ne : Nonempty α := by obtain ⟨_, -, -, x, -⟩ := each 0 u;exact ⟨x⟩
        refine ⟨fun i => if d : i < len then Classical.choose (each i d) else [], fun i => if d : i < len then Classical.choose (Classical.choose_spec (each i d)).2.2 else Classical.choice ne, fun i d => ?_⟩;simp only [dif_pos d];exact ⟨(Classical.choose_spec (each i d)).2.1, Classical.choose_spec (Classical.choose_spec (each i d)).2.2⟩
      obtain ⟨g, f, E⟩ := S;refine ⟨some ⟨b, o, none⟩, cap, (List.range' 0 len).map f, by simp, ⟨by simp;omega, C, .inr ⟨b, o, rfl, g, fun i x p => ?_⟩⟩, by simp;omega, fun x p => ?_⟩
      · have d : i < len := by
          have := (List.getElem?_eq_some_iff.1 p).1;simpa using this
        have V : x = f i := by
          rw [List.getElem?_map, List.getElem?_range' d] at p;simpa using p.symm
        obtain ⟨k1, X, -⟩ := E i d;rw [V];refine ⟨fun w hw j v Y => ?_, X⟩;have := k1 j v Y;rw [gi, gi] at this;exact Yq this (F w hw)
      · obtain ⟨i, d, rfl⟩ := List.mem_map.1 p;have Z : i < len := by simpa using (List.mem_range'_1.1 d).2
        exact (E i Z).2.2
structure bs (P : Program) (Bg hh Dh jh : TypeId) : Prop where
  ex : P.bytesOf Bg = 56
  st : P.bytesOf hh = 128
  Gn : P.bytesOf Dh = 40
  Qq : P.bytesOf jh = 128
variable {mg Ri xg vh Bg Mi hh ih Dh Ni jh hj : TypeId}
theorem bF (L : bm P mg Ri xg vh Bg Mi hh ih Dh Ni jh hj) (Z : bs P Bg hh Dh jh) (u : Om W μ) : ∀ (n fuel : Nat) (cs : List Value) (r : DataW H × List MemPlace), fuel ≤ n → DataW.trod enc P W 0 sp held fuel Bg cs = some r → cm P Bg r.1 → ∃ x : wa, Ob.cs μ cs x ∧ Wl n x := by
  intro n
  induction n with
  | zero => intro fuel cs r v h; cases fuel with | zero => cases h | succ f => omega
  | succ n w =>
    intro fuel cs r v h y;cases fuel with
    | zero => cases h
    | succ fuel =>
      obtain ⟨A, e⟩ := yv L.ex h y;obtain ⟨_, j, -⟩ := e 0 (mg, 0) rfl;obtain ⟨_, o, -⟩ := e 1 (Ri, 1) rfl;obtain ⟨_, p, -⟩ := e 2 (xg, 2) rfl;obtain ⟨_, q, z3⟩ := e 3 (Mi, 3) rfl;simp only [L.one] at j o p q
      match cs, A with
      | [a, b, c, d], _ =>
        obtain ⟨k, ta⟩ := Ll L.i j;obtain ⟨m, ea⟩ := Ll L.n o;obtain ⟨g, e2⟩ := ao L.s p;obtain ⟨C, D, l, t, E, s1, s2⟩ := tq (α := wa) (B := 2513169434916) (Rz := Wl n) L.es L.ex.size (by rw [Z.ex];decide) u q z3 fun f cs r' e h z => w f cs r' (by omega) h z;simp at ta ea e2 t;subst ta;subst ea;subst e2;subst t;exact ⟨⟨k, m, g, l⟩, wa.i ⟨C, D, rfl, E⟩, s1, s2⟩
theorem cF (L : bm P mg Ri xg vh Bg Mi hh ih Dh Ni jh hj) (Z : bs P Bg hh Dh jh) (j : Om W μ) : ∀ (n fuel : Nat) (cs : List Value) (r : DataW H × List MemPlace), fuel ≤ n → DataW.trod enc P W 0 sp held fuel hh cs = some r → cm P hh r.1 → ∃ x : ib, Ob.cs μ cs x ∧ Xl n x := by
  intro n
  induction n with
  | zero => intro fuel cs r A h; cases fuel with | zero => cases h | succ f => omega
  | succ n m =>
    intro fuel cs r A h C;cases fuel with
    | zero => cases h
    | succ fuel =>
      obtain ⟨D, c⟩ := yv L.st h C;obtain ⟨_, p, -⟩ := c 0 (mg, 0) rfl;obtain ⟨_, q, -⟩ := c 1 (xg, 1) rfl;obtain ⟨_, t, z2⟩ := c 2 (Bg, 2) rfl;obtain ⟨_, u, z3⟩ := c 3 (ih, 6) rfl;obtain ⟨_, v, z4⟩ := c 4 (ih, 7) rfl;simp only [L.one, L.ex.size] at p q t u v
      match cs, D with
      | [a, b, c0, V, c2, c3, d, e], _ =>
        obtain ⟨k, ta⟩ := Ll L.i p;obtain ⟨g, ea⟩ := ao L.s q;obtain ⟨x, E, F⟩ := bF L Z j n _ _ _ (by omega) t z2;obtain ⟨a2, G, l, w, K, s1, s2⟩ := tq (α := ib) (B := 1099511627776) (Rz := Xl n) L.Pq L.st.size (by rw [Z.st];decide) j u z3 fun f cs r' c h z => m f cs r' (by omega) h z;obtain ⟨a3, M, N, y, Oh, Q, R⟩ := tq (α := ib) (B := 1099511627776) (Rz := Xl n) L.Pq L.st.size (by rw [Z.st];decide) j v z4 fun f cs r' c h z => m f cs r' (by omega) h z;obtain ⟨S, T, ka, k1⟩ := wa.o E;simp at ta ea w y ka;obtain ⟨rfl, rfl, rfl, rfl⟩ := ka;subst ta;subst ea;subst w;subst y;exact ⟨⟨k, g, x, l, N⟩, ib.i ⟨S, T, a2, G, a3, M, rfl, k1, K, Oh⟩, F, ⟨s1, s2⟩, ⟨Q, R⟩⟩
theorem dF (L : bm P mg Ri xg vh Bg Mi hh ih Dh Ni jh hj) (Z : bs P Bg hh Dh jh) (d : Om W μ){n fuel : Nat}(X : fuel ≤ n){cs : List Value}{r : DataW H × List MemPlace}(h : DataW.trod enc P W 0 sp held fuel jh cs = some r) (E : cm P jh r.1) : ∃ x : sb, Ob.cs μ cs x ∧ Wr n x := by
  cases fuel with
  | zero => cases h
  | succ fuel =>
    obtain ⟨F, c⟩ := yv L.Qq h E;obtain ⟨_, j, -⟩ := c 0 (mg, 0) rfl;obtain ⟨_, o, -⟩ := c 1 (xg, 1) rfl;obtain ⟨_, p, -⟩ := c 2 (vh, 2) rfl;obtain ⟨_, q, -⟩ := c 3 (vh, 4) rfl;obtain ⟨_, u, -⟩ := c 4 (mg, 6) rfl;obtain ⟨_, v, z5⟩ := c 5 (Ni, 7) rfl;obtain ⟨_, w, G⟩ := c 6 (ih, 8) rfl;simp only [L.one, L.ty.size] at j o p q u v w
    match cs, F with
    | [a, b, c0, Y, d0, d1, e, f, g], _ =>
      obtain ⟨k, ta⟩ := Ll L.i j;obtain ⟨eg, ea⟩ := ao L.s o;obtain ⟨t, e2⟩ := Kr L p;obtain ⟨K, y⟩ := Kr L q;obtain ⟨vg, A⟩ := Ll L.i u;obtain ⟨M, N, l, C, Q, s1, -⟩ := tq (α := TParam) (B := 3518437208883) (Rz := fun _ => True) L.Xd L.Gn.size (by rw [Z.Gn];decide) d v z5 fun n cs r' _ h _ => (hz L h).imp fun _ h => ⟨h, trivial⟩;obtain ⟨a2, R, S, D, T, s2, V⟩ := tq (α := ib) (B := 1099511627776) (Rz := Xl n) L.Pq L.st.size (by rw [Z.st];decide) d w G fun m cs r' hm h z => cF L Z d n m _ _ (by omega) h z;simp at ta ea e2 y A C D;obtain ⟨rfl, rfl⟩ := e2;obtain ⟨rfl, rfl⟩ := y;subst ta;subst ea;subst A;subst C;subst D;exact ⟨⟨k, eg, t, K, vg, l, S⟩, ⟨M, N, a2, R, rfl, Q, T⟩, s1, s2, V⟩
theorem wC (L : bm P mg Ri xg vh Bg Mi hh ih Dh Ni jh hj) (Z : bs P Bg hh Dh jh) (b : Om W μ){v : Value}{d : DataW H}{Xd : List MemPlace}(h : DataW.Trod enc P W 0 sp held hj v d Xd) (f : cm P hj d) (g : v.cells.toList = [v]) : ∃ (a : Option Addr) (c : Nat) (l : List sb) (k : Nat), v = .slice a l.length c ∧ mb μ a c l ∧ gp k l := by
  obtain ⟨fuel, h⟩ := h;obtain ⟨a, c, l, e, k, s1, s2⟩ := tq (α := sb) (B := 1099511627776) (Rz := Wr fuel) L.ds L.Qq.size (by rw [Z.Qq];decide) b h f fun n cs r' i h z => dF L Z b (by omega) h z;rw [g] at e;cases e;exact ⟨a, c, l, fuel, rfl, k, s1, s2⟩
theorem UF {a us : List TypeId}{ds gs : List (DataW H)}(h : (DataW.weightsEach P (a ++ us) (ds ++ gs)).all (· ≤ reachBytes) = true){j : Nat}{t : TypeId}{d : DataW H}(b : a[j]? = some t) (Ua : ds[j]? = some d) : cm P t d := by
  intro n c;refine of_decide_eq_true (List.all_eq_true.1 h n (DataW.weights_mem_each (j := j) (t := t) (d := d) ?_ ?_ n c))
  · rw [List.getElem?_append_left (List.getElem?_eq_some_iff.1 b).1];exact b
  · rw [List.getElem?_append_left (List.getElem?_eq_some_iff.1 Ua).1];exact Ua
end
end Go.ec
namespace Go.Proofs.YtbdiobhgejmgoaaGreatDoor.synTurns
open Go.Sb Go.ec Go.Y Go.ChangeShapes Go.WideShapes Go.ChangeAt Go.RowKit
theorem xD {P : Program}{w : World}{n : String}{g : Nat}{k : IntKind}{a : List Int}(b : P.globalNamed n = some g) (h : Lib.TabIs P w n k a) : Fi (fun _ => True) w (fun w' => Lib.TabIs P w' n k a):= fun w' _ c => by
  unfold Lib.TabIs World.var? at h ⊢;rw [b] at h ⊢;simp only [Option.bind_some] at h ⊢;have d : g < w.heap.size := by
    refine Decidable.byContradiction fun e => ?_;have : w.heap[g]? = none := Array.getElem?_eq_none (by omega);simp [this] at h
  rw [c g d trivial];exact h
theorem VF {fu : Nat}{c : List sb}{a0 : Option Addr}{c0 : Nat}{l1 : List UInt8}(W : World) (e : Fi (fun _ => True) W uc) (m0 : mb (fun w => uc w ∧ ∀ k, k < W.heap.size → w.heap[k]? = W.heap[k]?) a0 c0 c)  (f : dr fu c l1 = some true) :
    Pc Tryz.prog 4 [.slice a0 c.length c0, S l1] W fun v w => v = .bool true ∧ Grow W w := by
  have g : Na (fun w => uc w ∧ ∀ k, k < W.heap.size → w.heap[k]? = W.heap[k]?) W W []:= Sep.start W _ _ (e.and fun w' _ i k d => i k d trivial);refine (OA (fu := fu) (fun _ h => h.1) m0 f g).mono ?_;rintro v w' ⟨U, rfl, hle, b⟩;have d := hle _ b.a;exact ⟨rfl, b.keeps.os, b.keeps.tape, b.keeps.output, b.keeps.size, fun k j _ => d.2 k j⟩
theorem UG : bm Tryz.prog 3 2 9 47 61 59 63 49 58 48 51 22 := ⟨Tryz.underlying3, Tryz.underlying2, Tryz.underlying9, ⟨⟨_, Tryz.underlying47, by kernel_rfl, by kernel_rfl⟩⟩, ⟨⟨_, Tryz.underlying61, by kernel_rfl, by kernel_rfl⟩⟩, Tryz.underlying59, ⟨⟨_, Tryz.underlying63, by kernel_rfl, by kernel_rfl⟩⟩, Tryz.underlying49, ⟨⟨_, Tryz.underlying58, by kernel_rfl, by kernel_rfl⟩⟩, Tryz.underlying48, ⟨⟨_, Tryz.underlying51, by kernel_rfl, by kernel_rfl⟩⟩, Tryz.underlying22, by kernel_rfl, by kernel_rfl, by kernel_rfl, by kernel_rfl, by kernel_rfl, by kernel_rfl⟩
theorem Nq : bs Tryz.prog 61 63 58 51 := ⟨by kernel_rfl, by kernel_rfl, by kernel_rfl, by kernel_rfl⟩
theorem own : ownKnob Tryz.prog.godebug = none := by kernel_rfl
theorem laidOut : laidOutB Tryz.prog = true := by kernel_rfl
set_option maxRecDepth 100000 in
set_option maxHeartbeats 4000000 in
theorem xC (H : Type) (enc : TypeId × Value → H) (W : World) (base : Nat) (args : Array Value) (ds gs : List (DataW H)) (before : List MemPlace)
    (a : ∀ (j : Nat) t v, Tryz.f4.params[j]? = some t → args[j]? = some v → Value.okWide Tryz.prog W .any base t v)
    (f : DataW.Whole enc Tryz.prog Tryz.f4.params.toList Rows.synTurnsSpec.vars false W args.toList ds gs before) (z : ∀ (j : Nat) t d, Tryz.f4.params.toList[j]? = some t → ds[j]? = some d → cm Tryz.prog t d) (A : laidMetH Tryz.prog Rows.synTurnsRow.laid W) (B : W.ShapedOpen Tryz.prog) :
    Calls Tryz.prog 4 args W fun e i => ∃ v, e = .returned v ∧ Rows.synTurnsSpec.post enc Tryz.prog Tryz.f4 false true false false W args v i := by
  have b := f;obtain ⟨p, q, o, C, rfl, rc, fd⟩ := f;have r : DataW.TrodAll enc Tryz.prog W 0 (fun _ => true) true Tryz.f4.params.toList args.toList ds p := o;rw [Tryz.params4] at r a;obtain ⟨v0, id, D, md, qa, rd, wd, rfl, rfl, s, E⟩ := trodAll_cons r;obtain ⟨v1, Fd, Id, be, ua, ce, F, rfl, rfl, G, K⟩ := trodAll_cons E;obtain ⟨rfl, rfl, rfl⟩ := trodAll_nil K;try (obtain rfl := F)
  obtain rfl : args = #[v0, v1]:= by cases args;simp_all
  obtain ⟨rfl, rfl⟩ := trodVars_none C;clear o;simp only [List.append_nil] at b;have L := b.lt;have M : v0.cells.toList = [v0]:= by obtain ⟨_, _, _, rfl⟩ := okWide_slice Tryz.underlying22 (a 0 22 v0 rfl rfl);rfl
  obtain ⟨a0, c0, ge, z0, N, m0, Q⟩ := wC (μ := fun w => uc w ∧ ∀ k, k < W.heap.size → w.heap[k]? = W.heap[k]?) UG Nq (fun w h => h.2) s (z 0 22 D (by rw [Tryz.params4];rfl) rfl) M;obtain ⟨⟨⟨l1⟩⟩, rfl, rfl, rfl, R⟩ := Go.ChangeMaps.open_string Tryz.underlying9 (a 1 9 v1 rfl rfl) G;obtain ⟨m, hm⟩ := cell_of_shapedOpen_int (P := Tryz.prog) (g := 3) (t := 3) (zero := #[.int .i64 0]) B (of_decide_eq_true (by kernel_rfl)) (by kernel_rfl) (by kernel_rfl) (by kernel_rfl) (by kernel_rfl) Tryz.underlying3;have S : ∀ l : List (String × DataW Unit), Rows.synTurnsRow.laid.filter (fun x => l.map (·.1) == [x.1]) = l → (l.all fun x => x.2.handleName?.isNone) = true → laidMet Tryz.prog l W := fun l T V => by
    have := laidMetH.filter (fun x => l.map (·.1) == [x.1]) A;rw [T, MakeChecks.laidMetH_plain _ _ _ V] at this;exact this
  have X : Lib.TabIs Tryz.prog W "internal/strconv.uint64pow10" .u64 Lib.pow10Tab :=
    Lib.tabIs_of_head (g := 2) (t := 165) (e := 124) (n := 20) (by kernel_rfl) (by kernel_rfl) (by kernel_rfl) (by kernel_rfl) (by kernel_rfl) (by kernel_rfl) (S [("internal/strconv.uint64pow10", Rows.laid_internal_strconv_uint64pow10)] (by rfl) (by kernel_rfl))
  have Y : Fi (fun _ => True) W uc := fun w' Z u => ⟨⟨m, Yq hm fun k gc => u k gc trivial⟩, xD (g := 2) (by kernel_rfl) X w' Z u⟩;have walk := (VF (l1 := l1) W Y m0 (eA _ _ Q)).out;rw [← N] at walk;refine walk.mono fun e i he => ?_;cases e with
  | panicked c => exact he.elim
  | outgrown => exact he.elim
  | returned v =>
    obtain ⟨rfl, y⟩ := he;exact ⟨_, rfl, _, _, _, [], _, [], b, trodAll_cons_mk (shut_bool Tryz.underlying4 _) trodAll_mk0, (trodAll_cons_mk (Below.trod laidOut (by kernel_rfl) (of_decide_eq_true (by kernel_rfl)) s y.below (fun x lc => L x (by simp [lc]))) (trodAll_cons_mk (Go.ChangeMaps.shut_string Tryz.underlying9 R) trodAll_mk0)), rfl, y.below.frame _, fun h => by cases h⟩
theorem VG : (World.laidAll Tryz.prog default Rows.synTurnsRow.laid).os = default := World.laidAll_os _ _ _
set_option maxRecDepth 100000 in
theorem lifted (os : Os) (started : os.Started) (H : Type) (enc : TypeId × Value → H) (F : Stop.Interp) :
    ReturnsInHanded {} Tryz.checked os 4 .any ((OpenSpec.ofChange Rows.synTurnsSpec).preRow enc Tryz.prog Tryz.f4 Rows.synTurnsRow.domain false Rows.synTurnsRow.laid) (((OpenSpec.ofChange Rows.synTurnsSpec).at F).post enc Tryz.prog Tryz.f4 false true false false):= by
  have a : ∃ places, DataW.whole enc Tryz.prog ((World.laidAll Tryz.prog os Rows.synTurnsRow.laid).forCall (fun _ _ => 0) ⟨#[], #[.slice none 0 0, .string ⟨#[]⟩], []⟩).memory Tryz.f4.params.toList Rows.synTurnsSpec.vars false (#[.slice none 0 0, .string ⟨#[]⟩] : Array Value).toList 8 = some ([.nil, .lit (.string [])], [], places):= ⟨[], by kernel_rfl⟩;obtain ⟨places, a⟩ := a;have b : Input.okWideB Tryz.prog ((World.laidAll Tryz.prog os Rows.synTurnsRow.laid).forCall (fun _ _ => 0) ⟨#[], #[.slice none 0 0, .string ⟨#[]⟩], []⟩) 4 ⟨#[], #[.slice none 0 0, .string ⟨#[]⟩], []⟩ = true := by kernel_rfl
  refine returnsInHanded_of_row (C := Tryz.checked) (s := OpenSpec.ofChange Rows.synTurnsSpec) own started (by kernel_rfl) Tryz.func4
    ⟨World.laidAll Tryz.prog os Rows.synTurnsRow.laid, fun _ _ => 0, ⟨#[], #[.slice none 0 0, .string ⟨#[]⟩], []⟩, World.laidAll_os _ _ _, World.shaped_of_ZipB (by kernel_rfl) (by kernel_rfl), (Input.okWide_of_okWideB (base := 0) b).1, (Input.okWide_of_okWideB b).2,
      OpenSpec.preRow_of_cond 8 a (by kernel_rfl) (fun k c => by cases c) (by kernel_rfl) (by rw [MakeChecks.laidMetH_plain _ _ _ (by kernel_rfl)];exact laidMet_laidAll _ (by kernel_rfl) (by kernel_rfl)), by
        simp only [Assume.holds];exact ⟨by simp, by simp, fun _ => Modest.zero, by simp, by simp⟩⟩ ?_
  intro W base args ds gs before e f _ c g h i _;exact xC H enc W base args ds gs before e f (fun j t d l Ua => UF g l Ua) h i
theorem said : Rows.SynTurnsSaid :=
  OpenClaim.holds_of_cond 4 Tryz.f4 rfl rfl rfl rfl rfl rfl rfl ⟨rfl, rfl, rfl, rfl, rfl⟩ rfl rfl rfl rfl rfl (by kernel_rfl) Tryz.func4 (by kernel_rfl)
    (of_decide_eq_true (by kernel_rfl)) (by unfold Func.isWrapper;first | (rw [if_pos (by decide +kernel)];kernel_rfl) | (rw [if_neg (by decide +kernel)];exact ⟨rfl, rfl⟩))
    (fun os started H enc _ F => by rw [OpenClaim.pre_eq_preRow];exact lifted os started H enc F)
theorem plain (f : FuncId) (fn : Func) (b : Tryz.pinned.checked.prog.funcNamed Rows.synTurnsRow.func = some f) (c : Tryz.pinned.checked.prog.funcs[f]? = some fn) :
    true = Tryz.pinned.checked.prog.looks [] ∧ ∀ (j : Nat) t, fn.params[j]? = some t → Tryz.pinned.checked.prog.wantsStandIn t = false := by
  obtain rfl : f = 4 := Option.some.inj ((show Tryz.prog.funcNamed Rows.synTurnsRow.func = some 4 by kernel_rfl).symm.trans b) |>.symm;obtain rfl : fn = Tryz.f4 := (Option.some.inj (Tryz.func4.symm.trans c)).symm;refine ⟨by kernel_rfl, fun j t a => ?_⟩;rw [Tryz.params4] at a;have hm : t ∈ [9, 22]:= by
    first
      | simpa using Array.mem_of_getElem? a
      | (have := Array.mem_of_getElem? a; simp at this ⊢; exact this.symm)
  simp only [List.mem_cons, List.not_mem_nil, or_false] at hm;rcases hm with rfl | rfl
  · exact (show Tryz.prog.wantsStandIn 9 = false by kernel_rfl)
  · exact (show Tryz.prog.wantsStandIn 22 = false by kernel_rfl)
theorem card : Rows.SynTurnsCardSaid :=
  Claim7.holds_tied_plain_at .later [] _ _ _ _ said (fun _ h => by cases h) (by kernel_rfl) (fun _ h => by cases h) synTurns_row_tie rfl ⟨rfl, rfl⟩ (by kernel_rfl) rfl plain (by kernel_rfl)
end Go.Proofs.YtbdiobhgejmgoaaGreatDoor.synTurns
