/- GraphEnds: the statement holds for every input; as the card says it (the listed variables are laid as the text lays them). -/
import Derived.Test.YtbhncpgjmkcdcaaGreatDoorCXt
import Derived.ChangeSlices
import Derived.ChangeShapes
import Derived.Test.YtbhncpgjmkcdcaaGreatDoorCMd
import Derived.ChangeArms
import Derived.SizedLaws
import Derived.Test.YtbhncpgjmkcdcaaGreatDoorCards
import Derived.Test.YtbhncpgjmkcdcaaGreatDoorTie
import Derived.WalkKit
import Derived.ProofKit
import Derived.OpenShut
import Derived.Deep.DeepHandedRow
import Derived.Lay
import Derived.Shelf.Vars
import Derived.Carry
import Derived.LaidSub
import Derived.MakeChecks
import Derived.Test.YtbhncpgjmkcdcaaGreatDoorCWl
import Derived.Test.YtbhncpgjmkcdcaaGreatDoorCPm
set_option linter.unusedSimpArgs false
set_option linter.unusedVariables false
set_option linter.unusedSectionVars false
namespace Go.jc
open Go.Ab Go.RowKit Go.ChangeShapes
section
variable {H : Type}{enc : TypeId × Value → H}{P : Program}{W : World}{d : DataW H}{kd : List MemPlace}{v : Value}
theorem HJ {w : World}{b i : Nat}{v : Value}(h : w.cell? ⟨b, i, none⟩ = some v) : b < w.heap.size := by
  refine Decidable.byContradiction fun a => ?_;have : w.heap[b]? = none := Array.getElem?_eq_none (by omega);simp [World.cell?, this] at h
theorem It {w w' : World}{b i : Nat}{v : Value}(h : w.cell? ⟨b, i, none⟩ = some v) (a : ∀ k, k < w.heap.size → w'.heap[k]? = w.heap[k]?) : w'.cell? ⟨b, i, none⟩ = some v := by
  have c := HJ h;simpa [World.cell?, a b c] using h
theorem CO {t e : TypeId}{μ : M}(r : P.underlying t = some (.slice e)) (he : P.underlying e = some (.int .i64)) (hc : P.cellsOf e = 1) (h : DataW.Trod enc P W 0 (fun _ => true) true t v d kd) (Wa : v.cells.toList = [v])
    (y : ∀ w, μ w → ∀ k, k < W.heap.size → w.heap[k]? = W.heap[k]?) :
    ∃ (a : Option Addr) (c : Nat) (l : List Int), v = .slice a l.length c ∧ Da μ a c l ∧ ∀ x ∈ l, -9223372036854775808 ≤ x ∧ x ≤ 9223372036854775807 := by
  obtain ⟨fuel, h⟩ := h;rw [Wa] at h;rcases open_ints r he hc h with ⟨e, -⟩ | ⟨a, len, cap, g, e, -, F, z, A, -, m, B⟩
  · cases e;exact ⟨none, 0, [], rfl, Da.nil, by simp⟩
  · simp only [if_true] at A;cases e;have hlen : (g.take len).length = len := by rw [List.length_take];omega
    refine ⟨some a, cap, g.take len, by rw [hlen], ⟨by omega, z, ?_⟩, fun x f => ?_⟩
    · by_cases C : len = 0
      · left;subst C;simp
      · right;have n : a.spot = none := by
          have := m 0 (by omega);cases hs : a.spot with
          | none => rfl
          | some q =>
            have e : (a.add 0).spot = some q := by simp [Addr.add, hs]
            unfold World.cell? at this;rw [e] at this;simp at this;split at this<;>cases this
        obtain ⟨b, o, s⟩ := a;simp only at n;subst n;refine ⟨b, o, rfl, fun i => [.int .i64 (g.getD i 0)], fun i x f => ⟨fun w hw j u hu => ?_, ?_⟩⟩
        · have Pa : i < len := by
            have := (List.getElem?_eq_some_iff.1 f).1;omega
          have D : j = 0 := by
            have := (List.getElem?_eq_some_iff.1 hu).1;simpa using this
          subst D;cases hu;have p := m i (by omega);rw [Oj] at p;have := It p (y w hw);show w.cell? ⟨b, o + i * 1 + 0, none⟩ = _;rw [Nat.mul_one, Nat.add_zero];exact this
        · rw [List.getElem?_take] at f;split at f
          · show _ = _;simp [List.getD_eq_getElem?_getD, f]
          · cases f
    · have := B x (List.mem_of_mem_take f);simpa [Lit.wf, IntKind.min, IntKind.max, IntKind.signed, IntKind.bits] using this
theorem cN {t e : TypeId}{μ : M}(z : P.underlying t = some (.slice e)) (he : P.underlying e = some .bool) (hc : P.cellsOf e = 1) (h : DataW.Trod enc P W 0 (fun _ => true) true t v d kd) (Wa : v.cells.toList = [v])
    (A : ∀ w, μ w → ∀ k, k < W.heap.size → w.heap[k]? = W.heap[k]?) :
    ∃ (a : Option Addr) (c : Nat) (l : List Bool), v = .slice a l.length c ∧ Da μ a c l ∧ True := by
  obtain ⟨fuel, h⟩ := h;rw [Wa] at h;rcases DataW.trod_slice z h with ⟨e, -⟩ | ⟨a, len, cap, elems, rest, n, -, e, -, -, B, C, N, D, -⟩
  · cases e;exact ⟨none, 0, [], rfl, Da.nil, trivial⟩
  · cases e;have each : ∀ i, i < len → ∃ q : Bool, W.cell? (a.add i) = some (.bool q):= by
      intro i Pa;have m := D i Pa;rw [hc, Nat.mul_one] at m;have F : i < elems.length := by omega
      rw [List.getElem?_eq_getElem F, Option.bind_eq_some_iff] at m;obtain ⟨cs, G, H⟩ := m;obtain ⟨q, rfl, -⟩ := DataW.trod_bool he H;exact ⟨q, cell_of_cells?_one G⟩
    let f : Nat → Bool := fun i => if Pa : i < len then Classical.choose (each i Pa) else false
    have p : ∀ i, i < len → W.cell? (a.add i) = some (.bool (f i)):= fun i Pa => by
      simp only [f, dif_pos Pa];exact Classical.choose_spec (each i Pa)
    refine ⟨some a, cap, (List.range len).map f, by simp, ⟨by simpa using B, C, ?_⟩, trivial⟩;by_cases K : len = 0
    · left;subst K;simp
    · right;have r : a.spot = none := by
        have := p 0 (by omega);cases hs : a.spot with
        | none => rfl
        | some q =>
          have e : (a.add 0).spot = some q := by simp [Addr.add, hs]
          unfold World.cell? at this;rw [e] at this;simp at this;split at this<;>cases this
      obtain ⟨b, o, s⟩ := a;simp only at r;subst r;refine ⟨b, o, rfl, fun i => [.bool (f i)], fun i x g => ⟨fun w hw j u hu => ?_, ?_⟩⟩
      · have Pa : i < len := by
          have := (List.getElem?_eq_some_iff.1 g).1;simpa using this
        have L : j = 0 := by
          have := (List.getElem?_eq_some_iff.1 hu).1;simpa using this
        subst L;cases hu;have y := p i Pa;rw [Oj] at y;have := It y (A w hw);show w.cell? ⟨b, o + i * 1 + 0, none⟩ = _;rw [Nat.mul_one, Nat.add_zero];exact this
      · have Pa : i < len := by
          have := (List.getElem?_eq_some_iff.1 g).1;simpa using this
        simp [Pa] at g;show [Value.bool (f i)] = [Value.bool x];rw [g]
end
end Go.jc
namespace Go.jc
open Go.Ab Go.RowKit Go.ChangeShapes Go.Y
section
variable {H : Type}{enc : TypeId × Value → H}{P : Program}{W : World}{sp : Nat → Bool}{held : Bool}{μ : M}
def Su (W : World) (μ : M) : Prop := ∀ w, μ w → ∀ k, k < W.heap.size → w.heap[k]? = W.heap[k]?
theorem fI {α β : Type}{f : α → Option β} : ∀ {l : List α}{ys : List β}, l.mapM f = some ys → ∀ x ∈ l, ∃ y, f x = some y := by
  intro l
  induction l with
  | nil => intro ys _ x c; cases c
  | cons a l g =>
    intro ys h x c;rw [List.mapM_cons] at h;cases d : f a with
    | none => rw [d] at h; cases h
    | some b =>
      rw [d] at h;cases e : l.mapM f with
      | none => rw [e] at h; cases h
      | some Jc =>
        rcases List.mem_cons.1 c with rfl | c
        · exact ⟨b, d⟩
        · exact g e x c
structure ff (P : Program) (T : TypeId) (Vf : List (TypeId × Nat)) (n : Nat) : Prop where
  out : ∃ fs, P.underlying T = some (.struct fs) ∧ (fs.toList.map fun f => (f.type, f.offset)) = Vf ∧ P.cellsOf T = n
theorem ff.size {T : TypeId}{Vf : List (TypeId × Nat)}{n : Nat}(h : ff P T Vf n) : P.cellsOf T = n := by
  obtain ⟨fs, -, -, h⟩ := h.out;exact h
theorem EA {T : TypeId}{Vf : List (TypeId × Nat)}{n fuel : Nat}{cs : List Value}{r : DataW H × List MemPlace}(hs : ff P T Vf n) (h : DataW.trod enc P W 0 sp held (fuel + 1) T cs = some r) :
    cs.length = n ∧ ∀ p ∈ Vf, ∃ r', DataW.trod enc P W 0 sp held fuel p.1 ((cs.drop p.2).take (P.cellsOf p.1)) = some r' := by
  obtain ⟨fs, hu, c, hc⟩ := hs.out;by_cases a : cs.length = P.cellsOf T
  · refine ⟨a.trans hc, ?_⟩;have d : ∃ ys, fs.toList.mapM (fun f => DataW.trod enc P W 0 sp held fuel f.type ((cs.drop f.offset).take (P.cellsOf f.type))) = some ys := by
      unfold DataW.trod at h;simp only [hu, a, if_true] at h;cases hm : fs.toList.mapM (fun f => DataW.trod enc P W 0 sp held fuel f.type ((cs.drop f.offset).take (P.cellsOf f.type))) with
      | none => rw [hm] at h; cases h
      | some ys => exact ⟨ys, rfl⟩
    obtain ⟨ys, e⟩ := d;intro p b;rw [← c] at b;obtain ⟨f, g, rfl⟩ := List.mem_map.1 b;exact fI e f g
  · unfold DataW.trod at h;simp only [hu, a, if_false] at h;cases h
theorem ID {t : TypeId}{fuel : Nat}{cs : List Value}{r : DataW H × List MemPlace}(a : P.underlying t = some (.int .i64)) (h : DataW.trod enc P W 0 sp held fuel t cs = some r) : ∃ n, cs = [.int .i64 n]:= by
  obtain ⟨n, hc, -, -⟩ := DataW.trod_int a h;exact ⟨n, hc⟩
theorem SP {t : TypeId}{fuel : Nat}{cs : List Value}{r : DataW H × List MemPlace}(a : P.underlying t = some .string) (h : DataW.trod enc P W 0 sp held fuel t cs = some r) : ∃ s, cs = [S s]:= by
  obtain ⟨⟨⟨s⟩⟩, hc, -, -⟩ := DataW.trod_string a h;exact ⟨s, hc⟩
theorem Nw {a : Addr}{m : Nat}{cs : List Value}(h : W.cells? 0 a m = some cs) : cs.length = m ∧ ∀ i v, cs[i]? = some v → W.cell? (a.add i) = some v := by
  unfold World.cells? at h;rw [if_pos (Nat.zero_le _)] at h;have b := mapM_some_length h;refine ⟨by simpa using b, fun i v Pa => ?_⟩;have c : i < m := by have := (List.getElem?_eq_some_iff.1 Pa).1;rw [b] at this;simpa using this
  rw [← Pa];exact mapM_some_get h i i (by simp [c])
theorem sM {α : Type}[Ja α]{fuel : Nat}{T e : TypeId}{cs : List Value}{r : DataW H × List MemPlace}(hu : P.underlying T = some (.slice e)) (hm : P.cellsOf e = Ja.sz α) (t : Su W μ) (h : DataW.trod enc P W 0 sp held fuel T cs = some r)
    (u : ∀ n cs r', n < fuel → DataW.trod enc P W 0 sp held n e cs = some r' → ∃ x : α, Ja.cs μ cs x) : ∃ (a : Option Addr) (c : Nat) (l : List α), cs = [.slice a l.length c] ∧ Da μ a c l := by
  rcases DataW.trod_slice hu h with ⟨rfl, -⟩ | ⟨a, len, cap, elems, rest, n, rfl, rfl, -, -, K, m, L, z, -⟩
  · exact ⟨none, 0, [], rfl, Da.nil⟩
  · rcases Nat.eq_zero_or_pos len with d | d
    · subst d;exact ⟨some a, cap, [], rfl, ⟨by simp, m, .inl rfl⟩⟩
    · have each : ∀ i, i < len → ∃ cs, cs.length = Ja.sz α ∧ (∀ j v, cs[j]? = some v → W.cell? ((a.add (i * Ja.sz α)).add j) = some v) ∧ ∃ x : α, Ja.cs μ cs x := by
        intro i Pa;have he := z i Pa;rw [hm] at he;obtain ⟨y, A⟩ : ∃ y, elems[i]? = some y := ⟨_, List.getElem?_eq_getElem (by omega)⟩;rw [A] at he;cases hc : W.cells? 0 (a.add (i * Ja.sz α)) (Ja.sz α) with
        | none => rw [hc] at he; cases he
        | some cs =>
          rw [hc] at he;exact ⟨cs, (Nw hc).1, (Nw hc).2, u n cs y (Nat.lt_succ_self _) he⟩
      have p : a.spot = none := by
        obtain ⟨cs, M, hc, -⟩ := each 0 d;have N := Ja.pos (α := α);obtain ⟨v, Wa⟩ : ∃ v, cs[0]? = some v := ⟨_, List.getElem?_eq_getElem (by omega)⟩;have := hc 0 v Wa;cases hs : a.spot with
        | none => rfl
        | some q =>
          have e : ((a.add (0 * Ja.sz α)).add 0).spot = some q := by simp [Addr.add, hs]
          unfold World.cell? at this;rw [e] at this;simp at this;split at this<;>cases this
      obtain ⟨b, o, s⟩ := a;simp only at p;subst p;have B : ∃ g : Nat → List Value, ∃ f : Nat → α, ∀ i, i < len → (∀ j v, (g i)[j]? = some v → W.cell? (((⟨b, o, none⟩ : Addr).add (i * Ja.sz α)).add j) = some v) ∧ Ja.cs μ (g i) (f i):= by
        have ne : Nonempty α := by obtain ⟨_, -, -, x, -⟩ := each 0 d;exact ⟨x⟩
        refine ⟨fun i => if Pa : i < len then Classical.choose (each i Pa) else [], fun i => if Pa : i < len then Classical.choose (Classical.choose_spec (each i Pa)).2.2 else Classical.choice ne, fun i Pa => ?_⟩;simp only [dif_pos Pa];exact ⟨(Classical.choose_spec (each i Pa)).2.1, Classical.choose_spec (Classical.choose_spec (each i Pa)).2.2⟩
      obtain ⟨g, f, C⟩ := B;refine ⟨some ⟨b, o, none⟩, cap, (List.range' 0 len).map f, by simp, ⟨by simp;omega, m, .inr ⟨b, o, rfl, g, fun i x k => ?_⟩⟩⟩;have Pa : i < len := by
        have := (List.getElem?_eq_some_iff.1 k).1;simpa using this
      have D : x = f i := by
        rw [List.getElem?_map, List.getElem?_range' Pa] at k;simpa using k.symm
      obtain ⟨k1, F⟩ := C i Pa;rw [D];refine ⟨fun w hw j v G => ?_, F⟩;have := k1 j v G;rw [Oj, Oj] at this;exact It this (t w hw)
def Ni (P : Program) (T : TypeId) (d : DataW H) : Prop := ∀ n ∈ d.weights P T, n ≤ reachBytes
theorem gI {α β : Type}{f : α → Option β} : ∀ {l : List α}{ys : List β}, l.mapM f = some ys → ys.length = l.length ∧ ∀ (i : Nat) (x : α), l[i]? = some x → ∃ y, ys[i]? = some y ∧ f x = some y := by
  intro l
  induction l with
  | nil => intro ys h; cases h; exact ⟨rfl, fun i x c => by simp at c⟩
  | cons a l g =>
    intro ys h;rw [List.mapM_cons] at h;cases d : f a with
    | none => rw [d] at h; cases h
    | some b =>
      rw [d] at h;cases e : l.mapM f with
      | none => rw [e] at h; cases h
      | some Jc =>
        rw [e] at h;cases h;obtain ⟨j, k⟩ := g e;refine ⟨by simp [j], fun i x c => ?_⟩;cases i with
        | zero => cases c; exact ⟨b, rfl, d⟩
        | succ i => exact k i x c
theorem JD {T : TypeId}{Vf : List (TypeId × Nat)}{n fuel : Nat}{cs : List Value}{r : DataW H × List MemPlace}(hs : ff P T Vf n) (h : DataW.trod enc P W 0 sp held (fuel + 1) T cs = some r) (d : Ni P T r.1) :
    cs.length = n ∧ ∀ (i : Nat) (p : TypeId × Nat), Vf[i]? = some p → ∃ r', DataW.trod enc P W 0 sp held fuel p.1 ((cs.drop p.2).take (P.cellsOf p.1)) = some r' ∧ Ni P p.1 r'.1 := by
  obtain ⟨fs, hu, e, hc⟩ := hs.out;by_cases a : cs.length = P.cellsOf T
  · refine ⟨a.trans hc, ?_⟩;have g : ∃ ys, fs.toList.mapM (fun f => DataW.trod enc P W 0 sp held fuel f.type ((cs.drop f.offset).take (P.cellsOf f.type))) = some ys ∧ r.1 = .agg (ys.map (·.1)):= by
      unfold DataW.trod at h;simp only [hu, a, if_true] at h;cases hm : fs.toList.mapM (fun f => DataW.trod enc P W 0 sp held fuel f.type ((cs.drop f.offset).take (P.cellsOf f.type))) with
      | none => rw [hm] at h; cases h
      | some ys => rw [hm] at h; cases h; exact ⟨ys, rfl, rfl⟩
    obtain ⟨ys, l, m⟩ := g;obtain ⟨m1, m2⟩ := gI l;intro i p b;rw [← e, List.getElem?_map] at b;obtain ⟨f, c, rfl⟩ := Option.map_eq_some_iff.1 b;obtain ⟨y, o, q⟩ := m2 i f c;refine ⟨y, q, fun k s => d k ?_⟩;rw [m, DataW.weights, hu];exact DataW.weights_mem_each (j := i) (by rw [List.getElem?_map, c];rfl) (by rw [List.getElem?_map, o];rfl) k s
  · unfold DataW.trod at h;simp only [hu, a, if_false] at h;cases h
theorem dB {e : TypeId} : ∀ {ds : List (DataW H)}{i : Nat}{d : DataW H}, ds[i]? = some d → ∀ n ∈ d.weights P e, n ∈ DataW.weightsAll P e ds
  | d0 :: ds, 0, d, h, n, a => by
    cases h;rw [DataW.weightsAll];exact List.mem_append.2 (.inl a)
  | d0 :: ds, i + 1, d, h, n, a => by
    rw [DataW.weightsAll];exact List.mem_append.2 (.inr (dB (i := i) (by simpa using h) n a))
  | [], i, d, h, n, a => by simp at h
theorem vx {α : Type}[Ja α]{B : Nat}{Rz : α → Prop}{fuel : Nat}{T e : TypeId}{cs : List Value}{r : DataW H × List MemPlace}(hu : P.underlying T = some (.slice e)) (hm : P.cellsOf e = Ja.sz α) (U : reachBytes < (B + 1) * P.bytesOf e) (D : Su W μ) (h : DataW.trod enc P W 0 sp held fuel T cs = some r) (t : Ni P T r.1)
    (F : ∀ n cs r', n < fuel → DataW.trod enc P W 0 sp held n e cs = some r' → Ni P e r'.1 → ∃ x : α, Ja.cs μ cs x ∧ Rz x) : ∃ (a : Option Addr) (c : Nat) (l : List α), cs = [.slice a l.length c] ∧ Da μ a c l ∧ l.length ≤ B ∧ ∀ x ∈ l, Rz x := by
  rcases DataW.trod_slice hu h with ⟨rfl, -⟩ | ⟨a, len, cap, elems, rest, n, rfl, rfl, u, -, X, z, G, K, -⟩
  · exact ⟨none, 0, [], rfl, Da.nil, by simp, by simp⟩
  · have hw : (elems.length + rest.length) * P.bytesOf e ≤ reachBytes := t _ (by rw [u];simp [DataW.weights, hu]);have Y : len ≤ B := by
      rw [G] at hw;rcases Nat.lt_or_ge B len with c | c
      · have : (B + 1) * P.bytesOf e ≤ (len + rest.length) * P.bytesOf e := Nat.mul_le_mul_right _ (by omega);omega
      · exact c
    have L : ∀ (i : Nat) (y : DataW H × List MemPlace), elems[i]? = some y → Ni P e y.1 := fun i y m k M => t k (by
      rw [u];simp only [DataW.weights, hu];refine List.mem_cons_of_mem _ (List.mem_append.2 (.inl ?_));exact dB (i := i) (by rw [List.getElem?_map, m];rfl) k M)
    rcases Nat.eq_zero_or_pos len with p | p
    · subst p;exact ⟨some a, cap, [], rfl, ⟨by simp, z, .inl rfl⟩, by simp, by simp⟩
    · have each : ∀ i, i < len → ∃ cs, cs.length = Ja.sz α ∧ (∀ j v, cs[j]? = some v → W.cell? ((a.add (i * Ja.sz α)).add j) = some v) ∧ ∃ x : α, Ja.cs μ cs x ∧ Rz x := by
        intro i Pa;have he := K i Pa;rw [hm] at he;obtain ⟨y, m⟩ : ∃ y, elems[i]? = some y := ⟨_, List.getElem?_eq_getElem (by omega)⟩;rw [m] at he;cases hc : W.cells? 0 (a.add (i * Ja.sz α)) (Ja.sz α) with
        | none => rw [hc] at he; cases he
        | some cs =>
          rw [hc] at he;exact ⟨cs, (Nw hc).1, (Nw hc).2, F n cs y (Nat.lt_succ_self _) he (L i y m)⟩
      have A : a.spot = none := by
        obtain ⟨cs, Z, hc, -⟩ := each 0 p;have gc := Ja.pos (α := α);obtain ⟨v, Wa⟩ : ∃ v, cs[0]? = some v := ⟨_, List.getElem?_eq_getElem (by omega)⟩;have := hc 0 v Wa;cases hs : a.spot with
        | none => rfl
        | some q =>
          have e : ((a.add (0 * Ja.sz α)).add 0).spot = some q := by simp [Addr.add, hs]
          unfold World.cell? at this;rw [e] at this;simp at this;split at this<;>cases this
      obtain ⟨b, o, s⟩ := a;simp only at A;subst A;have N : ∃ g : Nat → List Value, ∃ f : Nat → α, ∀ i, i < len → (∀ j v, (g i)[j]? = some v → W.cell? (((⟨b, o, none⟩ : Addr).add (i * Ja.sz α)).add j) = some v) ∧ Ja.cs μ (g i) (f i) ∧ Rz (f i):= by
        have ne : Nonempty α := by obtain ⟨_, -, -, x, -⟩ := each 0 p;exact ⟨x⟩
        refine ⟨fun i => if Pa : i < len then Classical.choose (each i Pa) else [], fun i => if Pa : i < len then Classical.choose (Classical.choose_spec (each i Pa)).2.2 else Classical.choice ne, fun i Pa => ?_⟩;simp only [dif_pos Pa];exact ⟨(Classical.choose_spec (each i Pa)).2.1, Classical.choose_spec (Classical.choose_spec (each i Pa)).2.2⟩
      obtain ⟨g, f, C⟩ := N;refine ⟨some ⟨b, o, none⟩, cap, (List.range' 0 len).map f, by simp, ⟨by simp;omega, z, .inr ⟨b, o, rfl, g, fun i x d => ?_⟩⟩, by simp;omega, fun x d => ?_⟩
      · have Pa : i < len := by
          have := (List.getElem?_eq_some_iff.1 d).1;simpa using this
        have O : x = f i := by
          rw [List.getElem?_map, List.getElem?_range' Pa] at d;simpa using d.symm
        obtain ⟨k1, Q, -⟩ := C i Pa;rw [O];refine ⟨fun w hw j v R => ?_, Q⟩;have := k1 j v R;rw [Oj, Oj] at this;exact It this (D w hw)
      · obtain ⟨i, Pa, rfl⟩ := List.mem_map.1 d;have S : i < len := by simpa using (List.mem_range'_1.1 Pa).2
        exact (C i S).2.2
theorem nm {t : TypeId}{fuel : Nat}{cs : List Value}{r : DataW H × List MemPlace}(a : P.underlying t = some (.int .i64)) (h : DataW.trod enc P W 0 sp held fuel t cs = some r) : ∃ n, cs = [.int .i64 n] ∧ Ag n := by
  obtain ⟨n, hc, -, hw⟩ := DataW.trod_int a h;refine ⟨n, hc, ?_⟩;unfold Lit.wf at hw;simp only [Bool.and_eq_true, decide_eq_true_eq] at hw;exact hw
structure av (P : Program) (eh jo Xn dm Yn fm Zn Hl ao tp : TypeId) : Prop where
  i : P.underlying eh = some (.int .i64)
  n : P.underlying jo = some (.int .i64)
  is : P.underlying Xn = some (.slice eh)
  b : ff P dm [(eh, 0), (eh, 1)] 2
  Jc : P.underlying Yn = some (.slice dm)
  c : ff P fm [(eh, 0), (eh, 1), (jo, 2)] 3
  cs : P.underlying Zn = some (.slice fm)
  u : ff P Hl [(eh, 0), (eh, 1), (Xn, 2), (eh, 3), (eh, 4), (Zn, 5)] 6
  us : P.underlying ao = some (.slice Hl)
  m : ff P tp [(Yn, 0), (ao, 1)] 2
  one : P.cellsOf eh = 1 ∧ P.cellsOf jo = 1 ∧ P.cellsOf Xn = 1 ∧ P.cellsOf Yn = 1 ∧ P.cellsOf Zn = 1 ∧ P.cellsOf ao = 1
structure aB (P : Program) (eh dm fm Hl : TypeId) : Prop where
  i : P.bytesOf eh = 8
  b : P.bytesOf dm = 16
  c : P.bytesOf fm = 24
  u : P.bytesOf Hl = 80
variable {eh jo Xn dm Yn fm Zn Hl ao tp : TypeId}
theorem tM (L : av P eh jo Xn dm Yn fm Zn Hl ao tp){fuel : Nat}{cs : List Value}{r : DataW H × List MemPlace}(h : DataW.trod enc P W 0 sp held fuel dm cs = some r) : ∃ x : np, Ja.cs μ cs x ∧ Tu x := by
  cases fuel with
  | zero => cases h
  | succ fuel =>
    obtain ⟨f, c⟩ := EA L.b h;obtain ⟨_, d⟩ := c (eh, 0) (by simp);obtain ⟨_, e⟩ := c (eh, 1) (by simp);simp only [L.one] at d e
    match cs, f with
    | [a, b], _ =>
      obtain ⟨k, Ib, j⟩ := nm L.i d;obtain ⟨g, ra, l⟩ := nm L.i e;simp at Ib ra;subst Ib;subst ra;exact ⟨⟨k, g⟩, rfl, j, l⟩
theorem uM (L : av P eh jo Xn dm Yn fm Zn Hl ao tp){fuel : Nat}{cs : List Value}{r : DataW H × List MemPlace}(h : DataW.trod enc P W 0 sp held fuel fm cs = some r) : ∃ x : ud, Ja.cs μ cs x ∧ WA x := by
  cases fuel with
  | zero => cases h
  | succ fuel =>
    obtain ⟨m, d⟩ := EA L.c h;obtain ⟨_, e⟩ := d (eh, 0) (by simp);obtain ⟨_, f⟩ := d (eh, 1) (by simp);obtain ⟨_, j⟩ := d (jo, 2) (by simp);simp only [L.one] at e f j
    match cs, m with
    | [a, b, c], _ =>
      obtain ⟨k, Ib, o⟩ := nm L.i e;obtain ⟨g, ra, p⟩ := nm L.i f;obtain ⟨q, l, r2⟩ := nm L.n j;simp at Ib ra l;subst Ib;subst ra;subst l;exact ⟨⟨k, g, q⟩, rfl, o, p, r2⟩
theorem vM (L : av P eh jo Xn dm Yn fm Zn Hl ao tp) (Z : aB P eh dm fm Hl) (j : Su W μ){fuel : Nat}{cs : List Value}{r : DataW H × List MemPlace}(h : DataW.trod enc P W 0 sp held fuel Hl cs = some r) (z : Ni P Hl r.1) : ∃ x : Xc, Ja.cs μ cs x ∧ XA x := by
  cases fuel with
  | zero => cases h
  | succ fuel =>
    obtain ⟨A, g⟩ := JD L.u h z;obtain ⟨_, l, -⟩ := g 0 (eh, 0) rfl;obtain ⟨_, m, -⟩ := g 1 (eh, 1) rfl;obtain ⟨_, o, z2⟩ := g 2 (Xn, 2) rfl;obtain ⟨_, p, -⟩ := g 3 (eh, 3) rfl;obtain ⟨_, q, -⟩ := g 4 (eh, 4) rfl;obtain ⟨_, s, z5⟩ := g 5 (Zn, 5) rfl;simp only [L.one] at l m o p q s
    match cs, A with
    | [a, b, c, d, e, f], _ =>
      obtain ⟨k0, Ib, C⟩ := nm L.i l;obtain ⟨k1, ra, D⟩ := nm L.i m;obtain ⟨a2, F, G, t, m2, s2, g2⟩ := vx (α := Int) (B := 17592186044416) (Rz := Ag) L.is L.one.1 (by rw [Z.i];decide) j o z2 fun n cs r' _ h _ => by
        obtain ⟨k, e, r⟩ := nm L.i h;exact ⟨k, e, r⟩
      obtain ⟨K, v, M⟩ := nm L.i p;obtain ⟨N, w, O⟩ := nm L.i q;obtain ⟨a5, Q, R, y, m5, S, g5⟩ := vx (α := ud) (B := 17592186044416) (Rz := WA) L.cs L.c.size (by rw [Z.c];decide) j s z5 fun n cs r' _ h _ => uM L h;simp at Ib ra t v w y;subst Ib;subst ra;subst t;subst v;subst w;subst y;exact ⟨⟨k0, k1, G, K, N, R⟩, ⟨a2, F, a5, Q, rfl, m2, m5⟩, C, D, M, O, ⟨s2, g2⟩, S, g5⟩
theorem sL (L : av P eh jo Xn dm Yn fm Zn Hl ao tp) (Z : aB P eh dm fm Hl) (f : Su W μ){v : Value}{d : DataW H}{kd : List MemPlace}(h : DataW.Trod enc P W 0 sp held tp v d kd) (q : Ni P tp d) (Wa : ∃ cs, v = .agg cs) : ∃ (a b : Option Addr) (c c' : Nat) (m : sb), v = .agg ⟨[.slice a m.sc.length c, .slice b m.Ya.length c']⟩ ∧ Da μ a c m.sc ∧ Da μ b c' m.Ya ∧ Xx m := by
  obtain ⟨cs, rfl⟩ := Wa;obtain ⟨fuel, h⟩ := h;cases fuel with
  | zero => cases h
  | succ fuel =>
    obtain ⟨r, i⟩ := JD L.m h q;obtain ⟨_, j, z0⟩ := i 0 (Yn, 0) rfl;obtain ⟨_, o, t⟩ := i 1 (ao, 1) rfl;simp only [L.one] at j o;obtain ⟨cs⟩ := cs
    match cs, r with
    | [x, y], _ =>
      obtain ⟨a, c, l, e, k, s, g⟩ := vx (α := np) (B := 17592186044416) (Rz := Tu) L.Jc L.b.size (by rw [Z.b];decide) f j z0 fun n cs r' _ h _ => tM L h;obtain ⟨w, c', A, p, C, D, F⟩ := vx (α := Xc) (B := 17592186044416) (Rz := XA) L.us L.u.size (by rw [Z.u];decide) f o t fun n cs r' _ h z => vM L Z f h z;simp [Value.cells] at e p;subst e;subst p;exact ⟨a, w, c, c', ⟨l, A⟩, rfl, k, C, ⟨s, g⟩, D, F⟩
theorem hI {i j : TypeId}(f : P.underlying eh = some (.int .i64) ∧ P.cellsOf eh = 1) (m : ff P i [(eh, 0), (eh, 1)] 2) (r : P.underlying j = some (.slice i)) (s : Su W μ){v : Value}{d : DataW H}{kd : List MemPlace}(h : DataW.Trod enc P W 0 sp held j v d kd) (Wa : v.cells.toList = [v]) : ∃ (a : Option Addr) (c : Nat) (l : List xi), v = .slice a l.length c ∧ Da μ a c l := by
  obtain ⟨fuel, h⟩ := h;obtain ⟨a, c, l, e, k⟩ := sM (α := xi) r m.size s h fun n cs r' _ h => by
    cases n with
    | zero => cases h
    | succ n =>
      obtain ⟨t, o⟩ := EA m h;obtain ⟨_, p⟩ := o (eh, 0) (by simp);obtain ⟨_, q⟩ := o (eh, 1) (by simp);simp only [f.2] at p q
      match cs, t with
      | [a, b], _ =>
        obtain ⟨k, Ib⟩ := ID f.1 p;obtain ⟨g, ra⟩ := ID f.1 q;simp at Ib ra;subst Ib;subst ra;exact ⟨⟨k, g⟩, rfl⟩
  rw [Wa] at e;cases e;exact ⟨a, c, l, rfl, k⟩
theorem KD {t : TypeId}{v : Value}{d : DataW H}{kd : List MemPlace}(a : P.underlying t = some (.int .i64)) (Wa : ∃ n, v = .int .i64 n) (h : DataW.Trod enc P W 0 sp held t v d kd) : ∃ n, v = .int .i64 n ∧ Ag n := by
  obtain ⟨n, rfl⟩ := Wa;obtain ⟨fuel, h⟩ := h;obtain ⟨k, e, r⟩ := nm a h;simp [Value.cells] at e;subst e;exact ⟨n, rfl, r⟩
theorem wM {ts us : List TypeId}{ds gs : List (DataW H)}(h : (DataW.weightsEach P (ts ++ us) (ds ++ gs)).all (· ≤ reachBytes) = true){j : Nat}{t : TypeId}{d : DataW H}(a : ts[j]? = some t) (Qa : ds[j]? = some d) : Ni P t d := by
  intro n b;refine of_decide_eq_true (List.all_eq_true.1 h n (DataW.weights_mem_each (j := j) (t := t) (d := d) ?_ ?_ n b))
  · rw [List.getElem?_append_left (List.getElem?_eq_some_iff.1 a).1];exact a
  · rw [List.getElem?_append_left (List.getElem?_eq_some_iff.1 Qa).1];exact Qa
end
end Go.jc
namespace Go.Proofs.YtbhncpgjmkcdcaaGreatDoor.graphEnds
open Go.Ab Go.jc Go.Y Go.ChangeShapes Go.WideShapes Go.ChangeAt Go.RowKit
theorem xM {b : sb}{a0 f : Option Addr}{c0 d0 : Nat}{d : List xi}{pa : Option Addr}{c1 : Nat}{g : Int}{i : Int}(W : World) (j : uk (fun _ => True) W Cb) (m0 : Da (fun w => Cb w ∧ ∀ k, k < W.heap.size → w.heap[k]? = W.heap[k]?) a0 c0 b.sc) (de : Da (fun w => Cb w ∧ ∀ k, k < W.heap.size → w.heap[k]? = W.heap[k]?) f d0 b.Ya) (m1 : Da (fun w => Cb w ∧ ∀ k, k < W.heap.size → w.heap[k]? = W.heap[k]?) pa c1 d)   (l : Xt 1000000 b d g i = some true) :
    tb Tryz.prog 4 [.agg ⟨[.slice a0 b.sc.length c0, .slice f b.Ya.length d0]⟩, .slice pa d.length c1, .int .i64 g, .int .i64 i] W fun v w => v = .bool true ∧ Grow W w := by
  have m : ia (fun w => Cb w ∧ ∀ k, k < W.heap.size → w.heap[k]? = W.heap[k]?) W W []:= Sep.start W _ _ (j.and fun w' _ n k e => n k e trivial);refine (bG (fu := 1000000) (fun _ h => h.1) m0 de m1   l m).mono ?_;rintro v w' ⟨I, rfl, hle, c⟩;have e := hle _ c.a;exact ⟨rfl, c.keeps.os, c.keeps.tape, c.keeps.output, c.keeps.size, fun k o _ => e.2 k o⟩
theorem Sb : av Tryz.prog 3 2 39 107 22 122 64 66 23 25 := ⟨Tryz.underlying3, Tryz.underlying2, Tryz.underlying39, ⟨⟨_, Tryz.underlying107, by kernel_rfl, by kernel_rfl⟩⟩, Tryz.underlying22, ⟨⟨_, Tryz.underlying122, by kernel_rfl, by kernel_rfl⟩⟩, Tryz.underlying64, ⟨⟨_, Tryz.underlying66, by kernel_rfl, by kernel_rfl⟩⟩, Tryz.underlying23, ⟨⟨_, Tryz.underlying25, by kernel_rfl, by kernel_rfl⟩⟩, ⟨by kernel_rfl, by kernel_rfl, by kernel_rfl, by kernel_rfl, by kernel_rfl, by kernel_rfl⟩⟩
theorem eo : aB Tryz.prog 3 107 122 66 := ⟨by kernel_rfl, by kernel_rfl, by kernel_rfl, by kernel_rfl⟩
theorem XM : ff Tryz.prog 57 [(3, 0), (3, 1)] 2 := ⟨⟨_, Tryz.underlying57, by kernel_rfl, by kernel_rfl⟩⟩
theorem own : ownKnob Tryz.prog.godebug = none := by kernel_rfl
theorem laidOut : laidOutB Tryz.prog = true := by kernel_rfl
set_option maxRecDepth 100000 in
set_option maxHeartbeats 4000000 in
theorem iI (H : Type) (enc : TypeId × Value → H) (W : World) (base : Nat) (args : Array Value) (ds gs : List (DataW H)) (before : List MemPlace)
    (b : ∀ (j : Nat) t v, Tryz.f4.params[j]? = some t → args[j]? = some v → Value.okWide Tryz.prog W .any base t v)
    (n : DataW.Whole enc Tryz.prog Tryz.f4.params.toList Rows.graphEndsSpec.vars false W args.toList ds gs before) (B : ∀ (j : Nat) t d, Tryz.f4.params.toList[j]? = some t → ds[j]? = some d → Ni Tryz.prog t d) (C : W.ShapedOpen Tryz.prog) :
    Calls Tryz.prog 4 args W fun e o => ∃ v, e = .returned v ∧ Rows.graphEndsSpec.post enc Tryz.prog Tryz.f4 false true false false W args v o := by
  have l := n;obtain ⟨p, q, r, D, rfl, fd, id⟩ := n;have s : DataW.TrodAll enc Tryz.prog W 0 (fun _ => true) true Tryz.f4.params.toList args.toList ds p := r;rw [Tryz.params4] at s b;obtain ⟨v0, md, F, rd, ya, td, wd, rfl, rfl, u, G⟩ := trodAll_cons s;obtain ⟨v1, Fd, Id, be, Ia, ce, K, rfl, rfl, y, L⟩ := trodAll_cons G;obtain ⟨v2, ge, le, ne, Ta, Ne, M, rfl, rfl, z, r2⟩ := trodAll_cons L;obtain ⟨v3, of, wf, If, Qb, dg, N, rfl, rfl, A, O⟩ := trodAll_cons r2;obtain ⟨rfl, rfl, rfl⟩ := trodAll_nil O;try (obtain rfl := N)
  try (obtain rfl := M)
  try (obtain rfl := K)
  obtain rfl : args = #[v0, v1, v2, v3]:= by cases args;simp_all
  obtain ⟨rfl, rfl⟩ := trodVars_none D;clear r;simp only [List.append_nil] at l;have i := l.lt;obtain ⟨a0, rg, c0, d0, bi, Q, m0, de, R⟩ := sL (μ := (fun w => Cb w ∧ ∀ k, k < W.heap.size → w.heap[k]? = W.heap[k]?)) Sb eo (fun w h => h.2) u (B 0 25 F (by rw [Tryz.params4];rfl) rfl) (by obtain ⟨cs, h, -⟩ := okWide_struct Tryz.underlying25 (b 0 25 v0 rfl rfl);exact ⟨cs, h⟩);have S : v1.cells.toList = [v1]:= by obtain ⟨_, _, _, rfl⟩ := okWide_slice Tryz.underlying26 (b 1 26 v1 rfl rfl);rfl
  obtain ⟨pa, c1, T, U, m1⟩ := hI (μ := (fun w => Cb w ∧ ∀ k, k < W.heap.size → w.heap[k]? = W.heap[k]?)) ⟨Tryz.underlying3, by kernel_rfl⟩ XM Tryz.underlying26 (fun w h => h.2) y S;obtain ⟨X, Y, ci⟩ := KD Tryz.underlying3 (okWide_int Tryz.underlying3 (b 2 3 v2 rfl rfl)) z;obtain ⟨Z, gc, ii⟩ := KD Tryz.underlying3 (okWide_int Tryz.underlying3 (b 3 3 v3 rfl rfl)) A;obtain ⟨m, hm⟩ := cell_of_shapedOpen_int (P := Tryz.prog) (g := 2) (t := 3) (zero := #[.int .i64 0]) C (of_decide_eq_true (by kernel_rfl)) (by kernel_rfl) (by kernel_rfl) (by kernel_rfl) (by kernel_rfl) Tryz.underlying3;have hc : uk (fun _ => True) W Cb := fun w' _ lc => ⟨m, It hm fun k rc => lc k rc trivial⟩;have walk := (xM W hc m0 de m1   (nF (Xx.zero R) T X Z)).out;rw [← Q] at walk;rw [← U] at walk;rw [← Y] at walk;rw [← gc] at walk;refine walk.mono fun e o he => ?_;cases e with
  | panicked c => exact he.elim
  | outgrown => exact he.elim
  | returned v =>
    obtain ⟨rfl, f⟩ := he;exact ⟨_, rfl, _, _, _, [], _, [], l, trodAll_cons_mk (shut_bool Tryz.underlying4 _) trodAll_mk0, (trodAll_cons_mk (Below.trod laidOut (by kernel_rfl) (of_decide_eq_true (by kernel_rfl)) u f.below (fun x a => i x (by simp [a]))) (trodAll_cons_mk (Below.trod laidOut (by kernel_rfl) (of_decide_eq_true (by kernel_rfl)) y f.below (fun x a => i x (by simp [a]))) (trodAll_cons_mk (Below.trod laidOut (by kernel_rfl) (of_decide_eq_true (by kernel_rfl)) z f.below (fun x a => i x (by simp [a]))) (trodAll_cons_mk (Below.trod laidOut (by kernel_rfl) (of_decide_eq_true (by kernel_rfl)) A f.below (fun x a => i x (by simp [a]))) trodAll_mk0)))), rfl, f.below.frame _, fun h => by cases h⟩
theorem bN : (World.laidAll Tryz.prog default Rows.graphEndsRow.laid).os = default := World.laidAll_os _ _ _
set_option maxRecDepth 100000 in
theorem lifted (os : Os) (started : os.Started) (H : Type) (enc : TypeId × Value → H) (F : Stop.Interp) :
    ReturnsInHanded {} Tryz.checked os 4 .any ((OpenSpec.ofChange Rows.graphEndsSpec).preRow enc Tryz.prog Tryz.f4 Rows.graphEndsRow.domain false Rows.graphEndsRow.laid) (((OpenSpec.ofChange Rows.graphEndsSpec).at F).post enc Tryz.prog Tryz.f4 false true false false):= by
  have a : ∃ places, DataW.whole enc Tryz.prog ((World.laidAll Tryz.prog os Rows.graphEndsRow.laid).forCall (fun _ _ => 0) ⟨#[], #[.agg ⟨[.slice none 0 0, .slice none 0 0]⟩, .slice none 0 0, .int .i64 0, .int .i64 0], []⟩).memory Tryz.f4.params.toList Rows.graphEndsSpec.vars false (#[.agg ⟨[.slice none 0 0, .slice none 0 0]⟩, .slice none 0 0, .int .i64 0, .int .i64 0] : Array Value).toList 8 = some ([.agg [.nil, .nil], .nil, .lit (.int .i64 0), .lit (.int .i64 0)], [], places):= ⟨[], by kernel_rfl⟩;obtain ⟨places, a⟩ := a;have b : Input.okWideB Tryz.prog ((World.laidAll Tryz.prog os Rows.graphEndsRow.laid).forCall (fun _ _ => 0) ⟨#[], #[.agg ⟨[.slice none 0 0, .slice none 0 0]⟩, .slice none 0 0, .int .i64 0, .int .i64 0], []⟩) 4 ⟨#[], #[.agg ⟨[.slice none 0 0, .slice none 0 0]⟩, .slice none 0 0, .int .i64 0, .int .i64 0], []⟩ = true := by kernel_rfl
  refine returnsInHanded_of_row (C := Tryz.checked) (s := OpenSpec.ofChange Rows.graphEndsSpec) own started (by kernel_rfl) Tryz.func4
    ⟨World.laidAll Tryz.prog os Rows.graphEndsRow.laid, fun _ _ => 0, ⟨#[], #[.agg ⟨[.slice none 0 0, .slice none 0 0]⟩, .slice none 0 0, .int .i64 0, .int .i64 0], []⟩, World.laidAll_os _ _ _, World.shaped_of_ZipB (by kernel_rfl) (by kernel_rfl), (Input.okWide_of_okWideB (base := 0) b).1, (Input.okWide_of_okWideB b).2,
      OpenSpec.preRow_of_cond 8 a (by kernel_rfl) (fun k c => by cases c) (by kernel_rfl) (by rw [MakeChecks.laidMetH_plain _ _ _ (by kernel_rfl)];exact laidMet_laidAll _ (by kernel_rfl) (by kernel_rfl)), by
        simp only [Assume.holds];exact ⟨by simp, by simp, fun _ => Modest.zero, by simp, by simp⟩⟩ ?_
  intro W base args ds gs before e f _ c g l h _;exact iI H enc W base args ds gs before e f (fun j t d i Qa => wM g i Qa) h
theorem said : Rows.GraphEndsSaid :=
  OpenClaim.holds_of_cond 4 Tryz.f4 rfl rfl rfl rfl rfl rfl rfl ⟨rfl, rfl, rfl, rfl, rfl⟩ rfl rfl rfl rfl rfl (by kernel_rfl) Tryz.func4 (by kernel_rfl)
    (of_decide_eq_true (by kernel_rfl)) (by unfold Func.isWrapper;first | (rw [if_pos (by decide +kernel)];kernel_rfl) | (rw [if_neg (by decide +kernel)];exact ⟨rfl, rfl⟩))
    (fun os started H enc _ F => by rw [OpenClaim.pre_eq_preRow];exact lifted os started H enc F)
theorem plain (f : FuncId) (fn : Func) (b : Tryz.pinned.checked.prog.funcNamed Rows.graphEndsRow.func = some f) (c : Tryz.pinned.checked.prog.funcs[f]? = some fn) :
    true = Tryz.pinned.checked.prog.looks [] ∧ ∀ (j : Nat) t, fn.params[j]? = some t → Tryz.pinned.checked.prog.wantsStandIn t = false := by
  obtain rfl : f = 4 := Option.some.inj ((show Tryz.prog.funcNamed Rows.graphEndsRow.func = some 4 by kernel_rfl).symm.trans b) |>.symm;obtain rfl : fn = Tryz.f4 := (Option.some.inj (Tryz.func4.symm.trans c)).symm;refine ⟨by kernel_rfl, fun j t a => ?_⟩;rw [Tryz.params4] at a;have hm : t ∈ [3, 25, 26]:= by
    have := Array.mem_of_getElem? a;simp at this ⊢;rcases this with rfl | rfl | rfl | rfl<;>simp
  simp only [List.mem_cons, List.not_mem_nil, or_false] at hm;rcases hm with rfl | rfl | rfl
  · exact (show Tryz.prog.wantsStandIn 3 = false by kernel_rfl)
  · exact (show Tryz.prog.wantsStandIn 25 = false by kernel_rfl)
  · exact (show Tryz.prog.wantsStandIn 26 = false by kernel_rfl)
theorem card : Rows.GraphEndsCardSaid :=
  Claim7.holds_tied_plain_at .later [] _ _ _ _ said (fun _ h => by cases h) (by kernel_rfl) (fun _ h => by cases h) graphEnds_row_tie rfl ⟨rfl, rfl⟩ (by kernel_rfl) rfl plain (by kernel_rfl)
end Go.Proofs.YtbhncpgjmkcdcaaGreatDoor.graphEnds
