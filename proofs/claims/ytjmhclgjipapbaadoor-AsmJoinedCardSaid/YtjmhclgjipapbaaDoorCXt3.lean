/- Rows whose cells are turned; rows whose last element owns a row of its own. -/
import Derived.Test.YtjmhclgjipapbaaDoorCXt2
set_option linter.unusedSimpArgs false
set_option linter.unusedVariables false
set_option linter.unusedSectionVars false
namespace Go.Xt
open Go.Wk Go.RowKit
theorem cv_s {v : Value} {l : List Value} (h : cellV v = true) (k : l.all cellV = true) : (v :: l).all cellV = true := by simp [h, k]
theorem cv_z : ([] : List Value).all cellV = true := rfl
theorem drop_splice (A vs : List Value) (o q N : Nat) (h1 : q + vs.length ≤ N) (h2 : o + N ≤ A.length) : ((A.take (o + q) ++ vs ++ A.drop (o + q + vs.length)).drop o).take N = ((A.drop o).take N).take q ++ vs ++ ((A.drop o).take N).drop (q + vs.length) := by
  apply List.ext_getElem?
  intro j
  simp only [List.getElem?_take, List.getElem?_drop, List.getElem?_append, List.length_append, List.length_take, List.length_drop]
  have e1 : min (o + q) A.length = o + q := by omega
  have e2 : min q (min N (A.length - o)) = q := by omega
  rw [e1, e2]
  by_cases c1 : j < q
  · have c2 : j < N := by omega
    have c3 : j < q + vs.length := by omega
    simp [c1, c2, c3, show o + j < o + q by omega, show o + j < o + q + vs.length by omega]
  · by_cases c2 : j < q + vs.length
    · rw [if_pos (by omega), if_pos (by omega), if_neg (by omega), if_pos (by omega), if_neg (by omega)]
      congr 1; omega
    · by_cases c3 : j < N
      · rw [if_pos c3, if_neg (by omega), if_neg (by omega), if_pos (by omega)]
        congr 1; omega
      · rw [if_neg c3, if_neg (by omega), if_neg (by omega)]
section
variable {P : Program} {Q : Exit → Act → World → Prop} {K : List Value → List Deferred → World → Prop} {fr fr' : List Value} {ds : List Deferred} {w : World}
variable {dst : Option Tmp} {ty : TypeId} {pos : String} {after : Array Edge} {g : Option (Nat × Bool)}
variable {w0 : World} {rs rs' : List Res} {μ μ' : M}
variable {T : TypeId} {d : TypeDesc} {ag : Bool} {zc : List Value} {n m : Nat}
/-- A store into a row that is owned: the cells vs, from the element i on, off cells behind its first. -/
theorem s_storeR {x y : Operand} {b o off sz len k : Nat} {i : Int} {v vv : Value} {vs xs xs' : List Value} {Tr : TypeId} {S S0 : Nat → Prop} {A : World → Prop} (hT : TI P T ag zc n m) (hx : Ev fr x (.pointer (some ⟨b, o + off, none⟩))) (hy : Ev fr y vv) (hv : vv.cells = ⟨vs⟩) (hn : vs.length = n) (hvc : vs.all cellV = true)
    (hS : Sep S S0 w0 w rs A) (hl : Lk rs k (.row v Tr sz len xs)) (he : Elv v sz i b o) (hoff : off + vs.length ≤ sz) (hxs : xs.take (i.toNat * sz + off) ++ vs ++ xs.drop (i.toNat * sz + off + vs.length) = xs') (hp : Pt rs k (.row v Tr sz len xs') rs')
    (hd : Dt fr dst undef fr') (h : ∀ w', Sep S S0 w0 w' rs' A → K fr' ds w') : OW P (Oper.mk dst (.store T x y) ty pos after g) fr ds w K Q := by
  have hrow : Row w v Tr sz len xs := hS.get hl
  obtain ⟨o0, n0, c0, rfl, hi0, hin, rfl⟩ := he.out
  obtain ⟨hlen, h2⟩ := hrow
  rcases h2 with ⟨h2, -⟩ | ⟨g', o', cap, cur, h2, hg, hc1, hc2, hc3, hc4⟩
  · cases h2
  · cases h2
    have hi : i.toNat < len := by omega
    have hmul : (i.toNat + 1) * sz ≤ len * sz := Nat.mul_le_mul_right _ hi
    have hmul2 : len * sz ≤ c0 * sz := Nat.mul_le_mul_right _ hc1
    have hmul3 : (i.toNat + 1) * sz = i.toNat * sz + sz := Nat.succ_mul ..
    have hbk : Blk w b Tr cur.toList := hg
    have hle : (o0 + i.toNat * sz + off) + 0 + vs.length ≤ (⟨cur.toList⟩ : Array Value).size := by simp; omega
    have hr := run_storeCells_at P b (o0 + i.toNat * sz + off) Tr vs 0 ⟨cur.toList⟩ w hbk hle fun v hv => cell_one (List.all_eq_true.1 hvc v hv)
    have e1 : vv.cells.toList = vs := by rw [hv]
    have e2 : ¬ (vv.cells.size ≠ n) := by rw [hv]; simpa using hn
    have hT1 := hT.sizeOf (w := w)
    simp only [Nat.add_zero] at hr
    have hcl : Keeps (fun k => k ≠ b) w (w.setRow b (cur.toList.take (o0 + i.toNat * sz + off) ++ vs ++ cur.toList.drop (o0 + i.toNat * sz + off + vs.length)).toArray) := ⟨rfl, rfl, rfl, by simp [World.setRow], fun k hk hs => setRow_other w b k _ hs⟩
    refine op_u ?_ hd (h _ (hS.put (b := b) hl rfl rfl hp ?_ hcl))
    · simp only [execOp, Instr.storeAt, hx ds, hy ds, Instr.sureAddr, storeVar, Sem.run_bind, hT1, Result.andThen_ok, if_neg e2, e1, hr, Sem.run_pure]
    · subst hxs
      refine ⟨by simp [hlen]; omega, .inr ⟨b, o0, c0, _, rfl, setRow_heap w b ⟨cur.toList⟩ _ Tr (0, 0) hbk, hc1, hc2, ?_, ?_⟩⟩
      · simp; omega
      · subst hc4
        have := drop_splice cur.toList vs o0 (i.toNat * sz + off) (len * sz) (by omega) (by simp; omega)
        rw [← Nat.add_assoc] at this
        exact this

/-- A struct whose last cell is a slice. -/
class Lc (α β : Type) [Mo α] [Mo β] where
  code : α → List β
  set : α → List β → α
  hd : M → List Value → α → Prop
  up : ∀ {μ μ' : M} {l : List Value} {x : α}, Le μ μ' → hd μ l x → hd μ' l x
  ln : ∀ {μ : M} {l : List Value} {x : α}, hd μ l x → l.length + 1 = Mo.sz α
  wr : ∀ {μ : M} {l : List Value} {x : α} {ys : List β} {a : Option Addr} {c : Nat}, hd μ l x → Sl μ a c ys → Mo.cs μ (l ++ [.slice a ys.length c]) (set x ys)
  st : ∀ {μ : M} {l : List Value} {x : α} {ys : List β}, hd μ l x → hd μ l (set x ys)
  sc : ∀ {x : α}, set x (code x) = x
  cs : ∀ {x : α} {ys : List β}, code (set x ys) = ys
variable {α β : Type} [Mo α] [Mo β] [Lc α β]
def lcode (us : List α) : List β := (us.getLast?.map Lc.code).getD []
def uset (us : List α) (ys : List β) : List α := us.dropLast ++ (us.getLast?.map fun x => Lc.set x ys).toList
def Ru (μ : M) (cells : List Value) (cv : Value) (cc : List Value) (us : List α) : Prop :=
  (us = [] ∧ cells = [] ∧ cv = .slice none 0 0 ∧ cc = []) ∨ ∃ init last pc lc, us = init ++ [last] ∧ cells = pc ++ (lc ++ [cv]) ∧ Rw μ pc init ∧ Lc.hd β μ lc last ∧ Rw μ cc (Lc.code (β := β) last) ∧ cellV cv = true
variable (β) in
/-- The last one, opened. -/
def Uo (μ : M) (us : List α) (pc lc : List Value) (x : α) : Prop := ∃ init, us = init ++ [x] ∧ Rw μ pc init ∧ Lc.hd β μ lc x
theorem Ru.up {cells : List Value} {cv : Value} {cc : List Value} {us : List α} (h : Ru (β := β) μ cells cv cc us) (l : Le μ μ') : Ru (β := β) μ' cells cv cc us := by
  rcases h with h | ⟨init, last, pc, lc, h1, h2, h3, h4, h5, h6⟩
  · exact .inl h
  · exact .inr ⟨init, last, pc, lc, h1, h2, h3.up l, Lc.up l h4, h5.up l, h6⟩
theorem Ru.nil : Ru (α := α) (β := β) μ [] (.slice none 0 0) [] [] := .inl ⟨rfl, rfl, rfl, rfl⟩
theorem Uo.up {us : List α} {pc lc : List Value} {x : α} (h : Uo β μ us pc lc x) (l : Le μ μ') : Uo β μ' us pc lc x := by
  obtain ⟨init, h1, h2, h3⟩ := h; exact ⟨init, h1, h2.up l, Lc.up l h3⟩
@[simp] theorem lcode_app {init : List α} {x : α} : lcode (β := β) (init ++ [x]) = Lc.code x := by simp [lcode]
@[simp] theorem uset_app {init : List α} {x : α} {ys : List β} : uset (init ++ [x]) ys = init ++ [Lc.set x ys] := by simp [uset]
theorem _root_.Go.Wk.Sep.frzCode {cells cc : List Value} {cv : Value} {us : List α} {Tc : TypeId} (h : Sq μ w0 w (.row cv Tc (Mo.sz β) (lcode (β := β) us).length cc :: rs)) (hr : Ru (β := β) μ cells cv cc us) :
    ∃ μ', Le μ μ' ∧ Rw μ' cells us ∧ Sq μ' w0 w rs := by
  rcases hr with ⟨rfl, rfl, rfl, rfl⟩ | ⟨init, last, pc, lc, rfl, rfl, h3, h4, h5, h6⟩
  · exact ⟨μ, Le.r, Rw.nil, h.drop .z⟩
  · rw [lcode_app] at h
    obtain ⟨μ', a, c, rfl, hl, hs, h'⟩ := h.frzRow h5 rfl
    refine ⟨μ', hl, Rw.cat (Rw.one ?_) (h3.up hl), h'⟩
    have := Lc.wr (Lc.up hl h4) hs
    rwa [Lc.sc] at this
theorem Ru.open {cells cc : List Value} {cv : Value} {us : List α} {i : Int} {x : α} (h : Ru (β := β) μ cells cv cc us) (g : at_ us i = some x) (hi : i = us.length - 1) :
    ∃ pc lc, cells = pc ++ (lc ++ [cv]) ∧ Rw μ cc (Lc.code (β := β) x) ∧ lcode (β := β) us = Lc.code x ∧ Uo β μ us pc lc x ∧ cellV cv = true := by
  rcases h with ⟨rfl, rfl, rfl, rfl⟩ | ⟨init, last, pc, lc, rfl, rfl, h3, h4, h5, h6⟩
  · simp [at_] at g
  · have e : i.toNat = init.length := by simp at hi; omega
    have g2 := (at_eq g).2.2
    rw [e] at g2
    simp at g2
    subst g2
    exact ⟨pc, lc, rfl, h5, lcode_app, ⟨init, rfl, h3, h4⟩, h6⟩
theorem Uo.len {us : List α} {pc lc : List Value} {x : α} {i : Int} (h : Uo β μ us pc lc x) (g : at_ us i = some x) (hi : i = us.length - 1) : pc.length = i.toNat * Mo.sz α ∧ lc.length + 1 = Mo.sz α := by
  obtain ⟨init, rfl, h2, h3⟩ := h
  refine ⟨?_, Lc.ln h3⟩
  rw [h2.len]
  congr 1
  simp at hi; omega
theorem Uo.close {us : List α} {pc lc cc : List Value} {x : α} {v : Value} {ys : List β} (h : Uo β μ us pc lc x) (hc : Rw μ cc ys) (hv : cellV v = true) :
    Ru (β := β) μ (pc ++ (lc ++ [v])) v cc (uset us ys) ∧ lcode (uset us ys) = ys ∧ (uset us ys).length = us.length := by
  obtain ⟨init, rfl, h2, h3⟩ := h
  rw [uset_app]
  exact ⟨.inr ⟨init, _, pc, lc, rfl, rfl, h2, Lc.st h3, by rw [Lc.cs]; exact hc, hv⟩, by rw [lcode_app, Lc.cs], by simp⟩
/-- The slice of the last one. -/
theorem Row.lastCell {v cv : Value} {us : List α} {pc lc : List Value} {i : Int} {x : α} (h : Row w v T (Mo.sz α) us.length (pc ++ (lc ++ [cv]))) (hu : Uo β μ us pc lc x) (g : at_ us i = some x) (hi : i = us.length - 1) :
    ∃ b o, Elv v (Mo.sz α) i b o ∧ (∀ w T cv, Row w v T (Mo.sz α) us.length (pc ++ (lc ++ [cv])) → w.cell? ⟨b, o + lc.length, none⟩ = some cv) := by
  obtain ⟨h0, h1, h2⟩ := at_eq g
  obtain ⟨b, o, c, rfl, hc⟩ := h.some' (by omega)
  obtain ⟨e1, e2⟩ := hu.len g hi
  refine ⟨b, o + i.toNat * Mo.sz α, ⟨o, _, _, rfl, h0, h1, rfl⟩, fun w2 T2 cv2 hk => ?_⟩
  have := hk.at' (pc.length + lc.length) cv2 (by simp)
  rw [← e1, Nat.add_assoc]
  exact this
theorem row_set {pc lc : List Value} {cv v : Value} {k sz : Nat} (h1 : pc.length = k * sz) : (pc ++ (lc ++ [cv])).take (k * sz + lc.length) ++ [v] ++ (pc ++ (lc ++ [cv])).drop (k * sz + lc.length + [v].length) = pc ++ (lc ++ [v]) := by
  rw [← h1]
  have e1 : (pc ++ (lc ++ [cv])).take (pc.length + lc.length) = pc ++ lc := by
    rw [← List.append_assoc]; exact List.take_left' (by simp)
  have e2 : (pc ++ (lc ++ [cv])).drop (pc.length + lc.length + [v].length) = [] := List.drop_eq_nil_of_le (by simp; omega)
  rw [e1, e2]; simp
/-- A new one behind them, with nothing in it. -/
theorem Ru.push {cells lc : List Value} {us l' : List α} {x : α} (h : Rw μ cells us) (hx : Lc.hd β μ lc x) (hc : Lc.code (β := β) x = []) (g : app us [x] = some l') : Ru (β := β) μ (cells ++ (lc ++ [.slice none 0 0])) (.slice none 0 0) [] l' := by
  obtain ⟨rfl, -⟩ := app_eq g
  exact .inr ⟨us, x, cells, lc, rfl, rfl, h, hx, by rw [hc]; exact Rw.nil, rfl⟩
theorem lcode_push {us l' : List α} {x : α} (hc : Lc.code (β := β) x = []) (g : app us [x] = some l') : lcode (β := β) l' = [] := by
  obtain ⟨rfl, -⟩ := app_eq g
  rw [lcode_app, hc]
/-- The last one's slice is turned. -/
theorem s_storeU {x y : Operand} {b o off sz len k : Nat} {i : Int} {v vv cv : Value} {pc lc : List Value} {Tr : TypeId} {S S0 : Nat → Prop} {A : World → Prop} (hT : TI P T false zc 1 m) (hx : Ev fr x (.pointer (some ⟨b, o + off, none⟩))) (hy : Ev fr y vv) (hcv : cellV vv = true)
    (hS : Sep S S0 w0 w rs A) (hl : Lk rs k (.row v Tr sz len (pc ++ (lc ++ [cv])))) (he : Elv v sz i b o) (h1 : pc.length = i.toNat * sz ∧ lc.length + 1 = sz) (h2 : lc.length = off) (hp : Pt rs k (.row v Tr sz len (pc ++ (lc ++ [vv]))) rs')
    (hd : Dt fr dst undef fr') (h : ∀ w', Sep S S0 w0 w' rs' A → K fr' ds w') : OW P (Oper.mk dst (.store T x y) ty pos after g) fr ds w K Q := by
  subst h2
  exact s_storeR hT hx hy (cells_one hcv) rfl (by simp [hcv]) hS hl he (by simp; omega) (row_set h1.1) hp hd h
end
end Go.Xt

/- loads, ahead of what makes new memory -/
namespace Go.Wk
open Go.RowKit
section
variable {P : Program} {Q : Exit → Act → World → Prop} {ops : Array Oper} {fr fr' : List Value} {ds : List Deferred} {w : World}
def quietA (o : Op) : Bool := quiet o || (match o with | .alloc _ => true | _ => false)
theorem quietA_run {ρ : Operand → Value} {o : Oper} {w w' : World} {r : Next} (hq : quietA o.op = true) (h : (execOp ρ o).run P w = .ok r w') : Grow w w' ∧ ∃ v, r = .value v := by
  unfold quietA at hq
  by_cases hq1 : quiet o.op = true
  · obtain ⟨rfl, h2⟩ := quiet_run hq1 h
    exact ⟨.refl _, h2⟩
  · obtain ⟨dst, op, ty, pos, after, gd⟩ := o
    cases op <;> simp [hq1] at hq
    rename_i T
    simp only [execOp, Instr.alloc, zeroValue, Sem.run_bind] at h
    cases h1 : (typeInfo T).run P w with
    | halt e w1 => rw [h1] at h; cases h
    | ok i w1 =>
      have e1 := RO.typeInfo T w i w1 h1
      subst e1
      rw [h1] at h
      simp only [Result.andThen_ok] at h
      cases hz : i.zero with
      | none => rw [hz] at h; simp [unsupported] at h
      | some z =>
        rw [hz] at h
        simp [newVar, newRow] at h
        obtain ⟨rfl, rfl⟩ := h
        exact ⟨Grow.alloc _ _, _, rfl⟩
theorem simA (hQ : Blind Q) {i d : Nat} {o : Oper} {v : Value} (ho : ops[i]? = some o) (hd : o.dst = some d) {wt : Bool} (hun : wt = false → v = undef) {w0 : World} :
    ∀ (l1 l2 : List Nat) (fr : List Value) (ds : List Deferred) (w : World),
      (∀ j ∈ l1, match ops[j]? with
        | some p => noSel p.op = true ∧ (reads ops p).contains d = false ∧ p.dst ≠ some d ∧ (∀ e, p.dst = some e → (reads ops o).contains e = false) ∧ quietA p.op = true
        | none => True) →
      Grow w0 w → noSel o.op = true → Region.wanted o (yielded ops (F fr ds).tmps) = wt →
      (wt = true → ∀ ds w, Grow w0 w → (execOp (F fr ds).eval o).run P w = .ok (.value v) w) →
      wpOps P ops Q (l1 ++ l2) (F (fr.set d v) ds) w → wpOps P ops Q (l1 ++ i :: l2) (F fr ds) w
  | [], l2, fr, ds, w, _, hw, hno, hwt, hrun, h => by
    simp only [List.nil_append] at h ⊢
    simp only [wpOps, ho]
    cases wt with
    | true =>
      rw [if_pos hwt]
      left
      unfold Oper.wp
      rw [hrun rfl ds w hw, Oper.upon_value, hd]
      rw [show (F fr ds).put (some d) v = F (fr.set d v) ds from dt rfl ds]
      exact h
    | false =>
      rw [if_neg (by rw [hwt]; simp), hd, ← hun rfl]
      rw [show (F fr ds).put (some d) v = F (fr.set d v) ds from dt rfl ds]
      exact h
  | j :: l1, l2, fr, ds, w, hj, hw, hno, hwt, hrun, h => by
    have hj0 := hj j (by simp)
    have hj1 : ∀ k ∈ l1, _ := fun k hk => hj k (by simp [hk])
    simp only [List.cons_append, wpOps] at h ⊢
    cases hp : ops[j]? with
    | none =>
      rw [hp] at h
      simp only at h ⊢
      exact simA hQ ho hd hun l1 l2 fr ds w hj1 hw hno hwt hrun h
    | some p =>
      rw [hp] at h hj0
      simp only at h hj0 ⊢
      obtain ⟨hns, hrd, hpd, hpo, hqt⟩ := hj0
      rw [wanted_set (fr := fr) (v := v) (ds := ds) (ds' := ds) hrd] at h
      have key : ∀ (x : Value) (w' : World) (ds' : List Deferred), Grow w0 w' → wpOps P ops Q (l1 ++ l2) ((F (fr.set d v) ds').put p.dst x) w' → wpOps P ops Q (l1 ++ i :: l2) ((F fr ds').put p.dst x) w' := by
        intro x w' ds' hw' hk
        obtain ⟨g, g1, g2, g3⟩ := put_eq fr ds' p.dst x
        have hwt2 := wanted_put (ops := ops) (o := o) (p := p) (ds' := ds') (fun y hy => g3 fr y ds' ds' hy) hpo
        rw [g1] at hk ⊢
        rw [g2 _ _ _ hpd] at hk
        refine simA hQ ho hd hun l1 l2 (g fr) ds' w' hj1 hw' hno (hwt2.trans hwt) (fun ht ds2 w2 hw2 => ?_) hk
        rw [show execOp (F (g fr) ds2).eval o = execOp (F fr ds2).eval o from execOp_congr o hno fun y hy => g3 fr y ds2 ds2 fun e he hs => by
          exact reads_op (hpo e he) y hy hs]
        exact hrun ht ds2 w2 hw2
      by_cases hwt' : Region.wanted p (yielded ops (F fr ds).tmps) = true
      · rw [if_pos hwt'] at h ⊢
        rcases h with h | h
        · left
          unfold Oper.wp at h ⊢
          rw [exec_set (ds' := ds) hns hrd] at h
          cases hr : (execOp (F fr ds).eval p).run P w with
          | halt e w' =>
            rw [hr] at h
            cases e <;> first | exact h | exact hQ _ (F (fr.set d v) ds) _ w' rfl h
          | ok r w' =>
            rw [hr] at h
            have hw' : Grow w0 w' := hw.trans (quietA_run hqt hr).1
            cases r with
            | value x => exact key x w' ds hw' h
            | skip => exact key undef w' ds hw' h
            | defer dd => exact key undef w' (dd :: ds) hw' h
            | enter f args =>
              have hnrd : False := by obtain ⟨_, x, hx⟩ := quietA_run hqt hr; cases hx
              rw [Oper.upon_enter] at h ⊢
              refine Calls.mono h fun e w'' he => ?_
              cases e with
              | returned x => exact key x w'' ds hnrd.elim he
              | panicked ch => exact hQ ch (F (fr.set d v) ds) _ w'' rfl he
              | outgrown => exact he
            | row r args =>
              have hnrd : False := by obtain ⟨_, x, hx⟩ := quietA_run hqt hr; cases hx
              rw [Oper.upon_row] at h ⊢
              exact Rows.mono h fun x w'' he => key x w'' ds hnrd.elim he
            | _ => exact h
        · right
          refine ⟨?_, h.2⟩
          have h1 := h.1
          unfold Oper.asks at h1 ⊢
          rw [exec_set (ds' := ds) hns hrd] at h1
          exact h1
      · rw [if_neg hwt'] at h ⊢
        exact key undef w ds hw h
def apartA (ops : Array Oper) (S R : List Nat) (i : Nat) : Bool :=
  match ops[i]? with
  | some o => match o.dst with
    | some d => noSel o.op && R.all fun j => S.contains j || (match ops[j]? with
        | some p => noSel p.op && !(reads ops p).contains d && p.dst != some d && (match p.dst with | some e => !(reads ops o).contains e | none => true) && quietA p.op
        | none => true)
    | _ => false
  | none => false
theorem sc_firstA {R R' : List Nat} {i : Nat} (S : List Nat) {wt : Bool} {dst : Tmp} {op : Op} {ty : TypeId} {pos : String} {after : Array Edge} {gd : Option (Nat × Bool)} {v : Value} (hQ : Blind Q) (hnd : (decide R.Nodup && enabled ops R i && waits ops R S i && apartA ops S R i) = true) (hR : R.erase i = R') (ho : ops[i]? = some ⟨some dst, op, ty, pos, after, gd⟩)
    (hwt : Region.wanted ⟨some dst, op, ty, pos, after, gd⟩ (yielded ops (F fr ds).tmps) = wt) (hun : wt = false → v = undef)
    (hv : wt = true → ∀ ds w', Grow w w' → (execOp (F fr ds).eval ⟨some dst, op, ty, pos, after, gd⟩).run P w' = .ok (.value v) w') (hp : Pt fr dst v fr') (h : SC P ops Q R' fr' ds w) : SC P ops Q R fr ds w := ⟨fun π hπ => by
  simp only [Bool.and_eq_true, decide_eq_true_eq] at hnd
  obtain ⟨⟨⟨hn, hen⟩, hwa⟩, hap⟩ := hnd
  obtain ⟨l1, l2, rfl, h2, h3⟩ := hπ.split hn (enabled_mem hen) hen
  have hlat := LinExt.later (S := S) hπ hn (fun j hj => by
    unfold waits at hwa
    have := List.all_eq_true.1 hwa j hj
    simp only [Bool.or_eq_true, beq_iff_eq, List.any_eq_true, Bool.and_eq_true, List.contains_iff_mem] at this
    rcases this with h | ⟨k, k1, k2, k3⟩
    · exact .inl h
    · exact .inr ⟨k, k1, k2, k3⟩) l1 l2 rfl (fun hm => (h3 i hm).2.1 rfl)
  unfold apartA at hap
  simp only [ho, Bool.and_eq_true, List.all_eq_true, Bool.or_eq_true, List.contains_iff_mem] at hap
  unfold Pt at hp
  subst hp
  subst hR
  refine simA hQ ho rfl hun (w0 := w) (v := v) l1 l2 fr ds w (fun j hj => ?_) (.refl w) hap.1 hwt (fun a b c d => hv a b c d) (h.out _ h2)
  obtain ⟨a, b, c⟩ := h3 j hj
  have := hap.2 j a
  rcases this with h | h
  · exact absurd h (hlat j hj)
  · cases hp : ops[j]? with
    | none => trivial
    | some p =>
      rw [hp] at h
      simp only [Bool.and_eq_true, Bool.not_eq_true', bne_iff_ne, ne_eq] at h
      obtain ⟨⟨⟨⟨q1, q2⟩, q3⟩, q4⟩, q5⟩ := h
      refine ⟨q1, q2, q3, fun e he => ?_, q5⟩
      rw [he] at q4; simpa using q4⟩
theorem sc_rdA {R R' : List Nat} {i : Nat} (S : List Nat) {dst : Tmp} {op : Op} {ty : TypeId} {pos : String} {after : Array Edge} {v : Value} (hQ : Blind Q) (hnd : (decide R.Nodup && enabled ops R i && waits ops R S i && apartA ops S R i) = true) (hR : R.erase i = R') (ho : ops[i]? = some ⟨some dst, op, ty, pos, after, none⟩)
    (hv : ∀ w', Grow w w' → LU P ⟨some dst, op, ty, pos, after, none⟩ fr w' v) (hp : Pt fr dst v fr') (h : SC P ops Q R' fr' ds w) : SC P ops Q R fr ds w :=
  sc_firstA S (wt := true) hQ hnd hR ho (wanted_0 rfl) (fun h => by cases h) (fun _ ds w' hw => (hv w' hw).out ds) hp h
theorem sc_rdAY {R R' : List Nat} {i j d : Nat} {b : Bool} (S : List Nat) {dst : Tmp} {op : Op} {ty : TypeId} {pos : String} {after : Array Edge} {v : Value} (hQ : Blind Q) (hnd : (decide R.Nodup && enabled ops R i && waits ops R S i && apartA ops S R i) = true) (hR : R.erase i = R') (ho : ops[i]? = some ⟨some dst, op, ty, pos, after, some (j, b)⟩) (hj : (ops[j]?).bind (·.dst) = some d) (hl : Lk fr d (.bool b))
    (hv : ∀ w', Grow w w' → LU P ⟨some dst, op, ty, pos, after, some (j, b)⟩ fr w' v) (hp : Pt fr dst v fr') (h : SC P ops Q R' fr' ds w) : SC P ops Q R fr ds w :=
  sc_firstA S (wt := true) hQ hnd hR ho (wanted_t rfl hj hl) (fun h => by cases h) (fun _ ds w' hw => (hv w' hw).out ds) hp h
end
end Go.Wk

/- loads that float: over all that does not wait for them, as long as they say the same -/
namespace Go.Wk
open Go.RowKit
section
variable {P : Program} {Q : Exit → Act → World → Prop} {ops : Array Oper} {fr fr' : List Value} {ds : List Deferred} {w : World}
abbrev Mon := List Nat × (World → Prop)
def drp (i : Nat) (Ns : List Mon) : List Mon := Ns.filter fun m => !m.1.contains i
def Mons : List Mon → World → Prop
  | [], _ => True
  | m :: l, w => m.2 w ∧ Mons l w
theorem Mons.mem {Ns : List Mon} {w : World} : Mons Ns w ↔ ∀ m ∈ Ns, m.2 w := by
  induction Ns with
  | nil => simp [Mons]
  | cons m l ih => simp [Mons, ih]
theorem Mons.sub {Ns Ns' : List Mon} (h : Mons Ns w) (hs : ∀ m ∈ Ns', m ∈ Ns) : Mons Ns' w := Mons.mem.2 fun m hm => Mons.mem.1 h m (hs m hm)
theorem drp_sub {i : Nat} {Ns : List Mon} : ∀ m ∈ drp i Ns, m ∈ Ns := fun m hm => (List.mem_filter.1 hm).1
theorem drp_mono {i : Nat} {Ns Ns' : List Mon} (h : ∀ m ∈ Ns', m ∈ Ns) : ∀ m ∈ drp i Ns', m ∈ drp i Ns := fun m hm => List.mem_filter.2 ⟨h m (List.mem_filter.1 hm).1, (List.mem_filter.1 hm).2⟩
def wpOpsF (P : Program) (ops : Array Oper) (Q : Exit → Act → World → Prop) : List Mon → List Nat → Act → World → Prop
  | _, [], a, w => Q .normal a w
  | Ns, i :: rest, a, w =>
    match ops[i]? with
    | none => wpOpsF P ops Q (drp i Ns) rest a w
    | some o =>
      if Region.wanted o (yielded ops a.tmps) then o.wp P a w (fun a w => Mons (drp i Ns) w ∧ wpOpsF P ops Q (drp i Ns) rest a w) Q ∨ (o.asks P a w ∧ LetsOut Q)
      else wpOpsF P ops Q (drp i Ns) rest (a.put o.dst undef) w
theorem wp_imp {o : Oper} {a : Act} {K K' : Act → World → Prop} (h : o.wp P a w K Q) (hk : ∀ a w, K a w → K' a w) : o.wp P a w K' Q := by
  unfold Oper.wp at h ⊢
  cases hr : (execOp a.eval o).run P w with
  | halt e w' => rw [hr] at h; cases e <;> exact h
  | ok r w' =>
    rw [hr] at h
    cases r with
    | value x => exact hk _ _ h
    | skip => exact hk _ _ h
    | defer dd => exact hk _ _ h
    | enter f args =>
      rw [Oper.upon_enter] at h ⊢
      refine Calls.mono h fun e w'' he => ?_
      cases e with
      | returned x => exact hk _ _ he
      | panicked ch => exact he
      | outgrown => exact he
    | row r args =>
      rw [Oper.upon_row] at h ⊢
      exact Rows.mono h fun x w'' he => hk _ _ he
    | _ => exact h
theorem wpOpsF.mono : ∀ (π : List Nat) {Ns Ns' : List Mon} {a : Act} {w : World}, wpOpsF P ops Q Ns π a w → (∀ m ∈ Ns', m ∈ Ns) → wpOpsF P ops Q Ns' π a w
  | [], _, _, _, _, h, _ => h
  | i :: π, Ns, Ns', a, w, h, hs => by
    simp only [wpOpsF] at h ⊢
    cases ho : ops[i]? with
    | none => rw [ho] at h; exact wpOpsF.mono π h (drp_mono hs)
    | some o =>
      rw [ho] at h
      simp only at h ⊢
      split
      · rename_i hw
        rw [if_pos hw] at h
        rcases h with h | h
        · exact .inl (wp_imp h fun a w ⟨h1, h2⟩ => ⟨h1.sub (drp_mono hs), wpOpsF.mono π h2 (drp_mono hs)⟩)
        · exact .inr h
      · rename_i hw
        rw [if_neg hw] at h
        exact wpOpsF.mono π h (drp_mono hs)
theorem wpOpsF.plain : ∀ (π : List Nat) {Ns : List Mon} {a : Act} {w : World}, wpOpsF P ops Q Ns π a w → wpOps P ops Q π a w
  | [], _, _, _, h => h
  | i :: π, Ns, a, w, h => by
    simp only [wpOpsF] at h
    simp only [wpOps]
    cases ho : ops[i]? with
    | none => rw [ho] at h; exact wpOpsF.plain π h
    | some o =>
      rw [ho] at h
      simp only at h ⊢
      split
      · rename_i hw
        rw [if_pos hw] at h
        rcases h with h | h
        · exact .inl (wp_imp h fun a w ⟨_, h2⟩ => wpOpsF.plain π h2)
        · exact .inr h
      · rename_i hw
        rw [if_neg hw] at h
        exact wpOpsF.plain π h
theorem simF (hQ : Blind Q) {N : World → Prop} {S : List Nat} {i d : Nat} {o : Oper} {v : Value} (ho : ops[i]? = some o) (hd : o.dst = some d) {wt : Bool} (hun : wt = false → v = undef) :
    ∀ (l1 l2 : List Nat) (fr : List Value) (ds : List Deferred) (w : World) (Ns : List Mon),
      (∀ j ∈ l1, j ∉ S ∧ match ops[j]? with
        | some p => noSel p.op = true ∧ (reads ops p).contains d = false ∧ p.dst ≠ some d ∧ (∀ e, p.dst = some e → (reads ops o).contains e = false)
        | none => True) →
      N w → Mons Ns w → noSel o.op = true → Region.wanted o (yielded ops (F fr ds).tmps) = wt →
      (wt = true → ∀ ds w, N w → (execOp (F fr ds).eval o).run P w = .ok (.value v) w) →
      wpOpsF P ops Q ((S, N) :: Ns) (l1 ++ l2) (F (fr.set d v) ds) w → wpOpsF P ops Q Ns (l1 ++ i :: l2) (F fr ds) w
  | [], l2, fr, ds, w, Ns, _, hw, hM, hno, hwt, hrun, h => by
    simp only [List.nil_append] at h ⊢
    have h := wpOpsF.mono l2 h (Ns' := drp i Ns) fun m hm => List.mem_cons_of_mem _ (drp_sub m hm)
    simp only [wpOpsF, ho]
    cases wt with
    | true =>
      rw [if_pos hwt]
      left
      unfold Oper.wp
      rw [hrun rfl ds w hw, Oper.upon_value, hd]
      rw [show (F fr ds).put (some d) v = F (fr.set d v) ds from dt rfl ds]
      exact ⟨hM.sub drp_sub, h⟩
    | false =>
      rw [if_neg (by rw [hwt]; simp), hd, ← hun rfl]
      rw [show (F fr ds).put (some d) v = F (fr.set d v) ds from dt rfl ds]
      exact h
  | j :: l1, l2, fr, ds, w, Ns, hj, hw, hM, hno, hwt, hrun, h => by
    obtain ⟨hjS, hj0⟩ := hj j (by simp)
    have hj1 : ∀ k ∈ l1, _ := fun k hk => hj k (by simp [hk])
    have hdr : drp j ((S, N) :: Ns) = (S, N) :: drp j Ns := by simp [drp, hjS]
    simp only [List.cons_append, wpOpsF, hdr] at h ⊢
    cases hp : ops[j]? with
    | none =>
      rw [hp] at h
      simp only at h ⊢
      exact simF hQ ho hd hun l1 l2 fr ds w _ hj1 hw (hM.sub drp_sub) hno hwt hrun h
    | some p =>
      rw [hp] at h hj0
      simp only at h hj0 ⊢
      obtain ⟨hns, hrd, hpd, hpo⟩ := hj0
      rw [wanted_set (fr := fr) (v := v) (ds := ds) (ds' := ds) hrd] at h
      have key : ∀ (x : Value) (w' : World) (ds' : List Deferred), N w' → Mons (drp j Ns) w' → wpOpsF P ops Q ((S, N) :: drp j Ns) (l1 ++ l2) ((F (fr.set d v) ds').put p.dst x) w' → wpOpsF P ops Q (drp j Ns) (l1 ++ i :: l2) ((F fr ds').put p.dst x) w' := by
        intro x w' ds' hw' hM' hk
        obtain ⟨g, g1, g2, g3⟩ := put_eq fr ds' p.dst x
        have hwt2 := wanted_put (ops := ops) (o := o) (p := p) (ds' := ds') (fun y hy => g3 fr y ds' ds' hy) hpo
        rw [g1] at hk ⊢
        rw [g2 _ _ _ hpd] at hk
        refine simF hQ ho hd hun l1 l2 (g fr) ds' w' _ hj1 hw' hM' hno (hwt2.trans hwt) (fun ht ds2 w2 hw2 => ?_) hk
        rw [show execOp (F (g fr) ds2).eval o = execOp (F fr ds2).eval o from execOp_congr o hno fun y hy => g3 fr y ds2 ds2 fun e he hs => by
          exact reads_op (hpo e he) y hy hs]
        exact hrun ht ds2 w2 hw2
      by_cases hwt' : Region.wanted p (yielded ops (F fr ds).tmps) = true
      · rw [if_pos hwt'] at h ⊢
        rcases h with h | h
        · left
          unfold Oper.wp at h ⊢
          rw [exec_set (ds' := ds) hns hrd] at h
          cases hr : (execOp (F fr ds).eval p).run P w with
          | halt e w' =>
            rw [hr] at h
            cases e <;> first | exact h | exact hQ _ (F (fr.set d v) ds) _ w' rfl h
          | ok r w' =>
            rw [hr] at h
            cases r with
            | value x => exact ⟨h.1.2, key x w' ds h.1.1 h.1.2 h.2⟩
            | skip => exact ⟨h.1.2, key undef w' ds h.1.1 h.1.2 h.2⟩
            | defer dd => exact ⟨h.1.2, key undef w' (dd :: ds) h.1.1 h.1.2 h.2⟩
            | enter f args =>
              rw [Oper.upon_enter] at h ⊢
              refine Calls.mono h fun e w'' he => ?_
              cases e with
              | returned x => exact ⟨he.1.2, key x w'' ds he.1.1 he.1.2 he.2⟩
              | panicked ch => exact hQ ch (F (fr.set d v) ds) _ w'' rfl he
              | outgrown => exact he
            | row r args =>
              rw [Oper.upon_row] at h ⊢
              exact Rows.mono h fun x w'' he => ⟨he.1.2, key x w'' ds he.1.1 he.1.2 he.2⟩
            | _ => exact h
        · right
          refine ⟨?_, h.2⟩
          have h1 := h.1
          unfold Oper.asks at h1 ⊢
          rw [exec_set (ds' := ds) hns hrd] at h1
          exact h1
      · rw [if_neg hwt'] at h ⊢
        exact key undef w ds hw (hM.sub drp_sub) h
structure SF (P : Program) (ops : Array Oper) (Q : Exit → Act → World → Prop) (Ns : List Mon) (R : List Nat) (fr : List Value) (ds : List Deferred) (w : World) : Prop where
  out : Mons Ns w → ∀ π, LinExt ops R π → wpOpsF P ops Q Ns π (F fr ds) w
theorem sf_start {R : List Nat} (h : SF P ops Q [] R fr ds w) : SC P ops Q R fr ds w := ⟨fun π hπ => wpOpsF.plain π (h.out trivial π hπ)⟩
theorem sf_nil {Ns : List Mon} (h : Q .normal (F fr ds) w) : SF P ops Q Ns [] fr ds w := ⟨fun _ π hπ => by
  cases hπ with
  | z => exact h
  | s h _ => exact absurd (enabled_mem h) (by simp)⟩
def apartF (ops : Array Oper) (S R : List Nat) (i : Nat) : Bool :=
  match ops[i]? with
  | some o => match o.dst with
    | some d => noSel o.op && R.all fun j => S.contains j || (match ops[j]? with
        | some p => noSel p.op && !(reads ops p).contains d && p.dst != some d && (match p.dst with | some e => !(reads ops o).contains e | none => true)
        | none => true)
    | _ => false
  | none => false
theorem sf_float {Ns : List Mon} {R R' : List Nat} {i : Nat} (S : List Nat) (N : World → Prop) {wt : Bool} {dst : Tmp} {op : Op} {ty : TypeId} {pos : String} {after : Array Edge} {gd : Option (Nat × Bool)} {v : Value} (hQ : Blind Q) (hnd : (decide R.Nodup && enabled ops R i && waits ops R S i && apartF ops S R i && S.contains i) = true) (hR : R.erase i = R') (ho : ops[i]? = some ⟨some dst, op, ty, pos, after, gd⟩)
    (hwt : Region.wanted ⟨some dst, op, ty, pos, after, gd⟩ (yielded ops (F fr ds).tmps) = wt) (hun : wt = false → v = undef) (hN : N w)
    (hv : wt = true → ∀ ds w', N w' → (execOp (F fr ds).eval ⟨some dst, op, ty, pos, after, gd⟩).run P w' = .ok (.value v) w') (hp : Pt fr dst v fr') (h : SF P ops Q ((S, N) :: Ns) R' fr' ds w) : SF P ops Q Ns R fr ds w := ⟨fun hM π hπ => by
  simp only [Bool.and_eq_true, decide_eq_true_eq] at hnd
  obtain ⟨⟨⟨⟨hn, hen⟩, hwa⟩, hap⟩, -⟩ := hnd
  obtain ⟨l1, l2, rfl, h2, h3⟩ := hπ.split hn (enabled_mem hen) hen
  have hlat := LinExt.later (S := S) hπ hn (fun j hj => by
    unfold waits at hwa
    have := List.all_eq_true.1 hwa j hj
    simp only [Bool.or_eq_true, beq_iff_eq, List.any_eq_true, Bool.and_eq_true, List.contains_iff_mem] at this
    rcases this with h | ⟨k, k1, k2, k3⟩
    · exact .inl h
    · exact .inr ⟨k, k1, k2, k3⟩) l1 l2 rfl (fun hm => (h3 i hm).2.1 rfl)
  unfold apartF at hap
  simp only [ho, Bool.and_eq_true, List.all_eq_true, Bool.or_eq_true, List.contains_iff_mem] at hap
  unfold Pt at hp
  subst hp
  subst hR
  refine simF hQ ho rfl hun (N := N) (S := S) (v := v) l1 l2 fr ds w Ns (fun j hj => ⟨hlat j hj, ?_⟩) hN hM hap.1 hwt hv (h.out ⟨hN, hM⟩ _ h2)
  obtain ⟨a, b, c⟩ := h3 j hj
  have := hap.2 j a
  rcases this with h | h
  · exact absurd h (hlat j hj)
  · cases hp : ops[j]? with
    | none => trivial
    | some p =>
      rw [hp] at h
      simp only [Bool.and_eq_true, Bool.not_eq_true', bne_iff_ne, ne_eq] at h
      obtain ⟨⟨⟨q1, q2⟩, q3⟩, q4⟩ := h
      refine ⟨q1, q2, q3, fun e he => ?_⟩
      rw [he] at q4; simpa using q4⟩
/-- A load floats. -/
theorem sf_rd {Ns : List Mon} {R R' : List Nat} {i : Nat} (S : List Nat) {dst : Tmp} {op : Op} {ty : TypeId} {pos : String} {after : Array Edge} {v : Value} (hQ : Blind Q) (hnd : (decide R.Nodup && enabled ops R i && waits ops R S i && apartF ops S R i && S.contains i) = true) (hR : R.erase i = R') (ho : ops[i]? = some ⟨some dst, op, ty, pos, after, none⟩)
    (hv : LU P ⟨some dst, op, ty, pos, after, none⟩ fr w v) (hp : Pt fr dst v fr') (h : SF P ops Q ((S, fun w' => LU P ⟨some dst, op, ty, pos, after, none⟩ fr w' v) :: Ns) R' fr' ds w) : SF P ops Q Ns R fr ds w :=
  sf_float S _ (wt := true) hQ hnd hR ho (wanted_0 rfl) (fun h => by cases h) hv (fun _ ds w' hw => hw.out ds) hp h
theorem sf_rdY {Ns : List Mon} {R R' : List Nat} {i j d : Nat} {b : Bool} (S : List Nat) {dst : Tmp} {op : Op} {ty : TypeId} {pos : String} {after : Array Edge} {v : Value} (hQ : Blind Q) (hnd : (decide R.Nodup && enabled ops R i && waits ops R S i && apartF ops S R i && S.contains i) = true) (hR : R.erase i = R') (ho : ops[i]? = some ⟨some dst, op, ty, pos, after, some (j, b)⟩) (hj : (ops[j]?).bind (·.dst) = some d) (hl : Lk fr d (.bool b))
    (hv : LU P ⟨some dst, op, ty, pos, after, some (j, b)⟩ fr w v) (hp : Pt fr dst v fr') (h : SF P ops Q ((S, fun w' => LU P ⟨some dst, op, ty, pos, after, some (j, b)⟩ fr w' v) :: Ns) R' fr' ds w) : SF P ops Q Ns R fr ds w :=
  sf_float S _ (wt := true) hQ hnd hR ho (wanted_t rfl hj hl) (fun h => by cases h) hv (fun _ ds w' hw => hw.out ds) hp h
theorem wpOpsF.add {m : Mon} (hk : ∀ w, m.2 w) : ∀ (π : List Nat) {Ns : List Mon} {a : Act} {w : World}, wpOpsF P ops Q Ns π a w → wpOpsF P ops Q (m :: Ns) π a w
  | [], _, _, _, h => h
  | i :: π, Ns, a, w, h => by
    have hs : drp i (m :: Ns) = m :: drp i Ns ∨ drp i (m :: Ns) = drp i Ns := by
      unfold drp
      rw [List.filter_cons]
      split
      · exact .inl rfl
      · exact .inr rfl
    have key : ∀ {a w}, wpOpsF P ops Q (drp i Ns) π a w → wpOpsF P ops Q (drp i (m :: Ns)) π a w := fun h => by
      rcases hs with e | e <;> rw [e]
      · exact wpOpsF.add hk π h
      · exact h
    have km : ∀ {w}, Mons (drp i Ns) w → Mons (drp i (m :: Ns)) w := fun h => by
      rcases hs with e | e <;> rw [e]
      · exact ⟨hk _, h⟩
      · exact h
    simp only [wpOpsF] at h ⊢
    cases ho : ops[i]? with
    | none => rw [ho] at h; exact key h
    | some o =>
      rw [ho] at h
      simp only at h ⊢
      split
      · rename_i hw
        rw [if_pos hw] at h
        rcases h with h | h
        · exact .inl (wp_imp h fun a w ⟨h1, h2⟩ => ⟨km h1, key h2⟩)
        · exact .inr h
      · rename_i hw
        rw [if_neg hw] at h
        exact key h
theorem sf_add {Ns : List Mon} {m : Mon} {R : List Nat} (hk : ∀ w, m.2 w) (h : SF P ops Q Ns R fr ds w) : SF P ops Q (m :: Ns) R fr ds w := ⟨fun hM π hπ => wpOpsF.add hk π (h.out hM.2 π hπ)⟩
theorem sf_pu {Ns : List Mon} {R R' : List Nat} {i : Nat} (S : List Nat) {dst : Tmp} {op : Op} {ty : TypeId} {pos : String} {after : Array Edge} {v : Value} (hQ : Blind Q) (hnd : (decide R.Nodup && enabled ops R i && waits ops R S i && apartF ops S R i && S.contains i) = true) (hR : R.erase i = R') (ho : ops[i]? = some ⟨some dst, op, ty, pos, after, none⟩)
    (hv : PU P ⟨some dst, op, ty, pos, after, none⟩ fr v) (hp : Pt fr dst v fr') (h : SF P ops Q Ns R' fr' ds w) : SF P ops Q Ns R fr ds w :=
  sf_float S (fun _ => True) (wt := true) hQ hnd hR ho (wanted_0 rfl) (fun h => by cases h) trivial (fun _ ds w' _ => hv.out ds w') hp (sf_add (fun _ => trivial) h)
theorem sf_puY {Ns : List Mon} {R R' : List Nat} {i j d : Nat} {b : Bool} (S : List Nat) {dst : Tmp} {op : Op} {ty : TypeId} {pos : String} {after : Array Edge} {v : Value} (hQ : Blind Q) (hnd : (decide R.Nodup && enabled ops R i && waits ops R S i && apartF ops S R i && S.contains i) = true) (hR : R.erase i = R') (ho : ops[i]? = some ⟨some dst, op, ty, pos, after, some (j, b)⟩) (hj : (ops[j]?).bind (·.dst) = some d) (hl : Lk fr d (.bool b))
    (hv : PU P ⟨some dst, op, ty, pos, after, some (j, b)⟩ fr v) (hp : Pt fr dst v fr') (h : SF P ops Q Ns R' fr' ds w) : SF P ops Q Ns R fr ds w :=
  sf_float S (fun _ => True) (wt := true) hQ hnd hR ho (wanted_t rfl hj hl) (fun h => by cases h) trivial (fun _ ds w' _ => hv.out ds w') hp (sf_add (fun _ => trivial) h)
theorem sf_puN {Ns : List Mon} {R R' : List Nat} {i j d : Nat} {b b' : Bool} (S : List Nat) {dst : Tmp} {op : Op} {ty : TypeId} {pos : String} {after : Array Edge} (hQ : Blind Q) (hnd : (decide R.Nodup && enabled ops R i && waits ops R S i && apartF ops S R i && S.contains i) = true) (hR : R.erase i = R') (ho : ops[i]? = some ⟨some dst, op, ty, pos, after, some (j, b)⟩) (hj : (ops[j]?).bind (·.dst) = some d) (hl : Lk fr d (.bool b')) (hb : (b' == b) = false)
    (hp : Pt fr dst undef fr') (h : SF P ops Q Ns R' fr' ds w) : SF P ops Q Ns R fr ds w :=
  sf_float S (fun _ => True) (wt := false) hQ hnd hR ho ((wanted_y rfl hj hl).trans hb) (fun _ => rfl) trivial (fun h => by cases h) hp (sf_add (fun _ => trivial) h)
theorem sf_puU {Ns : List Mon} {R R' : List Nat} {i j d : Nat} {b : Bool} (S : List Nat) {dst : Tmp} {op : Op} {ty : TypeId} {pos : String} {after : Array Edge} (hQ : Blind Q) (hnd : (decide R.Nodup && enabled ops R i && waits ops R S i && apartF ops S R i && S.contains i) = true) (hR : R.erase i = R') (ho : ops[i]? = some ⟨some dst, op, ty, pos, after, some (j, b)⟩) (hj : (ops[j]?).bind (·.dst) = some d) (hl : Lk fr d undef)
    (hp : Pt fr dst undef fr') (h : SF P ops Q Ns R' fr' ds w) : SF P ops Q Ns R fr ds w :=
  sf_float S (fun _ => True) (wt := false) hQ hnd hR ho (wanted_u rfl hj hl) (fun _ => rfl) trivial (fun h => by cases h) hp (sf_add (fun _ => trivial) h)
/-- What comes behind an operation: what floats says the same. -/
structure KF (P : Program) (ops : Array Oper) (Q : Exit → Act → World → Prop) (Ns : List Mon) (R : List Nat) (fr : List Value) (ds : List Deferred) (w : World) : Prop where
  m : Mons Ns w
  s : SF P ops Q Ns R fr ds w
theorem Mons.s {m : Mon} {l : List Mon} (h : m.2 w) (k : Mons l w) : Mons (m :: l) w := ⟨h, k⟩
theorem Mons.z : Mons [] w := trivial
theorem sf_all {Ns : List Mon} {R : List Nat} (h0 : R ≠ []) (h : ∀ i ∈ nexts ops R, ∃ o, ops[i]? = some o ∧ Region.wanted o (yielded ops (F fr ds).tmps) = true ∧ OW P o fr ds w (KF P ops Q (drp i Ns) (R.erase i)) Q) : SF P ops Q Ns R fr ds w := ⟨fun hM π hπ => by
  cases hπ with
  | z => exact absurd rfl h0
  | @s _ π i hen ht =>
    obtain ⟨o, ho, hw, hi⟩ := h i (List.mem_filter.2 ⟨enabled_mem hen, hen⟩)
    simp only [wpOpsF, ho]
    rw [if_pos hw]
    exact .inl (hi.out _ fun fr' ds' w' hk => ⟨hk.m, hk.s.out hk.m _ ht⟩)⟩
theorem sf1 {Ns Ns' : List Mon} {R : List Nat} {i : Nat} {R' : List Nat} {o : Oper} (hn : nexts ops R = [i]) (hR : R.erase i = R') (hd : drp i Ns = Ns') (ho : ops[i]? = some o) (hw : Region.wanted o (yielded ops (F fr ds).tmps) = true)
    (h : OW P o fr ds w (KF P ops Q Ns' R') Q) : SF P ops Q Ns R fr ds w :=
  sf_all (by intro e; subst e; cases hn) fun k hk => by
    rw [hn] at hk
    simp at hk
    subst hk
    exact ⟨_, ho, hw, by rw [hR, hd]; exact h⟩
theorem sf2 {Ns Ni Nj : List Mon} {R : List Nat} {i j : Nat} {Ri Rj : List Nat} {oi oj : Oper} (hn : nexts ops R = [i, j]) (hRi : R.erase i = Ri) (hRj : R.erase j = Rj) (di : drp i Ns = Ni) (dj : drp j Ns = Nj) (hi : ops[i]? = some oi) (hj : ops[j]? = some oj) (wi : Region.wanted oi (yielded ops (F fr ds).tmps) = true) (wj : Region.wanted oj (yielded ops (F fr ds).tmps) = true)
    (h1 : OW P oi fr ds w (KF P ops Q Ni Ri) Q) (h2 : OW P oj fr ds w (KF P ops Q Nj Rj) Q) : SF P ops Q Ns R fr ds w :=
  sf_all (by intro e; subst e; cases hn) fun k hk => by
    rw [hn] at hk
    simp at hk
    rcases hk with rfl | rfl
    · exact ⟨_, hi, wi, by rw [hRi, di]; exact h1⟩
    · exact ⟨_, hj, wj, by rw [hRj, dj]; exact h2⟩
theorem sfs {Ns : List Mon} {R : List Nat} {frt frf : List Value} {d : Nat} {b : Bool} (hl : Lk fr d (.bool b)) (ht : Pt fr d (.bool true) frt) (hf : Pt fr d (.bool false) frf)
    (h1 : b = true → SF P ops Q Ns R frt ds w) (h0 : ¬ b = true → SF P ops Q Ns R frf ds w) : SF P ops Q Ns R fr ds w := by
  cases b with
  | true => have := h1 rfl; rw [Pt.same hl ht] at this; exact this
  | false => have := h0 (by simp); rw [Pt.same hl hf] at this; exact this
theorem sfsd {Ns : List Mon} {R : List Nat} {frt frf : List Value} {d : Nat} {p : Prop} [Decidable p] (hl : Lk fr d (.bool (decide p))) (ht : Pt fr d (.bool true) frt) (hf : Pt fr d (.bool false) frf)
    (h1 : p → SF P ops Q Ns R frt ds w) (h0 : ¬ p → SF P ops Q Ns R frf ds w) : SF P ops Q Ns R fr ds w :=
  sfs hl ht hf (fun h => h1 (of_decide_eq_true h)) (fun h => h0 fun hp => h (decide_eq_true hp))
theorem sfsnd {Ns : List Mon} {R : List Nat} {frt frf : List Value} {d : Nat} {p : Prop} [Decidable p] (hl : Lk fr d (.bool (!decide p))) (ht : Pt fr d (.bool true) frt) (hf : Pt fr d (.bool false) frf)
    (h1 : ¬ p → SF P ops Q Ns R frt ds w) (h0 : p → SF P ops Q Ns R frf ds w) : SF P ops Q Ns R fr ds w :=
  sfs hl ht hf (fun h => h1 (by simpa using h)) (fun h => h0 (by simpa using h))
theorem sfsnb {Ns : List Mon} {R : List Nat} {frt frf : List Value} {d : Nat} {b : Bool} (hl : Lk fr d (.bool (!b))) (ht : Pt fr d (.bool true) frt) (hf : Pt fr d (.bool false) frf)
    (h1 : ¬ b = true → SF P ops Q Ns R frt ds w) (h0 : b = true → SF P ops Q Ns R frf ds w) : SF P ops Q Ns R fr ds w :=
  sfs hl ht hf (fun h => h1 (by simpa using h)) (fun h => h0 (by simpa using h))
end
end Go.Wk

/- slices behind rows; empty rows -/
namespace Go.Xt
open Go.Wk Go.RowKit
section
variable {P : Program} {Q : Exit → Act → World → Prop} {K : List Value → List Deferred → World → Prop} {fr fr' : List Value} {ds : List Deferred} {w : World}
variable {dst : Option Tmp} {ty : TypeId} {pos : String} {after : Array Edge} {g : Option (Nat × Bool)}
variable {w0 : World} {rs rs' : List Res} {μ μ' : M}
variable {T : TypeId} {d : TypeDesc} {ag : Bool} {zc : List Value} {n m : Nat}
theorem s_bsl0 {e : TypeId} {S S0 : Nat → Prop} {A : World → Prop} (hT : P.underlying T = some (.slice e)) (hE : TI P e ag zc n m) (hS : Sep S S0 w0 w rs A)
    (h : ∀ b w', w.heap.size ≤ b → Sep S S0 w0 w' (.blk b e [] :: rs) A → Put fr dst (.slice (some ⟨b, 0, none⟩) 0 0) fun fr' => K fr' ds w') : OW P (Oper.mk dst (.buildSlice T 0 ⟨[]⟩) ty pos after g) fr ds w K Q := by
  obtain ⟨fr', hd⟩ := dt_ex fr dst (.slice (some ⟨w.heap.size, 0, none⟩) 0 0)
  refine op_v (v := .slice (some ⟨w.heap.size, 0, none⟩) 0 0) (w' := w.alloc (.cells ⟨[]⟩ e)) ?_ hd (h _ _ (Nat.le_refl _) (hS.alloc rfl (heap_alloc_new w _)) fr' hd)
  have hE1 := hE.sizeOf (w := w)
  obtain ⟨z, hzz, hc⟩ := hE.zero (w := w)
  simp [execOp, Instr.buildSlice, Sem.run_bind, run_underlying hT, Result.andThen_ok, hE1, newRow, Instr.fill]
  have e0 : Array.range 0 = #[] := Array.eq_empty_of_size_eq_zero (by simp)
  rw [e0, Array.map_empty]

theorem run_append_none {t ty : TypeId} {sz bytes : Nat} (ht : P.underlying t = some (.slice T)) (hE : TI P T ag zc sz bytes) {v : Value} {xs : List Value} (hr : Row w v T sz n xs) {a : Option Addr} {c : Nat} :
    (Builtin.append_ #[t, t] ty #[v, .slice a 0 c]).run P w = .ok v w := by
  have hE1 := hE.sizeOf (w := w)
  rcases hr.2 with ⟨rfl, rfl⟩ | ⟨g, o, cap, cur, rfl, hg, h1, h2, h3, h4⟩
  · cases a <;> simp [Builtin.append_, run_underlying ht, hE1, Builtin.lenOf, Builtin.firstCells, loadCells, loadCellsFrom]
  · cases a <;> simp [Builtin.append_, run_underlying ht, hE1, Builtin.lenOf, Builtin.firstCells, h1, storeCells, loadCells, loadCellsFrom]
theorem s_appS {α : Type} [Mo α] {t : TypeId} {s x : Operand} {v : Value} {bytes k c : Nat} {a : Option Addr} {cells news : List Value} {l ys l' : List α} (ht : P.underlying t = some (.slice T)) (hE : TI P T ag zc (Mo.sz α) bytes) (hz : zc.length = Mo.sz α)
    (hs : Ev fr s v) (hx : Ev fr x (.slice a ys.length c)) (hS : Sq μ w0 w rs) (hl : Lk rs k (.row v T (Mo.sz α) l.length cells)) (hnews : ys ≠ [] → ∃ b o, a = some ⟨b, o, none⟩ ∧ At μ b o news) (hr : Rw μ news ys) (gg : app l ys = some l') (hb : bytes ≤ 4096)
    (h : ∀ v' w' rs', Pt rs k (.row v' T (Mo.sz α) l'.length (cells ++ news)) rs' → Sq μ w0 w' rs' → Put fr dst v' fun fr' => K fr' ds w') :
    OW P (Oper.mk dst (.call { callee := .builtin .append, args := #[s, x], argTypes := #[t, t] }) ty pos after g) fr ds w K Q := by
  obtain ⟨h1, h2⟩ := app_len gg
  by_cases hy : ys = []
  · subst hy
    obtain rfl : news = [] := hr
    have hrow : Row w v T (Mo.sz α) l.length cells := hS.get hl
    obtain ⟨fr', hd⟩ := dt_ex fr dst v
    have hh := h v w rs (by
      have : l'.length = l.length := by simpa using h1
      rw [this, List.append_nil]
      unfold Pt
      obtain ⟨hlt, e⟩ := List.getElem?_eq_some_iff.1 (show rs[k]? = _ from hl)
      rw [← e]
      exact List.set_getElem_self hlt) hS
    refine op_v (v := v) (w' := w) ?_ hd (hh fr' hd)
    have e1 := hs ds
    have e2 := hx ds
    have hr := run_append_none (P := P) (ty := ty) (a := a) (c := c) ht hE hrow
    simp [execOp, resolve, invoke, builtin, e1, e2, hr]
  · obtain ⟨b, o, rfl, hat⟩ := hnews hy
    exact s_append ht hE (by simp [hz, Mo.pos]) hs hx hS hl (hat _ hS.a) hr.len hr.cv ⟨h2, hb⟩ fun v' w' rs' hp => h v' w' rs' (by rw [h1]; exact hp)
end
end Go.Xt
