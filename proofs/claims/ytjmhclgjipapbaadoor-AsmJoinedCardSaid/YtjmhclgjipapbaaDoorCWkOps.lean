/- The steps of the calculus: one lemma for each operation. Over any program. -/
import Derived.Test.YtjmhclgjipapbaaDoorCWkBase
set_option linter.unusedSectionVars false
set_option linter.unusedVariables false
set_option linter.unusedSimpArgs false
namespace Go.Wk
open Go.RowKit

/-- A string's value, out of its bytes. -/
def S (l : List UInt8) : Value := .string ⟨⟨l⟩⟩
theorem S_of (s : ByteArray) : Value.string s = S s.data.toList := rfl

section
variable {P : Program} {Q : Exit → Act → World → Prop} {K : List Value → List Deferred → World → Prop} {fr fr' : List Value} {ds : List Deferred} {w : World} {ops : Array Oper} {rest : List Oper}
variable {dst : Option Tmp} {op : Op} {ty : TypeId} {pos : String} {after : Array Edge} {g : Option (Nat × Bool)}

theorem wnil (h : Q .normal (F fr ds) w) : WL P ops Q [] fr ds w := ⟨h⟩
theorem wl (h : OW P ⟨dst, op, ty, pos, after, none⟩ fr ds w (WL P ops Q rest) Q) : WL P ops Q (⟨dst, op, ty, pos, after, none⟩ :: rest) fr ds w := by
  constructor
  unfold wpList
  rw [if_pos (by simp [Region.wanted])]
  exact .inl (h.out _ fun _ _ _ k => k.out)
theorem wy {j d : Nat} {b : Bool} (hj : (ops[j]?).bind (·.dst) = some d) (hl : Lk fr d (.bool b)) (h : OW P ⟨dst, op, ty, pos, after, some (j, b)⟩ fr ds w (WL P ops Q rest) Q) :
    WL P ops Q (⟨dst, op, ty, pos, after, some (j, b)⟩ :: rest) fr ds w := by
  constructor
  unfold wpList
  rw [if_pos (by
    unfold Lk at hl
    simp only [Region.wanted, yielded, hj, F]
    simp [hl])]
  exact .inl (h.out _ fun _ _ _ k => k.out)
theorem wn {j d : Nat} {b b' : Bool} (hj : (ops[j]?).bind (·.dst) = some d) (hl : Lk fr d (.bool b')) (hb : (b' == b) = false) (hp : Dt fr dst undef fr') (h : WL P ops Q rest fr' ds w) :
    WL P ops Q (⟨dst, op, ty, pos, after, some (j, b)⟩ :: rest) fr ds w := by
  constructor
  unfold wpList
  rw [if_neg (by
    unfold Lk at hl
    simp only [Region.wanted, yielded, hj, F]
    simp [hl]
    simpa using hb)]
  exact hp.rw h.out
/-- A guard whose own operation was passed over. -/
theorem wu {j d : Nat} {b : Bool} (hj : (ops[j]?).bind (·.dst) = some d) (hl : Lk fr d undef) (hp : Dt fr dst undef fr') (h : WL P ops Q rest fr' ds w) :
    WL P ops Q (⟨dst, op, ty, pos, after, some (j, b)⟩ :: rest) fr ds w := by
  constructor
  unfold wpList
  rw [if_neg (by
    unfold Lk at hl
    simp only [Region.wanted, yielded, hj, F]
    simp [hl, undef])]
  exact hp.rw h.out

theorem op_v {o : Oper} {v : Value} {w' : World} (hr : (execOp (F fr ds).eval o).run P w = .ok (.value v) w') (hp : Dt fr o.dst v fr') (h : K fr' ds w') : OW P o fr ds w K Q := by
  constructor
  intro K2 hK
  unfold Oper.wp
  rw [hr, Oper.upon_value]
  exact hp.rw (hK _ _ _ h)
theorem op_u {o : Oper} {w' : World} (hr : (execOp (F fr ds).eval o).run P w = .ok .skip w') (hp : Dt fr o.dst undef fr') (h : K fr' ds w') : OW P o fr ds w K Q := by
  constructor
  intro K2 hK
  unfold Oper.wp
  rw [hr, Oper.upon_skip]
  exact hp.rw (hK _ _ _ h)

/-- An operation that reckons alone: whatever the world, it comes to v. -/
structure PU (P : Program) (o : Oper) (fr : List Value) (v : Value) : Prop where
  out : ∀ ds w, (execOp (F fr ds).eval o).run P w = .ok (.value v) w
theorem su {o : Oper} {v : Value} (hu : PU P o fr v) (hp : Dt fr o.dst v fr') (h : K fr' ds w) : OW P o fr ds w K Q := op_v (hu.out ds w) hp h

theorem u_move {x : Operand} {v : Value} (hx : Ev fr x v) : PU P (Oper.mk dst (.move x) ty pos after g) fr (v) := ⟨fun ds w => by simp [execOp, hx ds]⟩
theorem s_move {x : Operand} {v : Value} (hx : Ev fr x v) (hp : Dt fr dst (v) fr') (h : K fr' ds w) : OW P (Oper.mk dst (.move x) ty pos after g) fr ds w K Q := su (u_move hx) hp h
theorem u_assign {x : Operand} {v : Value} (hx : Ev fr x v) : PU P (Oper.mk dst (.assign x) ty pos after g) fr (v) := ⟨fun ds w => by simp [execOp, hx ds]⟩
theorem s_assign {x : Operand} {v : Value} (hx : Ev fr x v) (hp : Dt fr dst (v) fr') (h : K fr' ds w) : OW P (Oper.mk dst (.assign x) ty pos after g) fr ds w K Q := su (u_assign hx) hp h
theorem u_pickt {c x y : Operand} {v : Value} (hc : Ev fr c (.bool true)) (hx : Ev fr x v) : PU P (Oper.mk dst (.pick c x y) ty pos after g) fr (v) := ⟨fun ds w => by simp [execOp, hx ds, hc ds, asBool]⟩
theorem s_pickt {c x y : Operand} {v : Value} (hc : Ev fr c (.bool true)) (hx : Ev fr x v) (hp : Dt fr dst (v) fr') (h : K fr' ds w) : OW P (Oper.mk dst (.pick c x y) ty pos after g) fr ds w K Q := su (u_pickt hc hx) hp h
theorem u_pickf {c x y : Operand} {v : Value} (hc : Ev fr c (.bool false)) (hx : Ev fr y v) : PU P (Oper.mk dst (.pick c x y) ty pos after g) fr (v) := ⟨fun ds w => by simp [execOp, hx ds, hc ds, asBool]⟩
theorem s_pickf {c x y : Operand} {v : Value} (hc : Ev fr c (.bool false)) (hx : Ev fr y v) (hp : Dt fr dst (v) fr') (h : K fr' ds w) : OW P (Oper.mk dst (.pick c x y) ty pos after g) fr ds w K Q := su (u_pickf hc hx) hp h
theorem wr {n : Int} (h : -9223372036854775808 ≤ n ∧ n ≤ 9223372036854775807) : IntKind.i64.wrap n = n := by
  unfold IntKind.wrap
  simp [IntKind.bits, IntKind.signed]
  omega

/- integers -/
theorem u_add {x y : Operand} {t t' : TypeId} {k : IntKind} {a b c : Int} (hx : Ev fr x (.int k a)) (hy : Ev fr y (.int k b)) (hw : k.wrap (a + b) = c) : PU P (Oper.mk dst (.binOp .add t x y t') ty pos after g) fr ((.int k c)) := by
  subst hw
  exact ⟨fun ds w => by simp [execOp, hx ds, hy ds, eqGuard, binOp, Op.intArith]⟩
theorem s_add {x y : Operand} {t t' : TypeId} {k : IntKind} {a b c : Int} (hx : Ev fr x (.int k a)) (hy : Ev fr y (.int k b)) (hw : k.wrap (a + b) = c) (hp : Dt fr dst ((.int k c)) fr') (h : K fr' ds w) : OW P (Oper.mk dst (.binOp .add t x y t') ty pos after g) fr ds w K Q := su (u_add hx hy hw) hp h
theorem u_sub {x y : Operand} {t t' : TypeId} {k : IntKind} {a b c : Int} (hx : Ev fr x (.int k a)) (hy : Ev fr y (.int k b)) (hw : k.wrap (a - b) = c) : PU P (Oper.mk dst (.binOp .sub t x y t') ty pos after g) fr ((.int k c)) := by
  subst hw
  exact ⟨fun ds w => by simp [execOp, hx ds, hy ds, eqGuard, binOp, Op.intArith]⟩
theorem s_sub {x y : Operand} {t t' : TypeId} {k : IntKind} {a b c : Int} (hx : Ev fr x (.int k a)) (hy : Ev fr y (.int k b)) (hw : k.wrap (a - b) = c) (hp : Dt fr dst ((.int k c)) fr') (h : K fr' ds w) : OW P (Oper.mk dst (.binOp .sub t x y t') ty pos after g) fr ds w K Q := su (u_sub hx hy hw) hp h
theorem u_mul {x y : Operand} {t t' : TypeId} {k : IntKind} {a b c : Int} (hx : Ev fr x (.int k a)) (hy : Ev fr y (.int k b)) (hw : k.wrap (a * b) = c) : PU P (Oper.mk dst (.binOp .mul t x y t') ty pos after g) fr ((.int k c)) := by
  subst hw
  exact ⟨fun ds w => by simp [execOp, hx ds, hy ds, eqGuard, binOp, Op.intArith]⟩
theorem s_mul {x y : Operand} {t t' : TypeId} {k : IntKind} {a b c : Int} (hx : Ev fr x (.int k a)) (hy : Ev fr y (.int k b)) (hw : k.wrap (a * b) = c) (hp : Dt fr dst ((.int k c)) fr') (h : K fr' ds w) : OW P (Oper.mk dst (.binOp .mul t x y t') ty pos after g) fr ds w K Q := su (u_mul hx hy hw) hp h
theorem u_quo {x y : Operand} {t t' : TypeId} {k : IntKind} {a b c : Int} (hx : Ev fr x (.int k a)) (hy : Ev fr y (.int k b)) (hb : b ≠ 0) (hw : k.wrap (a.tdiv b) = c) : PU P (Oper.mk dst (.binOp .quo t x y t') ty pos after g) fr ((.int k c)) := by
  subst hw
  exact ⟨fun ds w => by simp [execOp, hx ds, hy ds, eqGuard, binOp, Op.intDiv, hb]⟩
theorem s_quo {x y : Operand} {t t' : TypeId} {k : IntKind} {a b c : Int} (hx : Ev fr x (.int k a)) (hy : Ev fr y (.int k b)) (hb : b ≠ 0) (hw : k.wrap (a.tdiv b) = c) (hp : Dt fr dst ((.int k c)) fr') (h : K fr' ds w) : OW P (Oper.mk dst (.binOp .quo t x y t') ty pos after g) fr ds w K Q := su (u_quo hx hy hb hw) hp h
theorem u_rem {x y : Operand} {t t' : TypeId} {k : IntKind} {a b c : Int} (hx : Ev fr x (.int k a)) (hy : Ev fr y (.int k b)) (hb : b ≠ 0) (hw : a.tmod b = c) : PU P (Oper.mk dst (.binOp .rem t x y t') ty pos after g) fr ((.int k c)) := by
  subst hw
  exact ⟨fun ds w => by simp [execOp, hx ds, hy ds, eqGuard, binOp, Op.intDiv, hb]⟩
theorem s_rem {x y : Operand} {t t' : TypeId} {k : IntKind} {a b c : Int} (hx : Ev fr x (.int k a)) (hy : Ev fr y (.int k b)) (hb : b ≠ 0) (hw : a.tmod b = c) (hp : Dt fr dst ((.int k c)) fr') (h : K fr' ds w) : OW P (Oper.mk dst (.binOp .rem t x y t') ty pos after g) fr ds w K Q := su (u_rem hx hy hb hw) hp h
theorem u_lss {x y : Operand} {t t' : TypeId} {k : IntKind} {a b : Int} (hx : Ev fr x (.int k a)) (hy : Ev fr y (.int k b)) : PU P (Oper.mk dst (.binOp .lss t x y t') ty pos after g) fr ((.bool (decide (a < b)))) := ⟨fun ds w => by simp [execOp, hx ds, hy ds, eqGuard, binOp, Op.intCmp]⟩
theorem s_lss {x y : Operand} {t t' : TypeId} {k : IntKind} {a b : Int} (hx : Ev fr x (.int k a)) (hy : Ev fr y (.int k b)) (hp : Dt fr dst ((.bool (decide (a < b)))) fr') (h : K fr' ds w) : OW P (Oper.mk dst (.binOp .lss t x y t') ty pos after g) fr ds w K Q := su (u_lss hx hy) hp h
theorem u_leq {x y : Operand} {t t' : TypeId} {k : IntKind} {a b : Int} (hx : Ev fr x (.int k a)) (hy : Ev fr y (.int k b)) : PU P (Oper.mk dst (.binOp .leq t x y t') ty pos after g) fr ((.bool (decide (a ≤ b)))) := ⟨fun ds w => by simp [execOp, hx ds, hy ds, eqGuard, binOp, Op.intCmp]⟩
theorem s_leq {x y : Operand} {t t' : TypeId} {k : IntKind} {a b : Int} (hx : Ev fr x (.int k a)) (hy : Ev fr y (.int k b)) (hp : Dt fr dst ((.bool (decide (a ≤ b)))) fr') (h : K fr' ds w) : OW P (Oper.mk dst (.binOp .leq t x y t') ty pos after g) fr ds w K Q := su (u_leq hx hy) hp h
theorem u_gtr {x y : Operand} {t t' : TypeId} {k : IntKind} {a b : Int} (hx : Ev fr x (.int k a)) (hy : Ev fr y (.int k b)) : PU P (Oper.mk dst (.binOp .gtr t x y t') ty pos after g) fr ((.bool (decide (b < a)))) := ⟨fun ds w => by simp [execOp, hx ds, hy ds, eqGuard, binOp, Op.intCmp]⟩
theorem s_gtr {x y : Operand} {t t' : TypeId} {k : IntKind} {a b : Int} (hx : Ev fr x (.int k a)) (hy : Ev fr y (.int k b)) (hp : Dt fr dst ((.bool (decide (b < a)))) fr') (h : K fr' ds w) : OW P (Oper.mk dst (.binOp .gtr t x y t') ty pos after g) fr ds w K Q := su (u_gtr hx hy) hp h
theorem u_geq {x y : Operand} {t t' : TypeId} {k : IntKind} {a b : Int} (hx : Ev fr x (.int k a)) (hy : Ev fr y (.int k b)) : PU P (Oper.mk dst (.binOp .geq t x y t') ty pos after g) fr ((.bool (decide (b ≤ a)))) := ⟨fun ds w => by simp [execOp, hx ds, hy ds, eqGuard, binOp, Op.intCmp]⟩
theorem s_geq {x y : Operand} {t t' : TypeId} {k : IntKind} {a b : Int} (hx : Ev fr x (.int k a)) (hy : Ev fr y (.int k b)) (hp : Dt fr dst ((.bool (decide (b ≤ a)))) fr') (h : K fr' ds w) : OW P (Oper.mk dst (.binOp .geq t x y t') ty pos after g) fr ds w K Q := su (u_geq hx hy) hp h
theorem u_eqi {x y : Operand} {t t' : TypeId} {k : IntKind} {a b : Int} (hx : Ev fr x (.int k a)) (hy : Ev fr y (.int k b)) : PU P (Oper.mk dst (.binOp .eql t x y t') ty pos after g) fr ((.bool (decide (a = b)))) := ⟨fun ds w => by simp [execOp, hx ds, hy ds, eqGuard, binOp, Op.intCmp]; rfl⟩
theorem s_eqi {x y : Operand} {t t' : TypeId} {k : IntKind} {a b : Int} (hx : Ev fr x (.int k a)) (hy : Ev fr y (.int k b)) (hp : Dt fr dst ((.bool (decide (a = b)))) fr') (h : K fr' ds w) : OW P (Oper.mk dst (.binOp .eql t x y t') ty pos after g) fr ds w K Q := su (u_eqi hx hy) hp h
theorem u_nei {x y : Operand} {t t' : TypeId} {k : IntKind} {a b : Int} (hx : Ev fr x (.int k a)) (hy : Ev fr y (.int k b)) : PU P (Oper.mk dst (.binOp .neq t x y t') ty pos after g) fr ((.bool (decide (a ≠ b)))) := ⟨fun ds w => by
    simp [execOp, hx ds, hy ds, eqGuard, binOp, Op.intCmp]
    by_cases h : a = b <;> simp [h]⟩
theorem s_nei {x y : Operand} {t t' : TypeId} {k : IntKind} {a b : Int} (hx : Ev fr x (.int k a)) (hy : Ev fr y (.int k b)) (hp : Dt fr dst ((.bool (decide (a ≠ b)))) fr') (h : K fr' ds w) : OW P (Oper.mk dst (.binOp .neq t x y t') ty pos after g) fr ds w K Q := su (u_nei hx hy) hp h
theorem u_neg {x : Operand} {t : TypeId} {k : IntKind} {a c : Int} (hx : Ev fr x (.int k a)) (hw : k.wrap (0 - a) = c) : PU P (Oper.mk dst (.unOp .neg t x) ty pos after g) fr ((.int k c)) := by
  subst hw
  exact ⟨fun ds w => by simp [execOp, hx ds, Op.unary, Op.intArith]⟩
theorem s_neg {x : Operand} {t : TypeId} {k : IntKind} {a c : Int} (hx : Ev fr x (.int k a)) (hw : k.wrap (0 - a) = c) (hp : Dt fr dst ((.int k c)) fr') (h : K fr' ds w) : OW P (Oper.mk dst (.unOp .neg t x) ty pos after g) fr ds w K Q := su (u_neg hx hw) hp h
theorem u_not {x : Operand} {t : TypeId} {b : Bool} (hx : Ev fr x (.bool b)) : PU P (Oper.mk dst (.unOp .not t x) ty pos after g) fr ((.bool (!b))) := ⟨fun ds w => by simp [execOp, hx ds, Op.unary]⟩
theorem s_not {x : Operand} {t : TypeId} {b : Bool} (hx : Ev fr x (.bool b)) (hp : Dt fr dst ((.bool (!b))) fr') (h : K fr' ds w) : OW P (Oper.mk dst (.unOp .not t x) ty pos after g) fr ds w K Q := su (u_not hx) hp h
/- strings -/
theorem toList_S (l : List UInt8) : ByteArray.toList ⟨⟨l⟩⟩ = l := by rw [Lib.toList_data]
theorem u_cat {x y : Operand} {t t' : TypeId} {a b : List UInt8} (hx : Ev fr x (S a)) (hy : Ev fr y (S b)) (hb : a.length + b.length ≤ 9223372036854775807) : PU P (Oper.mk dst (.binOp .add t x y t') ty pos after g) fr ((S (a ++ b))) := by
  have hs1 : (ByteArray.mk ⟨a⟩).size = a.length := rfl
  have hs2 : (ByteArray.mk ⟨b⟩).size = b.length := rfl
  have hn : ¬ (((((ByteArray.mk ⟨a⟩).size + (ByteArray.mk ⟨b⟩).size : Nat) : Int)) > IntKind.i64.max) := by
    rw [hs1, hs2]; unfold IntKind.max; simp [IntKind.bits, IntKind.signed]; omega
  have hab : ByteArray.mk ⟨a⟩ ++ ByteArray.mk ⟨b⟩ = ByteArray.mk ⟨a ++ b⟩ := by
    apply ByteArray.ext
    rw [ByteArray.data_append]
    simp
  refine ⟨fun ds w => ?_⟩
  have h1 := hx ds
  have h2 := hy ds
  simp only [execOp, h1, h2, S, eqGuard, binOp, Op.stringOp]
  rw [if_neg hn, hab]
  simp
theorem s_cat {x y : Operand} {t t' : TypeId} {a b : List UInt8} (hx : Ev fr x (S a)) (hy : Ev fr y (S b)) (hb : a.length + b.length ≤ 9223372036854775807) (hp : Dt fr dst ((S (a ++ b))) fr') (h : K fr' ds w) : OW P (Oper.mk dst (.binOp .add t x y t') ty pos after g) fr ds w K Q := su (u_cat hx hy hb) hp h
theorem u_eqs {x y : Operand} {t t' : TypeId} {a b : List UInt8} (hx : Ev fr x (S a)) (hy : Ev fr y (S b)) : PU P (Oper.mk dst (.binOp .eql t x y t') ty pos after g) fr ((.bool (decide (a = b)))) := by
  refine ⟨fun ds w => ?_⟩
  have h1 := hx ds
  have h2 := hy ds
  simp [execOp, h1, h2, S, eqGuard, binOp, Op.stringOp]
  by_cases e : a = b <;> simp [e]
theorem s_eqs {x y : Operand} {t t' : TypeId} {a b : List UInt8} (hx : Ev fr x (S a)) (hy : Ev fr y (S b)) (hp : Dt fr dst ((.bool (decide (a = b)))) fr') (h : K fr' ds w) : OW P (Oper.mk dst (.binOp .eql t x y t') ty pos after g) fr ds w K Q := su (u_eqs hx hy) hp h
theorem u_nes {x y : Operand} {t t' : TypeId} {a b : List UInt8} (hx : Ev fr x (S a)) (hy : Ev fr y (S b)) : PU P (Oper.mk dst (.binOp .neq t x y t') ty pos after g) fr ((.bool (decide (a ≠ b)))) := by
  refine ⟨fun ds w => ?_⟩
  have h1 := hx ds
  have h2 := hy ds
  simp [execOp, h1, h2, S, eqGuard, binOp, Op.stringOp]
  by_cases e : a = b <;> simp [e]
theorem s_nes {x y : Operand} {t t' : TypeId} {a b : List UInt8} (hx : Ev fr x (S a)) (hy : Ev fr y (S b)) (hp : Dt fr dst ((.bool (decide (a ≠ b)))) fr') (h : K fr' ds w) : OW P (Oper.mk dst (.binOp .neq t x y t') ty pos after g) fr ds w K Q := su (u_nes hx hy) hp h
theorem u_lens {x : Operand} {t : TypeId} {a : List UInt8} (ht : P.underlying t = some .string) (hx : Ev fr x (S a)) : PU P (Oper.mk dst (.call { callee := .builtin .len, args := #[x], argTypes := #[t] }) ty pos after g) fr ((.int .i64 a.length)) := by
  refine ⟨fun ds w => ?_⟩
  have h1 := hx ds
  have hs1 : (ByteArray.mk ⟨a⟩).size = a.length := rfl
  simp [execOp, h1, resolve, invoke, builtin, S, Builtin.len_, run_underlying ht, goInt, hs1]
theorem s_lens {x : Operand} {t : TypeId} {a : List UInt8} (ht : P.underlying t = some .string) (hx : Ev fr x (S a)) (hp : Dt fr dst ((.int .i64 a.length)) fr') (h : K fr' ds w) : OW P (Oper.mk dst (.call { callee := .builtin .len, args := #[x], argTypes := #[t] }) ty pos after g) fr ds w K Q := su (u_lens ht hx) hp h
theorem u_lensl {x : Operand} {t e : TypeId} {a : Option Addr} {n c : Nat} (ht : P.underlying t = some (.slice e)) (hx : Ev fr x (.slice a n c)) : PU P (Oper.mk dst (.call { callee := .builtin .len, args := #[x], argTypes := #[t] }) ty pos after g) fr ((.int .i64 n)) := by
  refine ⟨fun ds w => ?_⟩
  have h1 := hx ds
  simp [execOp, h1, resolve, invoke, builtin, Builtin.len_, run_underlying ht, goInt]
theorem s_lensl {x : Operand} {t e : TypeId} {a : Option Addr} {n c : Nat} (ht : P.underlying t = some (.slice e)) (hx : Ev fr x (.slice a n c)) (hp : Dt fr dst ((.int .i64 n)) fr') (h : K fr' ds w) : OW P (Oper.mk dst (.call { callee := .builtin .len, args := #[x], argTypes := #[t] }) ty pos after g) fr ds w K Q := su (u_lensl ht hx) hp h
theorem u_idxs {x y : Operand} {t : TypeId} {k : IntKind} {a : List UInt8} {i : Int} {c : UInt8} (ht : P.underlying t = some .string) (hx : Ev fr x (S a)) (hy : Ev fr y (.int k i)) (h0 : 0 ≤ i) (hc : a[i.toNat]? = some c) : PU P (Oper.mk dst (.index t x y) ty pos after g) fr ((.int .u8 c.toNat)) := by
  refine ⟨fun ds w => ?_⟩
  have h1 := hx ds
  have h2 := hy ds
  have h3 : (ByteArray.mk ⟨a⟩)[i.toNat]? = some c := by
    have hlt : i.toNat < a.length := by
      rcases Nat.lt_or_ge i.toNat a.length with h | h
      · exact h
      · rw [List.getElem?_eq_none h] at hc; cases hc
    rw [getElem?_pos (ByteArray.mk ⟨a⟩) i.toNat (show i.toNat < (ByteArray.mk ⟨a⟩).size from hlt)]
    rw [List.getElem?_eq_getElem hlt] at hc
    rw [← hc]
    rfl
  simp [execOp, h1, h2, S, Instr.index, run_underlying ht, asIntOf, h0, h3]
theorem s_idxs {x y : Operand} {t : TypeId} {k : IntKind} {a : List UInt8} {i : Int} {c : UInt8} (ht : P.underlying t = some .string) (hx : Ev fr x (S a)) (hy : Ev fr y (.int k i)) (h0 : 0 ≤ i) (hc : a[i.toNat]? = some c) (hp : Dt fr dst ((.int .u8 c.toNat)) fr') (h : K fr' ds w) : OW P (Oper.mk dst (.index t x y) ty pos after g) fr ds w K Q := su (u_idxs ht hx hy h0 hc) hp h
theorem extract_S (a : List UInt8) (i j : Nat) : (ByteArray.mk ⟨a⟩).extract i j = ByteArray.mk ⟨(a.take j).drop i⟩ := by
  rw [Lib.extract_eq]
  simp [List.drop_take]
theorem u_cuts {x lo hi : Operand} {t : TypeId} {k k' : IntKind} {a : List UInt8} {i j : Int} (ht : P.underlying t = some .string) (hx : Ev fr x (S a)) (hlo : Ev fr lo (.int k i)) (hhi : Ev fr hi (.int k' j))
    (hb : 0 ≤ i ∧ i ≤ j ∧ j ≤ a.length) : PU P (Oper.mk dst (.slice t x (some lo) (some hi) none) ty pos after g) fr ((S ((a.take j.toNat).drop i.toNat))) := by
  refine ⟨fun ds w => ?_⟩
  have h1 := hx ds
  have h2 := hlo ds
  have h3 := hhi ds
  have hs1 : (ByteArray.mk ⟨a⟩).size = a.length := rfl
  have q1 : 0 ≤ j ∧ j ≤ (a.length : Int) := by omega
  have q2 : 0 ≤ i ∧ i ≤ (j.toNat : Int) := by omega
  simp only [execOp, h1, h2, h3, S, Option.map, Instr.sliceAt]
  simp [run_underlying ht, Instr.slice, Instr.sliceBounds, Instr.sliceBound, asIntOf, hs1, q1, q2, extract_S]
  intro h
  omega
theorem s_cuts {x lo hi : Operand} {t : TypeId} {k k' : IntKind} {a : List UInt8} {i j : Int} (ht : P.underlying t = some .string) (hx : Ev fr x (S a)) (hlo : Ev fr lo (.int k i)) (hhi : Ev fr hi (.int k' j))
    (hb : 0 ≤ i ∧ i ≤ j ∧ j ≤ a.length) (hp : Dt fr dst ((S ((a.take j.toNat).drop i.toNat))) fr') (h : K fr' ds w) : OW P (Oper.mk dst (.slice t x (some lo) (some hi) none) ty pos after g) fr ds w K Q := su (u_cuts ht hx hlo hhi hb) hp h
theorem u_cutlo {x lo : Operand} {t : TypeId} {k : IntKind} {a : List UInt8} {i : Int} (ht : P.underlying t = some .string) (hx : Ev fr x (S a)) (hlo : Ev fr lo (.int k i))
    (hb : 0 ≤ i ∧ i ≤ a.length) : PU P (Oper.mk dst (.slice t x (some lo) none none) ty pos after g) fr ((S (a.drop i.toNat))) := by
  refine ⟨fun ds w => ?_⟩
  have h1 := hx ds
  have h2 := hlo ds
  have hs1 : (ByteArray.mk ⟨a⟩).size = a.length := rfl
  simp only [execOp, h1, h2, S, Option.map, Instr.sliceAt]
  simp [run_underlying ht, Instr.slice, Instr.sliceBounds, Instr.sliceBound, asIntOf, hs1, hb, extract_S]
theorem s_cutlo {x lo : Operand} {t : TypeId} {k : IntKind} {a : List UInt8} {i : Int} (ht : P.underlying t = some .string) (hx : Ev fr x (S a)) (hlo : Ev fr lo (.int k i))
    (hb : 0 ≤ i ∧ i ≤ a.length) (hp : Dt fr dst ((S (a.drop i.toNat))) fr') (h : K fr' ds w) : OW P (Oper.mk dst (.slice t x (some lo) none none) ty pos after g) fr ds w K Q := su (u_cutlo ht hx hlo hb) hp h
theorem u_cuthi {x hi : Operand} {t : TypeId} {k' : IntKind} {a : List UInt8} {j : Int} (ht : P.underlying t = some .string) (hx : Ev fr x (S a)) (hhi : Ev fr hi (.int k' j))
    (hb : 0 ≤ j ∧ j ≤ a.length) : PU P (Oper.mk dst (.slice t x none (some hi) none) ty pos after g) fr ((S (a.take j.toNat))) := by
  refine ⟨fun ds w => ?_⟩
  have h1 := hx ds
  have h3 := hhi ds
  have hs1 : (ByteArray.mk ⟨a⟩).size = a.length := rfl
  simp only [execOp, h1, h3, S, Option.map, Instr.sliceAt]
  simp [run_underlying ht, Instr.slice, Instr.sliceBounds, Instr.sliceBound, asIntOf, hs1, hb, extract_S]
theorem s_cuthi {x hi : Operand} {t : TypeId} {k' : IntKind} {a : List UInt8} {j : Int} (ht : P.underlying t = some .string) (hx : Ev fr x (S a)) (hhi : Ev fr hi (.int k' j))
    (hb : 0 ≤ j ∧ j ≤ a.length) (hp : Dt fr dst ((S (a.take j.toNat))) fr') (h : K fr' ds w) : OW P (Oper.mk dst (.slice t x none (some hi) none) ty pos after g) fr ds w K Q := su (u_cuthi ht hx hhi hb) hp h
theorem u_extr {x : Operand} {i : Nat} {vs : List Value} {v : Value} (hx : Ev fr x (.tuple ⟨vs⟩)) (hl : Lk vs i v) : PU P (Oper.mk dst (.extract x i) ty pos after g) fr (v) := by
  refine ⟨fun ds w => ?_⟩
  have h1 := hx ds
  unfold Lk at hl
  simp [execOp, h1, Instr.extract, hl]
theorem s_extr {x : Operand} {i : Nat} {vs : List Value} {v : Value} (hx : Ev fr x (.tuple ⟨vs⟩)) (hl : Lk vs i v) (hp : Dt fr dst (v) fr') (h : K fr' ds w) : OW P (Oper.mk dst (.extract x i) ty pos after g) fr ds w K Q := su (u_extr hx hl) hp h
/- the same, of numbers from 0 on -/
theorem u_addn {x y : Operand} {t t' : TypeId} {a b : Nat} (hx : Ev fr x (.int .i64 (a : Nat))) (hy : Ev fr y (.int .i64 (b : Nat))) (hb : a + b ≤ 9223372036854775807) : PU P (Oper.mk dst (.binOp .add t x y t') ty pos after g) fr ((.int .i64 ((a + b : Nat) : Int))) := u_add (c := ((a + b : Nat) : Int)) hx hy (by rw [wr (by omega)]; omega)
theorem s_addn {x y : Operand} {t t' : TypeId} {a b : Nat} (hx : Ev fr x (.int .i64 (a : Nat))) (hy : Ev fr y (.int .i64 (b : Nat))) (hb : a + b ≤ 9223372036854775807) (hp : Dt fr dst ((.int .i64 ((a + b : Nat) : Int))) fr') (h : K fr' ds w) : OW P (Oper.mk dst (.binOp .add t x y t') ty pos after g) fr ds w K Q := su (u_addn hx hy hb) hp h
theorem u_idxsn {x y : Operand} {t : TypeId} {k : IntKind} {a : List UInt8} {i : Nat} {c : UInt8} (ht : P.underlying t = some .string) (hx : Ev fr x (S a)) (hy : Ev fr y (.int k (i : Nat))) (hc : a[i]? = some c) : PU P (Oper.mk dst (.index t x y) ty pos after g) fr ((.int .u8 c.toNat)) := u_idxs ht hx hy (by omega) (by simpa using hc)
theorem s_idxsn {x y : Operand} {t : TypeId} {k : IntKind} {a : List UInt8} {i : Nat} {c : UInt8} (ht : P.underlying t = some .string) (hx : Ev fr x (S a)) (hy : Ev fr y (.int k (i : Nat))) (hc : a[i]? = some c) (hp : Dt fr dst ((.int .u8 c.toNat)) fr') (h : K fr' ds w) : OW P (Oper.mk dst (.index t x y) ty pos after g) fr ds w K Q := su (u_idxsn ht hx hy hc) hp h
theorem u_cutsn {x lo hi : Operand} {t : TypeId} {k k' : IntKind} {a : List UInt8} {i j : Nat} (ht : P.underlying t = some .string) (hx : Ev fr x (S a)) (hlo : Ev fr lo (.int k (i : Nat))) (hhi : Ev fr hi (.int k' (j : Nat)))
    (hb : i ≤ j ∧ j ≤ a.length) : PU P (Oper.mk dst (.slice t x (some lo) (some hi) none) ty pos after g) fr ((S ((a.take j).drop i))) := by
  have := u_cuts (P := P) (fr := fr) (dst := dst) (ty := ty) (pos := pos) (after := after) (g := g) ht hx hlo hhi (by omega)
  simpa using this
theorem s_cutsn {x lo hi : Operand} {t : TypeId} {k k' : IntKind} {a : List UInt8} {i j : Nat} (ht : P.underlying t = some .string) (hx : Ev fr x (S a)) (hlo : Ev fr lo (.int k (i : Nat))) (hhi : Ev fr hi (.int k' (j : Nat)))
    (hb : i ≤ j ∧ j ≤ a.length) (hp : Dt fr dst ((S ((a.take j).drop i))) fr') (h : K fr' ds w) : OW P (Oper.mk dst (.slice t x (some lo) (some hi) none) ty pos after g) fr ds w K Q := su (u_cutsn ht hx hlo hhi hb) hp h
theorem u_cutlon {x lo : Operand} {t : TypeId} {k : IntKind} {a : List UInt8} {i : Nat} (ht : P.underlying t = some .string) (hx : Ev fr x (S a)) (hlo : Ev fr lo (.int k (i : Nat)))
    (hb : i ≤ a.length) : PU P (Oper.mk dst (.slice t x (some lo) none none) ty pos after g) fr ((S (a.drop i))) := by
  have := u_cutlo (P := P) (fr := fr) (dst := dst) (ty := ty) (pos := pos) (after := after) (g := g) ht hx hlo (by omega)
  simpa using this
theorem s_cutlon {x lo : Operand} {t : TypeId} {k : IntKind} {a : List UInt8} {i : Nat} (ht : P.underlying t = some .string) (hx : Ev fr x (S a)) (hlo : Ev fr lo (.int k (i : Nat)))
    (hb : i ≤ a.length) (hp : Dt fr dst ((S (a.drop i))) fr') (h : K fr' ds w) : OW P (Oper.mk dst (.slice t x (some lo) none none) ty pos after g) fr ds w K Q := su (u_cutlon ht hx hlo hb) hp h
theorem u_cuthin {x hi : Operand} {t : TypeId} {k' : IntKind} {a : List UInt8} {j : Nat} (ht : P.underlying t = some .string) (hx : Ev fr x (S a)) (hhi : Ev fr hi (.int k' (j : Nat)))
    (hb : j ≤ a.length) : PU P (Oper.mk dst (.slice t x none (some hi) none) ty pos after g) fr ((S (a.take j))) := by
  have := u_cuthi (P := P) (fr := fr) (dst := dst) (ty := ty) (pos := pos) (after := after) (g := g) ht hx hhi (by omega)
  simpa using this
theorem s_cuthin {x hi : Operand} {t : TypeId} {k' : IntKind} {a : List UInt8} {j : Nat} (ht : P.underlying t = some .string) (hx : Ev fr x (S a)) (hhi : Ev fr hi (.int k' (j : Nat)))
    (hb : j ≤ a.length) (hp : Dt fr dst ((S (a.take j))) fr') (h : K fr' ds w) : OW P (Oper.mk dst (.slice t x none (some hi) none) ty pos after g) fr ds w K Q := su (u_cuthin ht hx hhi hb) hp h
/- calls -/
/-- A call that returns. -/
structure CallsV (P : Program) (f : FuncId) (args : List Value) (w : World) (R : Value → World → Prop) : Prop where
  out : Calls P f ⟨args⟩ w fun e w' => match e with | .returned v => R v w' | _ => False
theorem CallsV.mono {f : FuncId} {args : List Value} {R R' : Value → World → Prop} (h : CallsV P f args w R) (hr : ∀ v w', R v w' → R' v w') : CallsV P f args w R' :=
  ⟨Calls.mono h.out fun e w' he => by
    cases e with
    | returned v => exact hr v w' he
    | panicked c => exact he.elim
    | outgrown => exact he.elim⟩
/-- A call that returns v, the world as it was. -/
def CallsP (P : Program) (f : FuncId) (args : List Value) (v : Value) : Prop := ∀ w, CallsV P f args w fun v' w' => v' = v ∧ w' = w
/-- f is a function with a body: a call of it enters it. -/
structure IsFn (P : Program) (f : FuncId) : Prop where
  out : ∀ args w, (callFunc f args).run P w = .ok (.enter f args) w
theorem isFn_of {f : FuncId} {fn : Func} (hf : P.funcs[f]? = some fn) (hb : fn.body.isSome = true) (hn : (fn.name == "runtime.NumGoroutine") = false) : IsFn P f := by
  constructor
  intro args w
  have hb' : ¬ fn.body = none := by cases h : fn.body <;> simp_all
  have hn' : ¬ fn.name = "runtime.NumGoroutine" := by simpa using hn
  simp only [callFunc, Sem.run_bind, run_program, Result.andThen_ok, hf, beq_iff_eq, if_neg hn', Option.isNone_iff_eq_none, if_neg hb', Sem.run_pure]

/-- What a call's result is put into. -/
def Put (fr : List Value) (dst : Option Tmp) (v : Value) (K : List Value → Prop) : Prop := ∀ fr', Dt fr dst v fr' → K fr'
theorem Dt.uniq {fr a b : List Value} {dst : Option Tmp} {v : Value} (h : Dt fr dst v a) (k : Dt fr dst v b) : a = b := by
  have := (h []).symm.trans (k [])
  unfold F at this
  simpa using this
/-- The result is put. -/
theorem pu {v : Value} {K : List Value → Prop} (hp : Dt fr dst v fr') (h : K fr') : Put fr dst v K := fun fr'' h'' => by rw [Dt.uniq h'' hp]; exact h
theorem dt_ex (fr : List Value) (dst : Option Tmp) (v : Value) : ∃ fr', Dt fr dst v fr' := by
  cases dst with
  | none => exact ⟨fr, dn⟩
  | some n => exact ⟨fr.set n v, dt rfl⟩
theorem op_call {o : Oper} {f : FuncId} {args : List Value} {R : Value → World → Prop} (hr : (execOp (F fr ds).eval o).run P w = .ok (.enter f ⟨args⟩) w) (hc : CallsV P f args w R)
    (h : ∀ v w', R v w' → Put fr o.dst v fun fr' => K fr' ds w') : OW P o fr ds w K Q := by
  constructor
  intro K2 hK
  unfold Oper.wp
  rw [hr, Oper.upon_enter]
  exact Calls.mono hc.out fun e w' he => by
    cases e with
    | returned v =>
      obtain ⟨fr', hd⟩ := dt_ex fr o.dst v
      exact hd.rw (hK _ _ _ (h v w' he fr' hd))
    | panicked c => exact he.elim
    | outgrown => exact he.elim
theorem run_call {f : Operand} {xs : List Operand} {tys : Array TypeId} {k : FuncId} {cap vs : List Value} (hk : IsFn P k) (hf : Ev fr f (.func (.func k) #[] ⟨cap⟩)) (hs : Evs fr xs vs) :
    (execOp (F fr ds).eval (Oper.mk dst (.call { callee := .value f, args := ⟨xs⟩, argTypes := tys }) ty pos after g)).run P w = .ok (.enter k ⟨vs ++ cap⟩) w := by
  have h1 := hf ds
  have h2 := hs ds
  have hk' := hk.out ⟨vs ++ cap⟩ w
  simp [execOp, resolve, h1, Deferred.ofValue, invoke, h2, hk']
/-- A call of a function by its contract. -/
theorem s_callv {f : Operand} {xs : List Operand} {tys : Array TypeId} {k : FuncId} {vs : List Value} {R : Value → World → Prop} (hk : IsFn P k) (hf : Ev fr f (.func (.func k) #[] #[])) (hs : Evs fr xs vs)
    (hc : CallsV P k vs w R) (h : ∀ v w', R v w' → Put fr dst v fun fr' => K fr' ds w') : OW P (Oper.mk dst (.call { callee := .value f, args := ⟨xs⟩, argTypes := tys }) ty pos after g) fr ds w K Q := by
  refine op_call (args := vs) ?_ hc h
  have := run_call (w := w) (dst := dst) (ty := ty) (pos := pos) (after := after) (g := g) (tys := tys) (ds := ds) (cap := []) hk hf hs
  simpa using this
/-- A call of a function that changes nothing. -/
theorem s_callp {f : Operand} {xs : List Operand} {tys : Array TypeId} {k : FuncId} {vs : List Value} {v : Value} (hk : IsFn P k) (hf : Ev fr f (.func (.func k) #[] #[])) (hs : Evs fr xs vs)
    (hc : CallsP P k vs v) (hp : Dt fr dst v fr') (h : K fr' ds w) : OW P (Oper.mk dst (.call { callee := .value f, args := ⟨xs⟩, argTypes := tys }) ty pos after g) fr ds w K Q :=
  s_callv hk hf hs (hc w) fun v' w' ⟨h1, h2⟩ => by subst h1; subst h2; exact pu hp h
/-- A call of a closure. -/
theorem s_callc {f : Operand} {xs : List Operand} {tys : Array TypeId} {k : FuncId} {cap vs : List Value} {R : Value → World → Prop} (hk : IsFn P k) (hf : Ev fr f (.func (.func k) #[] ⟨cap⟩)) (hs : Evs fr xs vs)
    (hc : CallsV P k (vs ++ cap) w R) (h : ∀ v w', R v w' → Put fr dst v fun fr' => K fr' ds w') : OW P (Oper.mk dst (.call { callee := .value f, args := ⟨xs⟩, argTypes := tys }) ty pos after g) fr ds w K Q :=
  op_call (run_call hk hf hs) hc h

/- entry and end -/
/-- The end of a function that returns. -/
def Post (P : Program) (fn : Func) (R : Value → World → Prop) : Exit → Act → World → Prop := bodyPost P fn fun e w' => match e with | .returned v => R v w' | _ => False
theorem enter {f : FuncId} {fn : Func} {c : Code} {args frm : List Value} {R : Value → World → Prop} (hf : P.funcs[f]? = some fn) (hb : fn.body = some c)
    (hfr : args ++ List.replicate (fn.ntmps - args.length) undef = frm) (h : CW P c (Post P fn R) frm [] w) : CallsV P f args w R := by
  refine ⟨calls_of_wp hf hb ?_⟩
  subst hfr
  have : (⟨args⟩ : Array Value) ++ Array.replicate (fn.ntmps - args.length) undef = ⟨args ++ List.replicate (fn.ntmps - args.length) undef⟩ := by
    apply Array.ext'
    simp
  have h := h.out
  simpa [F, Post, this] using h
theorem ret1 {fn : Func} {R : Value → World → Prop} {t : Tmp} {v : Value} (hr : fn.results = #[.tmp t]) (hl : Lk fr t v) (h : R v w) : Post P fn R .ret (F fr []) w := by
  refine bodyPost_ret (v := v) ?_ rfl h
  unfold Lk at hl
  rw [results_tmp hr]
  simp [F, hl]
theorem ret2 {fn : Func} {R : Value → World → Prop} {t u : Tmp} {v v' : Value} (hr : fn.results = #[.tmp t, .tmp u]) (hl : Lk fr t v) (hl' : Lk fr u v') (h : R (.tuple #[v, v']) w) : Post P fn R .ret (F fr []) w := by
  refine bodyPost_ret (v := .tuple #[v, v']) ?_ rfl h
  unfold Lk at hl hl'
  rw [results_tmp2 hr]
  simp [F, hl, hl']
theorem end0 {fn : Func} {R : Value → World → Prop} (hr : fn.results = #[]) (h : R (.tuple #[]) w) : Post P fn R .normal (F fr []) w :=
  bodyPost_end (results_none hr _ _ _) rfl h
theorem ret0 {fn : Func} {R : Value → World → Prop} (hr : fn.results = #[]) (h : R (.tuple #[]) w) : Post P fn R .ret (F fr []) w :=
  bodyPost_ret (results_none hr _ _ _) rfl h
end
end Go.Wk
