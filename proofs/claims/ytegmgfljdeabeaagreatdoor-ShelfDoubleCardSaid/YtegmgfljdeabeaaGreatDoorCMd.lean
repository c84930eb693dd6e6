/- ShelfDouble: texts of Md. -/
import Derived.Test.YtegmgfljdeabeaaGreatDoorCXu
set_option linter.unusedSimpArgs false
set_option linter.unusedVariables false
set_option linter.unusedSectionVars false
namespace Go.Y
open Go.Wk Go.Xt
structure TExpr where
 Kind : Int
 N : Int
 Name : List UInt8
 Kids : List TExpr
 deriving Inhabited, Repr
structure TStat where
 Kind : Int
 Name : List UInt8
 X : TExpr
 Body : List TStat
 Else : List TStat
 deriving Inhabited, Repr
def Els {α : Type} (sz : Nat) (μ : M) (a : Option Addr) (c : Nat) (xs : List α) (g : Nat → List Value) : Prop :=
 xs.length ≤ c ∧ c ≤ maxLen ∧ (xs = [] ∨ ∃ b o, a = some ⟨b, o, none⟩ ∧ ∀ (i : Nat) (y : α), xs[i]? = some y → At μ b (o + i * sz) (g i))
inductive ExprCs (μ : M) : List Value → TExpr → Prop where
 | mk (x : TExpr) (a : Option Addr) (c : Nat) (g : Nat → List Value) (h : Els 4 μ a c x.Kids g) (k : ∀ (i : Nat) (y : TExpr), x.Kids[i]? = some y → ExprCs μ (g i) y) :
  ExprCs μ [.int .i64 x.Kind, .int .i64 x.N, S x.Name, .slice a x.Kids.length c] x
theorem Els.sl {α : Type} {sz : Nat} {μ : M} {a : Option Addr} {c : Nat} {xs : List α} {g : Nat → List Value} {R : List Value → α → Prop} (h : Els sz μ a c xs g) (k : ∀ (i : Nat) (y : α), xs[i]? = some y → R (g i) y) : SlR sz R μ a c xs := by
 refine ⟨h.1, h.2.1, ?_⟩
 rcases h.2.2 with h | ⟨b, o, ha, hg⟩
 ·exact .inl h
 ·exact .inr ⟨b, o, ha, g, fun i x hx => ⟨hg i x hx, k i x hx⟩⟩
theorem Els.of {α : Type} {sz : Nat} {μ : M} {a : Option Addr} {c : Nat} {xs : List α} {R : List Value → α → Prop} (h : SlR sz R μ a c xs) : ∃ g, Els sz μ a c xs g ∧ ∀ (i : Nat) (y : α), xs[i]? = some y → R (g i) y := by
 rcases h.el with h1 | ⟨b, o, ha, g, hg⟩
 ·exact ⟨fun _ => [], ⟨h.le, h.cap, .inl h1⟩, fun i y hy => by simp [h1] at hy⟩
 ·exact ⟨g, ⟨h.le, h.cap, .inr ⟨b, o, ha, fun i y hy => (hg i y hy).1⟩⟩, fun i y hy => (hg i y hy).2⟩
theorem Els.up {α : Type} {sz : Nat} {μ μ' : M} {a : Option Addr} {c : Nat} {xs : List α} {g : Nat → List Value} (h : Els sz μ a c xs g) (l : Le μ μ') : Els sz μ' a c xs g := by
 refine ⟨h.1, h.2.1, ?_⟩
 rcases h.2.2 with h | ⟨b, o, ha, hg⟩
 ·exact .inl h
 ·exact .inr ⟨b, o, ha, fun i y hy => (hg i y hy).up l⟩
theorem ExprCs.up {μ μ' : M} (l : Le μ μ') {cs : List Value} {x : TExpr} (h : ExprCs μ cs x) : ExprCs μ' cs x := by
 induction h with
 | mk x a c g h k ih => exact .mk x a c g (h.up l) ih
instance : Mo TExpr where
 sz := 4
 pos := by decide
 cs := ExprCs
 ln h := by cases h; rfl
 up l h := ExprCs.up l h
 cv h := by cases h; rfl
theorem TExpr.o {μ : M} {l : List Value} {x : TExpr} (h : Mo.cs μ l x) : ∃ a c, l = [.int .i64 x.Kind, .int .i64 x.N, S x.Name, .slice a x.Kids.length c] ∧ Sl μ a c x.Kids := by
 have hh : ExprCs μ l x := h
 cases hh with
 | mk _ a c g h1 k1 => exact ⟨a, c, rfl, h1.sl k1⟩
theorem TExpr.i {μ : M} {l : List Value} {x : TExpr} (h : ∃ a c, l = [.int .i64 x.Kind, .int .i64 x.N, S x.Name, .slice a x.Kids.length c] ∧ Sl μ a c x.Kids) : Mo.cs μ l x := by
 obtain ⟨a, c, rfl, h⟩ := h
 obtain ⟨g, h, k⟩ := Els.of h
 exact ExprCs.mk x a c g h k
inductive StatCs (μ : M) : List Value → TStat → Prop where
 | mk (x : TStat) (a1 : Option Addr) (c1 : Nat) (a2 : Option Addr) (c2 : Nat) (a3 : Option Addr) (c3 : Nat) (g2 g3 : Nat → List Value) (h1 : Sl μ a1 c1 x.X.Kids)
   (h2 : Els 8 μ a2 c2 x.Body g2) (k2 : ∀ (i : Nat) (y : TStat), x.Body[i]? = some y → StatCs μ (g2 i) y)
   (h3 : Els 8 μ a3 c3 x.Else g3) (k3 : ∀ (i : Nat) (y : TStat), x.Else[i]? = some y → StatCs μ (g3 i) y) :
  StatCs μ [.int .i64 x.Kind, S x.Name, .int .i64 x.X.Kind, .int .i64 x.X.N, S x.X.Name, .slice a1 x.X.Kids.length c1, .slice a2 x.Body.length c2, .slice a3 x.Else.length c3] x
theorem StatCs.up {μ μ' : M} (l : Le μ μ') {cs : List Value} {x : TStat} (h : StatCs μ cs x) : StatCs μ' cs x := by
 induction h with
 | mk x a1 c1 a2 c2 a3 c3 g2 g3 h1 h2 k2 h3 k3 ih2 ih3 => exact .mk x a1 c1 a2 c2 a3 c3 g2 g3 (h1.up l) (h2.up l) ih2 (h3.up l) ih3
instance : Mo TStat where
 sz := 8
 pos := by decide
 cs := StatCs
 ln h := by cases h; rfl
 up l h := StatCs.up l h
 cv h := by cases h; rfl
theorem TStat.o {μ : M} {l : List Value} {x : TStat} (h : Mo.cs μ l x) : ∃ a1 c1 a2 c2 a3 c3, l = [.int .i64 x.Kind, S x.Name, .int .i64 x.X.Kind, .int .i64 x.X.N, S x.X.Name, .slice a1 x.X.Kids.length c1, .slice a2 x.Body.length c2, .slice a3 x.Else.length c3] ∧ Sl μ a1 c1 x.X.Kids ∧ Sl μ a2 c2 x.Body ∧ Sl μ a3 c3 x.Else := by
 have hh : StatCs μ l x := h
 cases hh with
 | mk _ a1 c1 a2 c2 a3 c3 g2 g3 h1 h2 k2 h3 k3 => exact ⟨a1, c1, a2, c2, a3, c3, rfl, h1, h2.sl k2, h3.sl k3⟩
theorem TStat.i {μ : M} {l : List Value} {x : TStat} (h : ∃ a1 c1 a2 c2 a3 c3, l = [.int .i64 x.Kind, S x.Name, .int .i64 x.X.Kind, .int .i64 x.X.N, S x.X.Name, .slice a1 x.X.Kids.length c1, .slice a2 x.Body.length c2, .slice a3 x.Else.length c3] ∧ Sl μ a1 c1 x.X.Kids ∧ Sl μ a2 c2 x.Body ∧ Sl μ a3 c3 x.Else) : Mo.cs μ l x := by
 obtain ⟨a1, c1, a2, c2, a3, c3, rfl, h1, h2, h3⟩ := h
 obtain ⟨g2, h2, k2⟩ := Els.of h2
 obtain ⟨g3, h3, k3⟩ := Els.of h3
 exact StatCs.mk x a1 c1 a2 c2 a3 c3 g2 g3 h1 h2 k2 h3 k3
structure TToken where
 Kind : Int
 Text : List UInt8
 Num : Int
 At : Int
 deriving DecidableEq, Inhabited, Repr
instance : Mo TToken where
 sz := 4
 pos := by decide
 cs μ l x := l = [.int .i64 x.Kind, S x.Text, .int .i64 x.Num, .int .i64 x.At]
 ln h := by obtain rfl := h; rfl
 up le h := by exact h
 cv h := by obtain rfl := h; rfl
structure TFault where
 Err : Int
 At : Int
 deriving DecidableEq, Inhabited, Repr
structure TType where
 Kind : Int
 Gen : List UInt8
 deriving DecidableEq, Inhabited, Repr
instance : Mo TType where
 sz := 2
 pos := by decide
 cs μ l x := l = [.int .i64 x.Kind, S x.Gen]
 ln h := by obtain rfl := h; rfl
 up le h := by exact h
 cv h := by obtain rfl := h; rfl
structure TParam where
 Name : List UInt8
 Typ : TType
 deriving DecidableEq, Inhabited, Repr
instance : Mo TParam where
 sz := 3
 pos := by decide
 cs μ l x := l = [S x.Name, .int .i64 x.Typ.Kind, S x.Typ.Gen]
 ln h := by obtain rfl := h; rfl
 up le h := by exact h
 cv h := by obtain rfl := h; rfl
structure TDef where
 Kind : Int
 Name : List UInt8
 Typ : TType
 Takes : TType
 Cap : Int
 Params : List TParam
 Body : List TStat
 deriving Inhabited, Repr
instance : Mo TDef where
 sz := 9
 pos := by decide
 cs μ l x := ∃ a1 c1 a2 c2, l = [.int .i64 x.Kind, S x.Name, .int .i64 x.Typ.Kind, S x.Typ.Gen, .int .i64 x.Takes.Kind, S x.Takes.Gen, .int .i64 x.Cap, .slice a1 x.Params.length c1, .slice a2 x.Body.length c2] ∧ Sl μ a1 c1 x.Params ∧ Sl μ a2 c2 x.Body
 ln h := by obtain ⟨a1, c1, a2, c2, rfl, m1, m2⟩ := h; rfl
 up le h := by obtain ⟨a1, c1, a2, c2, rfl, m1, m2⟩ := h; exact ⟨a1, c1, a2, c2, rfl, m1.up le, m2.up le⟩
 cv h := by obtain ⟨a1, c1, a2, c2, rfl, m1, m2⟩ := h; rfl
theorem TDef.i {μ : M} {l : List Value} {x : TDef} (h : ∃ a1 c1 a2 c2, l = [.int .i64 x.Kind, S x.Name, .int .i64 x.Typ.Kind, S x.Typ.Gen, .int .i64 x.Takes.Kind, S x.Takes.Gen, .int .i64 x.Cap, .slice a1 x.Params.length c1, .slice a2 x.Body.length c2] ∧ Sl μ a1 c1 x.Params ∧ Sl μ a2 c2 x.Body) : Mo.cs μ l x := h
structure TOwner where
 Box : List UInt8
 Writer : List UInt8
 Reader : List UInt8
 deriving DecidableEq, Inhabited, Repr
instance : Mo TOwner where
 sz := 3
 pos := by decide
 cs μ l x := l = [S x.Box, S x.Writer, S x.Reader]
 ln h := by obtain rfl := h; rfl
 up le h := by exact h
 cv h := by obtain rfl := h; rfl
instance : MV TType := ⟨Av, Av.up⟩
instance : MV TDef := ⟨Pv, Pv.up⟩
structure TSemaProgram where
 defs : List TDef
 named : List (List UInt8 × TDef)
 deriving Inhabited, Repr
structure TSemaUses where
 calls : List (List UInt8)
 sends : List (List UInt8)
 recvs : List (List UInt8)
 deriving DecidableEq, Inhabited, Repr
instance : Mo TSemaUses where
 sz := 3
 pos := by decide
 cs μ l x := ∃ a1 c1 a2 c2 a3 c3, l = [.slice a1 x.calls.length c1, .slice a2 x.sends.length c2, .slice a3 x.recvs.length c3] ∧ Sl μ a1 c1 x.calls ∧ Sl μ a2 c2 x.sends ∧ Sl μ a3 c3 x.recvs
 ln h := by obtain ⟨a1, c1, a2, c2, a3, c3, rfl, m1, m2, m3⟩ := h; rfl
 up le h := by obtain ⟨a1, c1, a2, c2, a3, c3, rfl, m1, m2, m3⟩ := h; exact ⟨a1, c1, a2, c2, a3, c3, rfl, m1.up le, m2.up le, m3.up le⟩
 cv h := by obtain ⟨a1, c1, a2, c2, a3, c3, rfl, m1, m2, m3⟩ := h; rfl
theorem TSemaUses.i {μ : M} {l : List Value} {x : TSemaUses} (h : ∃ a1 c1 a2 c2 a3 c3, l = [.slice a1 x.calls.length c1, .slice a2 x.sends.length c2, .slice a3 x.recvs.length c3] ∧ Sl μ a1 c1 x.calls ∧ Sl μ a2 c2 x.sends ∧ Sl μ a3 c3 x.recvs) : Mo.cs μ l x := h
structure TSynLevel where
 signs : List (List UInt8 × Int)
 once : Bool
 deriving DecidableEq, Inhabited, Repr
instance : Mo TSynLevel where
 sz := 2
 pos := by decide
 cs μ l x := ∃ b1, l = [.map (some b1), .bool x.once] ∧ Mr μ b1 x.signs
 ln h := by obtain ⟨b1, rfl, m1⟩ := h; rfl
 up le h := by obtain ⟨b1, rfl, m1⟩ := h; exact ⟨b1, rfl, m1.up le⟩
 cv h := by obtain ⟨b1, rfl, m1⟩ := h; rfl
theorem TSynLevel.i {μ : M} {l : List Value} {x : TSynLevel} (h : ∃ b1, l = [.map (some b1), .bool x.once] ∧ Mr μ b1 x.signs) : Mo.cs μ l x := h
structure TGenTable where
 boxes : List (List UInt8 × Int)
 units : List (List UInt8 × Int)
 defs : List (List UInt8 × TDef)
 deriving Inhabited, Repr
instance : MV TSemaUses := ⟨Av, Av.up⟩
structure TBoxInfo where
 Typ : Int
 Cap : Int
 deriving DecidableEq, Inhabited, Repr
instance : Mo TBoxInfo where
 sz := 2
 pos := by decide
 cs μ l x := l = [.int .i64 x.Typ, .int .i64 x.Cap]
 ln h := by obtain rfl := h; rfl
 up le h := by exact h
 cv h := by obtain rfl := h; rfl
structure TInstr where
 Op : Int
 A : Int
 N : Int
 deriving DecidableEq, Inhabited, Repr
instance : Mo TInstr where
 sz := 3
 pos := by decide
 cs μ l x := l = [.int .i64 x.Op, .int .i64 x.A, .int .i64 x.N]
 ln h := by obtain rfl := h; rfl
 up le h := by exact h
 cv h := by obtain rfl := h; rfl
structure TUnit where
 Kind : Int
 Params : Int
 Locals : List Int
 Result : Int
 Takes : Int
 Code : List TInstr
 deriving DecidableEq, Inhabited, Repr
instance : Mo TUnit where
 sz := 6
 pos := by decide
 cs μ l x := ∃ a1 c1 a2 c2, l = [.int .i64 x.Kind, .int .i64 x.Params, .slice a1 x.Locals.length c1, .int .i64 x.Result, .int .i64 x.Takes, .slice a2 x.Code.length c2] ∧ Sl μ a1 c1 x.Locals ∧ Sl μ a2 c2 x.Code
 ln h := by obtain ⟨a1, c1, a2, c2, rfl, m1, m2⟩ := h; rfl
 up le h := by obtain ⟨a1, c1, a2, c2, rfl, m1, m2⟩ := h; exact ⟨a1, c1, a2, c2, rfl, m1.up le, m2.up le⟩
 cv h := by obtain ⟨a1, c1, a2, c2, rfl, m1, m2⟩ := h; rfl
theorem TUnit.i {μ : M} {l : List Value} {x : TUnit} (h : ∃ a1 c1 a2 c2, l = [.int .i64 x.Kind, .int .i64 x.Params, .slice a1 x.Locals.length c1, .int .i64 x.Result, .int .i64 x.Takes, .slice a2 x.Code.length c2] ∧ Sl μ a1 c1 x.Locals ∧ Sl μ a2 c2 x.Code) : Mo.cs μ l x := h
structure TModule where
 Boxes : List TBoxInfo
 Units : List TUnit
 deriving DecidableEq, Inhabited, Repr
instance : Mo TModule where
 sz := 2
 pos := by decide
 cs μ l x := ∃ a1 c1 a2 c2, l = [.slice a1 x.Boxes.length c1, .slice a2 x.Units.length c2] ∧ Sl μ a1 c1 x.Boxes ∧ Sl μ a2 c2 x.Units
 ln h := by obtain ⟨a1, c1, a2, c2, rfl, m1, m2⟩ := h; rfl
 up le h := by obtain ⟨a1, c1, a2, c2, rfl, m1, m2⟩ := h; exact ⟨a1, c1, a2, c2, rfl, m1.up le, m2.up le⟩
 cv h := by obtain ⟨a1, c1, a2, c2, rfl, m1, m2⟩ := h; rfl
theorem TModule.i {μ : M} {l : List Value} {x : TModule} (h : ∃ a1 c1 a2 c2, l = [.slice a1 x.Boxes.length c1, .slice a2 x.Units.length c2] ∧ Sl μ a1 c1 x.Boxes ∧ Sl μ a2 c2 x.Units) : Mo.cs μ l x := h
structure TWhere where
 Err : Int
 Unit : Int
 At : Int
 deriving DecidableEq, Inhabited, Repr
structure TReport where
 State : Int
 Box : Int
 Trap : Int
 Out : List Int
 Sent : List (List Int)
 Took : List Int
 Steps : Int
 deriving DecidableEq, Inhabited, Repr
structure TShelfOne where
 name : List UInt8
 text : List UInt8
 deriving DecidableEq, Inhabited, Repr
instance : Mo TShelfOne where
 sz := 2
 pos := by decide
 cs μ l x := l = [S x.name, S x.text]
 ln h := by obtain rfl := h; rfl
 up le h := by exact h
 cv h := by obtain rfl := h; rfl
structure TVerifyShape where
 stack : List Int
 has : List Bool
 deriving DecidableEq, Inhabited, Repr
instance : Mo TVerifyShape where
 sz := 2
 pos := by decide
 cs μ l x := ∃ a1 c1 a2 c2, l = [.slice a1 x.stack.length c1, .slice a2 x.has.length c2] ∧ Sl μ a1 c1 x.stack ∧ Sl μ a2 c2 x.has
 ln h := by obtain ⟨a1, c1, a2, c2, rfl, m1, m2⟩ := h; rfl
 up le h := by obtain ⟨a1, c1, a2, c2, rfl, m1, m2⟩ := h; exact ⟨a1, c1, a2, c2, rfl, m1.up le, m2.up le⟩
 cv h := by obtain ⟨a1, c1, a2, c2, rfl, m1, m2⟩ := h; rfl
theorem TVerifyShape.i {μ : M} {l : List Value} {x : TVerifyShape} (h : ∃ a1 c1 a2 c2, l = [.slice a1 x.stack.length c1, .slice a2 x.has.length c2] ∧ Sl μ a1 c1 x.stack ∧ Sl μ a2 c2 x.has) : Mo.cs μ l x := h
structure TVerifyChecker where
 m : Option TModule
 deriving DecidableEq, Inhabited, Repr
instance : Mo TVerifyChecker where
 sz := 1
 pos := by decide
 cs μ l x := ∃ v1, l = [v1] ∧ Np μ v1 x.m
 ln h := by obtain ⟨v1, rfl, m1⟩ := h; rfl
 up le h := by obtain ⟨v1, rfl, m1⟩ := h; exact ⟨v1, rfl, m1.up le⟩
 cv h := by obtain ⟨v1, rfl, m1⟩ := h; simp [m1.cellV]
theorem TVerifyChecker.i {μ : M} {l : List Value} {x : TVerifyChecker} (h : ∃ v1, l = [v1] ∧ Np μ v1 x.m) : Mo.cs μ l x := h
instance : MV TVerifyShape := ⟨Av, Av.up⟩
end Go.Y
namespace Go.Y
open Go.Lx Go.Wk Go.Xt
def tokOf (t : Tok) : TToken := ⟨t.kind, t.text, t.num, t.pos⟩
def lex_named (l : List UInt8) : Option Bool := if l.length ≤ 140737488355328 then some (named l) else none
def lex_tokens (l : List UInt8) : Option (List TToken × TFault) := if l.length ≤ 140737488355328 then some (match tokens l with | .error (e, a) => ([], ⟨e, a⟩) | .ok ts => (ts.map tokOf, ⟨0, 0⟩)) else none
end Go.Y
namespace Go.Y
open Go.Wk Go.Xt
def syn_kids_j1 (p_1 : Int) (b1 : Bool) : Option Int :=
 if b1 = true then
  some 0
 else
  if p_1 ≤ 5 then
   none
  else
   if p_1 = 21 then
    none
   else
    if p_1 = 24 then
     none
    else
     if p_1 ≤ 18 then
      some 2
     else
      none
def syn_kids  (p_1 : Int) : Option Int :=
 if p_1 ≤ 3 then
  syn_kids_j1 p_1 true
 else
  syn_kids_j1 p_1 (decide (p_1 = 20))
def syn_node  (node_2 : Int) (p_2 : Int) : Option (Int × Int) :=
 Option.bind (i64 (node_2 + 1)) fun i3 =>
 if (2000 : Int) < i3 then
  none
 else
  if (40 : Int) < p_2 then
   none
  else
   some (0, i3)
def syn_typ  (p_1 : TType) : Option Int :=
 if p_1.Kind < 1 then
  none
 else
  if (3 : Int) < p_1.Kind then
   none
  else
   if p_1.Kind = 3 then
    none
   else
    some 0
structure SynExpr where
 syn_expr : Int → TExpr → Int → Option (Int × Int)
def syn_expr_l1 (self : SynExpr) (p_2 : TExpr) (p_3 : Int) : Nat → Int → Int → Option (Int × Int)
 | 0, _, _ => none
 | n + 1, i59, i60 =>
  if i59 < (p_2.Kids.length : Int) then
   Option.bind (at_ p_2.Kids i59) fun x81 =>
   Option.bind (i64 (p_3 + 1)) fun i92 =>
   Option.bind (self.syn_expr i60 x81 i92) fun r94 =>
   if r94.1 ≠ 0 then
    none
   else
    Option.bind (i64 (i59 + 1)) fun i98 =>
    syn_expr_l1 self p_2 p_3 n i98 r94.2
  else
   some (0, i60)
def syn_expr_j3 (self : SynExpr) (p_2 : TExpr) (p_3 : Int) (r9 : Int × Int) (r15 : Int) (b28 : Bool) : Option (Int × Int) :=
 if b28 = true then
  none
 else
  if (0 : Int) ≤ r15 then
   if (p_2.Kids.length : Int) ≠ r15 then
    none
   else
    if r15 < 0 then
     none
    else
     syn_expr_l1 self p_2 p_3 (p_2.Kids.length + 1) 0 r9.2
  else
   none
def syn_expr_j2 (self : SynExpr) (p_2 : TExpr) (p_3 : Int) (r9 : Int × Int) (r15 : Int) (b22 : Bool) : Option (Int × Int) :=
 if b22 = true then
  none
 else
  if p_2.Kind = 3 then
   Option.bind (lex_named p_2.Name) fun b30 =>
   syn_expr_j3 self p_2 p_3 r9 r15 (!b30)
  else
   if p_2.Kind = 20 then
    Option.bind (lex_named p_2.Name) fun b33 =>
    syn_expr_j3 self p_2 p_3 r9 r15 (!b33)
   else
    if r15 < 0 then
     none
    else
     syn_expr_j3 self p_2 p_3 r9 r15 false
def syn_expr_j1 (self : SynExpr) (p_2 : TExpr) (p_3 : Int) (r9 : Int × Int) (r15 : Int) (b18 : Bool) : Option (Int × Int) :=
 if b18 = true then
  none
 else
  if p_2.Kind = 2 then
   if p_2.N ≠ 0 then
    syn_expr_j2 self p_2 p_3 r9 r15 (decide (p_2.N ≠ 1))
   else
    none
  else
   syn_expr_j2 self p_2 p_3 r9 r15 false
def syn_expr (self : SynExpr) (node_2 : Int) (p_2 : TExpr) (p_3 : Int) : Option (Int × Int) :=
 Option.bind (syn_node node_2 p_3) fun r9 =>
 if r9.1 ≠ 0 then
  none
 else
  if p_2.Kind < 1 then
   none
  else
   if (24 : Int) < p_2.Kind then
    none
   else
    Option.bind (syn_kids p_2.Kind) fun r15 =>
    if p_2.Kind = 1 then
     if p_2.N < 0 then
      none
     else
      syn_expr_j1 self p_2 p_3 r9 r15 (decide ((999999999999999 : Int) < p_2.N))
    else
     syn_expr_j1 self p_2 p_3 r9 r15 false
def SynExpr_run : Nat → SynExpr
 | 0 => ⟨fun _ _ _ => none⟩
 | n + 1 => ⟨syn_expr (SynExpr_run n)⟩
structure SynStat where
 syn_stats : Int → (List TStat) → Int → Option (Int × Int)
 syn_stat : Int → TStat → Int → Option (Int × Int)
def syn_stats_l1 (self : SynStat) (p_2 : List TStat) (p_3 : Int) : Nat → Int → Int → Option (Int × Int)
 | 0, _, _ => none
 | n + 1, i29, i30 =>
  if i29 < (p_2.length : Int) then
   Option.bind (at_ p_2 i29) fun x55 =>
   Option.bind (self.syn_stat i30 x55 p_3) fun r72 =>
   if r72.1 ≠ 0 then
    none
   else
    Option.bind (i64 (i29 + 1)) fun i76 =>
    syn_stats_l1 self p_2 p_3 n i76 r72.2
  else
   some (0, i30)
def syn_stats (self : SynStat) (node_2 : Int) (p_2 : List TStat) (p_3 : Int) : Option (Int × Int) :=
 if (50 : Int) < (p_2.length : Int) then
  none
 else
  syn_stats_l1 self p_2 p_3 (p_2.length + 1) 0 node_2
def syn_stat_j2 (p_2 : TStat) (i40 : Int) : Option (Int × Int) :=
 if p_2.Kind = 3 then
  none
 else
  some (0, i40)
def syn_stat_j1 (fu : Nat) (self : SynStat) (p_2 : TStat) (p_3 : Int) (r15 : Int × Int) (b21 : Bool) : Option (Int × Int) :=
 if b21 = true then
  none
 else
  if p_2.Kind = 6 then
   none
  else
   Option.bind (i64 (p_3 + 1)) fun i33 =>
   Option.bind ((SynExpr_run fu).syn_expr r15.2 p_2.X i33) fun r35 =>
   if r35.1 ≠ 0 then
    none
   else
    if p_2.Kind = 3 then
     none
    else
     if p_2.Kind = 4 then
      Option.bind (i64 (p_3 + 1)) fun i42 =>
      Option.bind (self.syn_stats r35.2 p_2.Body i42) fun r44 =>
      if r44.1 ≠ 0 then
       none
      else
       syn_stat_j2 p_2 r44.2
     else
      syn_stat_j2 p_2 r35.2
def syn_stat (fu : Nat) (self : SynStat) (node_2 : Int) (p_2 : TStat) (p_3 : Int) : Option (Int × Int) :=
 Option.bind (syn_node node_2 p_3) fun r15 =>
 if r15.1 ≠ 0 then
  none
 else
  if p_2.Kind < 1 then
   none
  else
   if (9 : Int) < p_2.Kind then
    none
   else
    if p_2.Kind = 1 then
     Option.bind (lex_named p_2.Name) fun b23 =>
     syn_stat_j1 fu self p_2 p_3 r15 (!b23)
    else
     if p_2.Kind = 2 then
      Option.bind (lex_named p_2.Name) fun b26 =>
      syn_stat_j1 fu self p_2 p_3 r15 (!b26)
     else
      if p_2.Kind = 7 then
       none
      else
       syn_stat_j1 fu self p_2 p_3 r15 false
def SynStat_run : Nat → SynStat
 | 0 => ⟨fun _ _ _ => none, fun _ _ _ => none⟩
 | n + 1 => ⟨syn_stats (SynStat_run n), syn_stat n (SynStat_run n)⟩
def syn_def_j1 (fu : Nat) (p_2 : TDef) (r12 : Int × Int)  : Option (Int × Int) :=
 if p_2.Kind ≠ 1 then
  Option.bind ((SynStat_run fu).syn_stats r12.2 p_2.Body 2) fun r31 =>
  some (r31.1, r31.2)
 else
  if p_2.Cap < 1 then
   none
  else
   if (20 : Int) < p_2.Cap then
    none
   else
    some (0, r12.2)
def syn_def (fu : Nat)  (node_2 : Int) (p_2 : TDef) : Option (Int × Int) :=
 Option.bind (syn_node node_2 1) fun r12 =>
 if r12.1 ≠ 0 then
  none
 else
  if p_2.Kind < 1 then
   none
  else
   if (4 : Int) < p_2.Kind then
    none
   else
    Option.bind (lex_named p_2.Name) fun b18 =>
    if b18 = true then
     if p_2.Kind = 2 then
      none
     else
      if p_2.Kind = 3 then
       none
      else
       if p_2.Kind = 3 then
        none
       else
        if p_2.Kind ≠ 4 then
         Option.bind (syn_typ p_2.Typ) fun r25 =>
         if r25 ≠ 0 then
          none
         else
          syn_def_j1 fu p_2 r12
        else
         syn_def_j1 fu p_2 r12
    else
     none
def syn_wrong_l1 (fu : Nat) (p_1 : List TDef) : Nat → Int → Int → Option TFault
 | 0, _, _ => none
 | n + 1, i28, i29 =>
  if i28 < (p_1.length : Int) then
   Option.bind (at_ p_1 i28) fun x51 =>
   Option.bind (syn_def fu i29 x51) fun r65 =>
   if r65.1 ≠ 0 then
    none
   else
    Option.bind (i64 (i28 + 1)) fun i69 =>
    syn_wrong_l1 fu p_1 n i69 r65.2
  else
   some (TFault.mk 0 0)
def syn_wrong (fu : Nat)  (p_1 : List TDef) : Option TFault :=
 if (30 : Int) < (p_1.length : Int) then
  none
 else
  syn_wrong_l1 fu p_1 (p_1.length + 1) 0 0
end Go.Y
namespace Go.Y
open Go.Wk Go.Xt
def p_at  (left_2 : List TToken) (end_6 : Int) (deep_7 : Int) : Option Int :=
 if (left_2.length : Int) = 0 then
  none
 else
  Option.bind (at_ left_2 0) fun x9 =>
  some x9.At
def p_sees  (left_2 : List TToken) (end_6 : Int) (deep_7 : Int) (p_2 : List UInt8) : Option Bool :=
 if (0 : Int) < (left_2.length : Int) then
  Option.bind (at_ left_2 0) fun x9 =>
  some (decide (x9.Text = p_2))
 else
  none
def p_is  (left_2 : List TToken) (end_6 : Int) (deep_7 : Int) (p_2 : List UInt8) : Option (Bool × List TToken × Int × Int) :=
 Option.bind (p_sees left_2 end_6 deep_7 p_2) fun r11 =>
 if r11 = true then
  Option.bind (cut left_2 1 left_2.length) fun l15 =>
  some (true, l15, end_6, deep_7)
 else
  some (false, left_2, end_6, deep_7)
def p_need_l1 (p_2 : List (List UInt8)) : Nat → Int → (List TToken) → Int → Int → Option (List TToken × Int × Int)
 | 0, _, _, _, _ => none
 | n + 1, i30, l33, i35, i36 =>
  if i30 < (p_2.length : Int) then
   Option.bind (at_ p_2 i30) fun x56 =>
   Option.bind (p_is l33 i35 i36 x56) fun r64 =>
   if r64.1 = true then
    Option.bind (i64 (i30 + 1)) fun i71 =>
    p_need_l1 p_2 n i71 r64.2.1 r64.2.2.1 r64.2.2.2
   else
    none
  else
   some (l33, i35, i36)
def p_need  (left_2 : List TToken) (end_6 : Int) (deep_7 : Int) (p_2 : List (List UInt8)) : Option (List TToken × Int × Int) :=
 p_need_l1 p_2 (p_2.length + 1) 0 left_2 end_6 deep_7
def p_name  (left_2 : List TToken) (end_6 : Int) (deep_7 : Int) : Option (List UInt8 × List TToken × Int × Int) :=
 if (left_2.length : Int) = 0 then
  none
 else
  Option.bind (at_ left_2 0) fun x12 =>
  if x12.Kind ≠ 1 then
   none
  else
   Option.bind (at_ left_2 0) fun x21 =>
   Option.bind (lex_named x21.Text) fun b29 =>
   if b29 = true then
    Option.bind (cut left_2 1 left_2.length) fun l32 =>
    some (x21.Text, l32, end_6, deep_7)
   else
    none
def p_number  (left_2 : List TToken) (end_6 : Int) (deep_7 : Int) : Option (Int × List TToken × Int × Int) :=
 if (left_2.length : Int) = 0 then
  none
 else
  Option.bind (at_ left_2 0) fun x12 =>
  if x12.Kind ≠ 2 then
   none
  else
   Option.bind (at_ left_2 0) fun x21 =>
   Option.bind (cut left_2 1 left_2.length) fun l29 =>
   some (x21.Num, l29, end_6, deep_7)
def p_typ  (left_2 : List TToken) (end_6 : Int) (deep_7 : Int) : Option (TType × List TToken × Int × Int) :=
 Option.bind (p_is left_2 end_6 deep_7 [110, 117, 109]) fun r13 =>
 if r13.1 = true then
  some ((TType.mk 1 []), r13.2.1, r13.2.2.1, r13.2.2.2)
 else
  none
def p_levels   : Option (List TSynLevel) :=
 some [(TSynLevel.mk (mput ([] : List (List UInt8 × Int)) [111, 114] 18) false), (TSynLevel.mk (mput ([] : List (List UInt8 × Int)) [97, 110, 100] 17) false), (TSynLevel.mk (mput (mput (mput (mput (mput (mput ([] : List (List UInt8 × Int)) [61, 61] 11) [33, 61] 12) [60] 13) [60, 61] 14) [62] 15) [62, 61] 16) true), (TSynLevel.mk (mput (mput ([] : List (List UInt8 × Int)) [43] 6) [45] 7) false), (TSynLevel.mk (mput (mput (mput ([] : List (List UInt8 × Int)) [42] 8) [47] 9) [37] 10) false)]
def p_into  (left_2 : List TToken) (end_6 : Int) (deep_7 : Int) : Option (List TToken × Int × Int) :=
 Option.bind (i64 (deep_7 + 1)) fun i14 =>
 if (200 : Int) < i14 then
  none
 else
  some (left_2, end_6, i14)
def p_out  (left_3 : List TToken) (end_7 : Int) (deep_8 : Int) : Option (List TToken × Int × Int) :=
 Option.bind (i64 (deep_8 - 1)) fun i12 =>
 some (left_3, end_7, i12)
end Go.Y
namespace Go.Y
open Go.Wk Go.Xt
structure ParE where
 p_expr : (List TToken) → Int → Int → Option (TExpr × List TToken × Int × Int)
 p_level : (List TToken) → Int → Int → Int → Option (TExpr × List TToken × Int × Int)
 p_unary : (List TToken) → Int → Int → Option (TExpr × List TToken × Int × Int)
 p_primary : (List TToken) → Int → Int → Option (TExpr × List TToken × Int × Int)
def p_expr (self : ParE) (left_2 : List TToken) (end_6 : Int) (deep_7 : Int) : Option (TExpr × List TToken × Int × Int) :=
 Option.bind (p_into left_2 end_6 deep_7) fun r16 =>
 Option.bind (self.p_level r16.1 r16.2.1 r16.2.2 0) fun r23 =>
 Option.bind (p_out r23.2.1 r23.2.2.1 r23.2.2.2) fun r32 =>
 some (r23.1, r32.1, r32.2.1, r32.2.2)
def p_level_j1 (p_2 : Int) (r16 : List TSynLevel) (x169 : TSynLevel) (x179 : TToken) (k_p_level_l1 : (List TToken) → Int → Int → Int → Int → (List UInt8) → (List TExpr) → Option (TExpr × List TToken × Int × Int)) (l202 : List TToken) (i204 : Int) (i205 : Int) (l208 : List TExpr) : Option (TExpr × List TToken × Int × Int) :=
 Option.bind (at_ r16 p_2) fun x236 =>
 if x236.once = true then
  none
 else
  k_p_level_l1 l202 i204 i205 ((mget x169.signs x179.Text).getD 0) 0 [] l208
def p_level_l1 (self : ParE) (p_2 : Int) (r16 : List TSynLevel) : Nat → (List TToken) → Int → Int → Int → Int → (List UInt8) → (List TExpr) → Option (TExpr × List TToken × Int × Int)
 | 0, _, _, _, _, _, _, _ => none
 | n + 1, l101, i103, i104, i105, i106, s107, l110 =>
  if (0 : Int) < (l101.length : Int) then
   Option.bind (at_ r16 p_2) fun x169 =>
   Option.bind (at_ l101 0) fun x179 =>
   if ((mget x169.signs x179.Text).getD 0) = 0 then
    some ((TExpr.mk i105 i106 s107 l110), l101, i103, i104)
   else
    Option.bind (cut l101 1 l101.length) fun l194 =>
    Option.bind (i64 (p_2 + 1)) fun i218 =>
    Option.bind (self.p_level l194 i103 i104 i218) fun r220 =>
    p_level_j1 p_2 r16 x169 x179 (p_level_l1 self p_2 r16 n) r220.2.1 r220.2.2.1 r220.2.2.2 [(TExpr.mk i105 i106 s107 l110), r220.1]
  else
   none
def p_level (fu : Nat) (self : ParE) (left_2 : List TToken) (end_6 : Int) (deep_7 : Int) (p_2 : Int) : Option (TExpr × List TToken × Int × Int) :=
 Option.bind (p_levels ) fun r16 =>
 if p_2 = (r16.length : Int) then
  Option.bind (self.p_unary left_2 end_6 deep_7) fun r23 =>
  some (r23.1, r23.2.1, r23.2.2.1, r23.2.2.2)
 else
  Option.bind (i64 (p_2 + 1)) fun i33 =>
  Option.bind (self.p_level left_2 end_6 deep_7 i33) fun r35 =>
  p_level_l1 self p_2 r16 fu r35.2.1 r35.2.2.1 r35.2.2.2 r35.1.Kind r35.1.N r35.1.Name r35.1.Kids
def p_unary (self : ParE) (left_2 : List TToken) (end_6 : Int) (deep_7 : Int) : Option (TExpr × List TToken × Int × Int) :=
 Option.bind (p_is left_2 end_6 deep_7 [45]) fun r31 =>
 if r31.1 = true then
  none
 else
  Option.bind (p_is r31.2.1 r31.2.2.1 r31.2.2.2 [110, 111, 116]) fun r38 =>
  if r38.1 = true then
   none
  else
   Option.bind (self.p_primary r38.2.1 r38.2.2.1 r38.2.2.2) fun r45 =>
   some (r45.1, r45.2.1, r45.2.2.1, r45.2.2.2)
def p_primary (self : ParE) (left_2 : List TToken) (end_6 : Int) (deep_7 : Int) : Option (TExpr × List TToken × Int × Int) :=
 if (0 : Int) < (left_2.length : Int) then
  Option.bind (at_ left_2 0) fun x17 =>
  if x17.Kind = 2 then
   Option.bind (p_number left_2 end_6 deep_7) fun r26 =>
   some ((TExpr.mk 1 r26.1 [] ([] : List TExpr)), r26.2.1, r26.2.2.1, r26.2.2.2)
  else
   Option.bind (p_is left_2 end_6 deep_7 [116, 114, 117, 101]) fun r32 =>
   if r32.1 = true then
    some ((TExpr.mk 2 1 [] ([] : List TExpr)), r32.2.1, r32.2.2.1, r32.2.2.2)
   else
    Option.bind (p_is r32.2.1 r32.2.2.1 r32.2.2.2 [102, 97, 108, 115, 101]) fun r39 =>
    if r39.1 = true then
     none
    else
     Option.bind (p_is r39.2.1 r39.2.2.1 r39.2.2.2 [40]) fun r46 =>
     if r46.1 = true then
      none
     else
      Option.bind (p_is r46.2.1 r46.2.2.1 r46.2.2.2 [114, 101, 99, 118]) fun r53 =>
      if r53.1 = true then
       Option.bind (p_need r53.2.1 r53.2.2.1 r53.2.2.2 [[40]]) fun r64 =>
       Option.bind (p_name r64.1 r64.2.1 r64.2.2) fun r70 =>
       Option.bind (p_need r70.2.1 r70.2.2.1 r70.2.2.2 [[41]]) fun r82 =>
       some ((TExpr.mk 20 0 r70.1 ([] : List TExpr)), r82.1, r82.2.1, r82.2.2)
      else
       Option.bind (p_is r53.2.1 r53.2.2.1 r53.2.2.2 [121, 105, 101, 108, 100]) fun r88 =>
       if r88.1 = true then
        none
       else
        Option.bind (p_is r88.2.1 r88.2.2.1 r88.2.2.2 [114, 101, 115, 117, 109, 101]) fun r95 =>
        if r95.1 = true then
         none
        else
         Option.bind (p_is r95.2.1 r95.2.2.1 r95.2.2.2 [97, 108, 105, 118, 101]) fun r102 =>
         if r102.1 = true then
          none
         else
          Option.bind (p_is r102.2.1 r102.2.2.1 r102.2.2.2 [115, 116, 97, 114, 116]) fun r109 =>
          if r109.1 = true then
           none
          else
           Option.bind (p_name r109.2.1 r109.2.2.1 r109.2.2.2) fun r116 =>
           Option.bind (p_sees r116.2.1 r116.2.2.1 r116.2.2.2 [40]) fun r122 =>
           if r122 = true then
            none
           else
            some ((TExpr.mk 3 0 r116.1 ([] : List TExpr)), r116.2.1, r116.2.2.1, r116.2.2.2)
 else
  none
def ParE_run : Nat → ParE
 | 0 => ⟨fun _ _ _ => none, fun _ _ _ _ => none, fun _ _ _ => none, fun _ _ _ => none⟩
 | n + 1 => ⟨p_expr (ParE_run n), p_level n (ParE_run n), p_unary (ParE_run n), p_primary (ParE_run n)⟩
structure ParS where
 p_body : (List TToken) → Int → Int → Option (List TStat × List TToken × Int × Int)
 p_stat : (List TToken) → Int → Int → Option (TStat × List TToken × Int × Int)
def p_body_l1 (self : ParS) : Nat → (List TToken) → Int → Int → (List TStat) → Option (List TStat × List TToken × Int × Int)
 | 0, _, _, _, _ => none
 | n + 1, l62, i65, i66, l69 =>
  Option.bind (p_is l62 i65 i66 [125]) fun r102 =>
  if r102.1 = true then
   Option.bind (p_out r102.2.1 r102.2.2.1 r102.2.2.2) fun r132 =>
   some (l69, r132.1, r132.2.1, r132.2.2)
  else
   if (l69.length : Int) = 50 then
    none
   else
    Option.bind (self.p_stat r102.2.1 r102.2.2.1 r102.2.2.2) fun r110 =>
    Option.bind (app l69 [r110.1]) fun l129 =>
    p_body_l1 self n r110.2.1 r110.2.2.1 r110.2.2.2 l129
def p_body (fu : Nat) (self : ParS) (left_2 : List TToken) (end_6 : Int) (deep_7 : Int) : Option (List TStat × List TToken × Int × Int) :=
 Option.bind (p_into left_2 end_6 deep_7) fun r14 =>
 Option.bind (p_need r14.1 r14.2.1 r14.2.2 [[123]]) fun r25 =>
 p_body_l1 self fu r25.1 r25.2.1 r25.2.2 []
def p_stat_j1  (l26 : List TToken) (i28 : Int) (i29 : Int) (i30 : Int) (s31 : List UInt8) (i33 : Int) (i34 : Int) (s35 : List UInt8) (l38 : List TExpr) : Option (TStat × List TToken × Int × Int) :=
 Option.bind (p_need l26 i28 i29 [[59]]) fun r180 =>
 some ((TStat.mk i30 s31 (TExpr.mk i33 i34 s35 l38) ([] : List TStat) ([] : List TStat)), r180.1, r180.2.1, r180.2.2)
def p_stat (fu : Nat) (self : ParS) (left_2 : List TToken) (end_6 : Int) (deep_7 : Int) : Option (TStat × List TToken × Int × Int) :=
 Option.bind (p_is left_2 end_6 deep_7 [105, 102]) fun r40 =>
 if r40.1 = true then
  none
 else
  Option.bind (p_is r40.2.1 r40.2.2.1 r40.2.2.2 [119, 104, 105, 108, 101]) fun r47 =>
  if r47.1 = true then
   Option.bind ((ParE_run fu).p_expr r47.2.1 r47.2.2.1 r47.2.2.2) fun r54 =>
   Option.bind (self.p_body r54.2.1 r54.2.2.1 r54.2.2.2) fun r63 =>
   some ((TStat.mk 4 [] (TExpr.mk r54.1.Kind r54.1.N r54.1.Name r54.1.Kids) r63.1 ([] : List TStat)), r63.2.1, r63.2.2.1, r63.2.2.2)
  else
   Option.bind (p_is r47.2.1 r47.2.2.1 r47.2.2.2 [108, 101, 116]) fun r72 =>
   if r72.1 = true then
    Option.bind (p_name r72.2.1 r72.2.2.1 r72.2.2.2) fun r79 =>
    Option.bind (p_need r79.2.1 r79.2.2.1 r79.2.2.2 [[61]]) fun r89 =>
    Option.bind ((ParE_run fu).p_expr r89.1 r89.2.1 r89.2.2) fun r95 =>
    p_stat_j1 r95.2.1 r95.2.2.1 r95.2.2.2 1 r79.1 r95.1.Kind r95.1.N r95.1.Name r95.1.Kids
   else
    Option.bind (p_is r72.2.1 r72.2.2.1 r72.2.2.2 [114, 101, 116, 117, 114, 110]) fun r104 =>
    if r104.1 = true then
     none
    else
     Option.bind (p_is r104.2.1 r104.2.2.1 r104.2.2.2 [115, 116, 111, 112]) fun r111 =>
     if r111.1 = true then
      none
     else
      Option.bind (p_is r111.2.1 r111.2.2.1 r111.2.2.2 [115, 101, 110, 100]) fun r118 =>
      if r118.1 = true then
       none
      else
       Option.bind (p_is r118.2.1 r118.2.2.1 r118.2.2.2 [111, 117, 116]) fun r125 =>
       if r125.1 = true then
        Option.bind ((ParE_run fu).p_expr r125.2.1 r125.2.2.1 r125.2.2.2) fun r132 =>
        p_stat_j1 r132.2.1 r132.2.2.1 r132.2.2.2 8 [] r132.1.Kind r132.1.N r132.1.Name r132.1.Kids
       else
        Option.bind (p_is r125.2.1 r125.2.2.1 r125.2.2.2 [100, 111]) fun r141 =>
        if r141.1 = true then
         none
        else
         Option.bind (p_name r141.2.1 r141.2.2.1 r141.2.2.2) fun r148 =>
         Option.bind (p_need r148.2.1 r148.2.2.1 r148.2.2.2 [[61]]) fun r158 =>
         Option.bind ((ParE_run fu).p_expr r158.1 r158.2.1 r158.2.2) fun r164 =>
         p_stat_j1 r164.2.1 r164.2.2.1 r164.2.2.2 2 r148.1 r164.1.Kind r164.1.N r164.1.Name r164.1.Kids
def ParS_run : Nat → ParS
 | 0 => ⟨fun _ _ _ => none, fun _ _ _ => none⟩
 | n + 1 => ⟨p_body n (ParS_run n), p_stat n (ParS_run n)⟩
def p_def (fu : Nat)  (left_2 : List TToken) (end_6 : Int) (deep_7 : Int) : Option (TDef × List TToken × Int × Int) :=
 Option.bind (p_at left_2 end_6 deep_7) fun r19 =>
 Option.bind (p_is left_2 end_6 deep_7 [98, 111, 120]) fun r22 =>
 if r22.1 = true then
  Option.bind (p_name r22.2.1 r22.2.2.1 r22.2.2.2) fun r29 =>
  Option.bind (p_typ r29.2.1 r29.2.2.1 r29.2.2.2) fun r35 =>
  Option.bind (p_at r35.2.1 r35.2.2.1 r35.2.2.2) fun r43 =>
  Option.bind (p_number r35.2.1 r35.2.2.1 r35.2.2.2) fun r46 =>
  if r46.1 < 1 then
   none
  else
   if (20 : Int) < r46.1 then
    none
   else
    Option.bind (p_need r46.2.1 r46.2.2.1 r46.2.2.2 [[59]]) fun r58 =>
    some ((TDef.mk 1 r29.1 (TType.mk r35.1.Kind r35.1.Gen) (TType.mk 0 []) r46.1 ([] : List TParam) ([] : List TStat)), r58.1, r58.2.1, r58.2.2)
 else
  Option.bind (p_is r22.2.1 r22.2.2.1 r22.2.2.2 [102, 110]) fun r64 =>
  if r64.1 = true then
   none
  else
   Option.bind (p_is r64.2.1 r64.2.2.1 r64.2.2.2 [103, 101, 110]) fun r71 =>
   if r71.1 = true then
    none
   else
    Option.bind (p_is r71.2.1 r71.2.2.1 r71.2.2.2 [116, 97, 115, 107]) fun r78 =>
    if r78.1 = true then
     Option.bind (p_name r78.2.1 r78.2.2.1 r78.2.2.2) fun r85 =>
     Option.bind ((ParS_run fu).p_body r85.2.1 r85.2.2.1 r85.2.2.2) fun r91 =>
     some ((TDef.mk 4 r85.1 (TType.mk 0 []) (TType.mk 0 []) 0 ([] : List TParam) r91.1), r91.2.1, r91.2.2.1, r91.2.2.2)
    else
     none
end Go.Y
namespace Go.Y
open Go.Wk Go.Xt
theorem is_swap {α : Type} {l : List TToken} {e d : Int} {k1 k2 : List UInt8} (hne : ¬ k1 = k2) {A B C : Bool × List TToken × Int × Int → Option α} {r : α}
  (h : (Option.bind (p_is l e d k1) fun x => if x.1 = true then A x else Option.bind (p_is x.2.1 x.2.2.1 x.2.2.2 k2) fun y => if y.1 = true then B y else C y) = some r) :
  (Option.bind (p_is l e d k2) fun y => if y.1 = true then B y else Option.bind (p_is y.2.1 y.2.2.1 y.2.2.2 k1) fun x => if x.1 = true then A x else C x) = some r := by
 have key : ∀ k, (p_sees l e d k = some false ∧ p_is l e d k = some (false, l, e, d)) ∨ (∃ t l', l = t :: l' ∧ t.Text = k ∧ p_is l e d k = some (true, l', e, d)) := by
  intro k
  cases l with
  | nil => first | (left; simp [p_sees, p_is]; done) | (exfalso; simp [p_sees, p_is] at h)
  | cons t l' =>
   by_cases hk : t.Text = k
   ·right
    refine ⟨t, l', rfl, hk, ?_⟩
    have h1 : (0 : Int) < ((l'.length + 1 : Nat) : Int) := by omega
    have h2 : (1 : Int) ≤ ((l'.length + 1 : Nat) : Int) := by omega
    have hc : cut (t :: l') 1 ((t :: l').length) = some l' := by
     unfold cut
     rw [if_pos ⟨by omega, by simpa using h2, by simp⟩]
     simp
    have hs : p_sees (t :: l') e d k = some true := by
     unfold p_sees
     rw [if_pos (by simp)]
     simp [at_, hk]
    unfold p_is
    rw [hs, Option.bind_some]
    simp only [if_true]
    rw [hc]
    rfl
   ·left
    have h1 : (0 : Int) < ((l'.length + 1 : Nat) : Int) := by omega
    simp [p_is, p_sees, at_, hk, h1]
 rcases key k1 with ⟨s1, i1⟩ | ⟨t, l', hl, ht, i1⟩
 ·rw [i1, Option.bind_some] at h
  simp only [Bool.false_eq_true, if_false] at h
  rcases key k2 with ⟨s2, i2⟩ | ⟨t, l', hl, ht, i2⟩
  ·rw [i2, Option.bind_some] at h ⊢
   simp only [Bool.false_eq_true, if_false] at h ⊢
   rw [i1, Option.bind_some]
   simpa using h
  ·rw [i2, Option.bind_some] at h ⊢
   simp only [if_true] at h ⊢
   exact h
 ·rw [i1, Option.bind_some] at h
  simp only [if_true] at h
  rcases key k2 with ⟨s2, i2⟩ | ⟨t2, l2, hl2, ht2, i2⟩
  ·rw [i2, Option.bind_some]
   simp only [Bool.false_eq_true, if_false]
   rw [i1, Option.bind_some]
   simpa using h
  ·rw [hl] at hl2
   obtain ⟨rfl, rfl⟩ := List.cons.inj hl2
   exact absurd (ht.symm.trans ht2) hne
end Go.Y
namespace Go.Y
open Go.Wk Go.Xt
def p_done : Option Unit := some ()
def syn_read_j1 (k_syn_read_l1 : (List TToken) → Int → Int → (List TDef) → Option (List TDef × TFault)) (l73 : List TToken) (i75 : Int) (i76 : Int) (l79 : List TDef) : Option (List TDef × TFault) :=
 k_syn_read_l1 l73 i75 i76 l79
def syn_read_j2 (r8 : List TToken × TFault) (l45 : List TDef)  : Option (List TDef × TFault) :=
 Option.bind (p_done ) fun r115 =>
 some (l45, r8.2)
def syn_read_l1 (fu : Nat) (r8 : List TToken × TFault) : Nat → (List TToken) → Int → Int → (List TDef) → Option (List TDef × TFault)
 | 0, _, _, _, _ => none
 | n + 1, l39, i41, i42, l45 =>
  if (0 : Int) < (l39.length : Int) then
   if (l45.length : Int) = 30 then
    none
   else
    Option.bind (p_def fu l39 i41 i42) fun r81 =>
    Option.bind (app l45 [r81.1]) fun l97 =>
    syn_read_j1 (syn_read_l1 fu r8 n) r81.2.1 r81.2.2.1 r81.2.2.2 l97
  else
   Option.bind (syn_wrong fu l45) fun r108 =>
   if r108.Err ≠ 0 then
    none
   else
    syn_read_j2 r8 l45
def syn_read (fu : Nat)  (p_1 : List UInt8) : Option (List TDef × TFault) :=
 Option.bind (lex_tokens p_1) fun r8 =>
 if r8.2.Err ≠ 0 then
  none
 else
  syn_read_l1 fu r8 fu r8.1 (p_1.length : Int) 0 []
end Go.Y
namespace Go.Y
open Go.Wk Go.Xt
def sema_plain  (p_1 : TType) : Option Bool :=
 some (decide (p_1.Kind ≠ 3))
def sema_find  (p_1 : TSemaProgram) (p_2 : Int) (p_3 : List UInt8) : Option (Option TDef × Bool) :=
 if (mget p_1.named p_3).isSome = true then
  Option.bind ((mget p_1.named p_3)) fun x18 =>
  some ((mget p_1.named p_3), decide (x18.Kind = p_2))
 else
  none
def sema_bare  (p_1 : TType) : Option TType :=
 Option.bind (sema_plain p_1) fun r5 =>
 if r5 = true then
  some (TType.mk p_1.Kind [])
 else
  none
def sema_num   : Option TType :=
 some (TType.mk 1 [])
def sema_boolean   : Option TType :=
 some (TType.mk 2 [])
def sema_look_l1 (p_2 : List UInt8) (bloc_21 : List (List (List UInt8 × TType))) : Nat → Int → Option (TType × Bool)
 | 0, _ => none
 | n + 1, i48 =>
  if (0 : Int) ≤ i48 then
   Option.bind (at_ bloc_21 i48) fun x70 =>
   if (mget x70 p_2).isSome = true then
    some (((mget x70 p_2).getD (TType.mk 0 [])), true)
   else
    Option.bind (i64 (i48 - 1)) fun i88 =>
    sema_look_l1 p_2 bloc_21 n i88
  else
   some ((TType.mk 0 []), false)
def sema_look (fu : Nat)  (prog_2 : TSemaProgram) (def_11 : TDef) (bloc_21 : List (List (List UInt8 × TType))) (p_2 : List UInt8) : Option (TType × Bool) :=
 Option.bind (i64 ((bloc_21.length : Int) - 1)) fun i27 =>
 sema_look_l1 p_2 bloc_21 fu i27
structure SemaE where
 sema_typed : TSemaProgram → TDef → (List (List (List UInt8 × TType))) → TExpr → TType → Option Int
 sema_expr : TSemaProgram → TDef → (List (List (List UInt8 × TType))) → TExpr → Option (TType × Int)
def sema_typed (self : SemaE) (prog_2 : TSemaProgram) (def_11 : TDef) (bloc_21 : List (List (List UInt8 × TType))) (p_2 : TExpr) (p_3 : TType) : Option Int :=
 Option.bind (self.sema_expr prog_2 def_11 bloc_21 p_2) fun r33 =>
 if r33.2 = 0 then
  Option.bind (sema_bare p_3) fun r39 =>
  if (andL [(decide (r33.1.Kind = r39.Kind)), (decide (r33.1.Gen = r39.Gen))]) = true then
   some r33.2
  else
   none
 else
  none
def sema_expr_l1 (self : SemaE) (p_2 : TExpr) (prog_2 : TSemaProgram) (def_11 : TDef) (bloc_21 : List (List (List UInt8 × TType))) (r80 : TType) (r83 : TType) : Nat → Int → Option (TType × Int)
 | 0, _ => none
 | n + 1, i108 =>
  if i108 < (p_2.Kids.length : Int) then
   Option.bind (at_ p_2.Kids i108) fun x127 =>
   Option.bind (self.sema_typed prog_2 def_11 bloc_21 x127 r80) fun r138 =>
   if r138 ≠ 0 then
    none
   else
    Option.bind (i64 (i108 + 1)) fun i142 =>
    sema_expr_l1 self p_2 prog_2 def_11 bloc_21 r80 r83 n i142
  else
   some (r83, 0)
def sema_expr (fu : Nat) (self : SemaE) (prog_2 : TSemaProgram) (def_11 : TDef) (bloc_21 : List (List (List UInt8 × TType))) (p_2 : TExpr) : Option (TType × Int) :=
 if p_2.Kind = 1 then
  Option.bind (sema_num ) fun r34 =>
  some (r34, 0)
 else
  if p_2.Kind = 2 then
   Option.bind (sema_boolean ) fun r38 =>
   some (r38, 0)
  else
   if p_2.Kind = 3 then
    Option.bind (sema_look fu prog_2 def_11 bloc_21 p_2.Name) fun r42 =>
    if r42.2 = true then
     some (r42.1, 0)
    else
     none
   else
    if p_2.Kind = 4 then
     none
    else
     if p_2.Kind = 5 then
      none
     else
      if p_2.Kind = 11 then
       none
      else
       if p_2.Kind = 12 then
        none
       else
        if p_2.Kind = 19 then
         none
        else
         if p_2.Kind = 20 then
          Option.bind (sema_find prog_2 1 p_2.Name) fun r54 =>
          if r54.2 = true then
           Option.bind (r54.1) fun x60 =>
           Option.bind (sema_bare x60.Typ) fun r73 =>
           some (r73, 0)
          else
           none
         else
          if p_2.Kind = 21 then
           none
          else
           if p_2.Kind = 22 then
            none
           else
            if p_2.Kind = 23 then
             none
            else
             if p_2.Kind = 24 then
              none
             else
              Option.bind (sema_num ) fun r80 =>
              Option.bind (sema_num ) fun r83 =>
              if (17 : Int) ≤ p_2.Kind then
               none
              else
               if (13 : Int) ≤ p_2.Kind then
                none
               else
                sema_expr_l1 self p_2 prog_2 def_11 bloc_21 r80 r83 (p_2.Kids.length + 1) 0
def SemaE_run : Nat → SemaE
 | 0 => ⟨fun _ _ _ _ _ => none, fun _ _ _ _ => none⟩
 | n + 1 => ⟨sema_typed (SemaE_run n), sema_expr n (SemaE_run n)⟩
end Go.Y
namespace Go.Y
open Go.Wk Go.Xt
def sema_pop_j1  (l31 : List (List (List UInt8 × TType))) : Option (List (List (List UInt8 × TType))) :=
 some l31
def sema_pop  (prog_3 : TSemaProgram) (def_12 : TDef) (bloc_22 : List (List (List UInt8 × TType))) : Option (List (List (List UInt8 × TType))) :=
 Option.bind (i64 ((bloc_22.length : Int) - 1)) fun i33 =>
 Option.bind (cut bloc_22 0 i33) fun l35 =>
 sema_pop_j1 l35
structure SemaS where
 sema_stats : TSemaProgram → TDef → (List (List (List UInt8 × TType))) → (List TStat) → Option (Int × List (List (List UInt8 × TType)))
 sema_stat : TSemaProgram → TDef → (List (List (List UInt8 × TType))) → TStat → Option (Int × List (List (List UInt8 × TType)))
def sema_stats_l1 (self : SemaS) (p_2 : List TStat) (prog_2 : TSemaProgram) (def_11 : TDef) : Nat → Int → (List (List (List UInt8 × TType))) → Option (Int × List (List (List UInt8 × TType)))
 | 0, _, _ => none
 | n + 1, i74, l77 =>
  if i74 < (p_2.length : Int) then
   Option.bind (at_ p_2 i74) fun x107 =>
   Option.bind (self.sema_stat prog_2 def_11 l77 x107) fun r124 =>
   if r124.1 ≠ 0 then
    none
   else
    Option.bind (i64 (i74 + 1)) fun i131 =>
    sema_stats_l1 self p_2 prog_2 def_11 n i131 r124.2
  else
   Option.bind (sema_pop prog_2 def_11 l77) fun r133 =>
   some (0, r133)
def sema_stats_j1 (self : SemaS) (p_2 : List TStat) (prog_2 : TSemaProgram) (def_11 : TDef) (l35 : List (List (List UInt8 × TType))) : Option (Int × List (List (List UInt8 × TType))) :=
 sema_stats_l1 self p_2 prog_2 def_11 (p_2.length + 1) 0 l35
def sema_stats (self : SemaS) (prog_2 : TSemaProgram) (def_11 : TDef) (bloc_21 : List (List (List UInt8 × TType))) (p_2 : List TStat) : Option (Int × List (List (List UInt8 × TType))) :=
 Option.bind (app bloc_21 [[]]) fun l41 =>
 sema_stats_j1 self p_2 prog_2 def_11 l41
def sema_stat (fu : Nat) (self : SemaS) (prog_2 : TSemaProgram) (def_11 : TDef) (bloc_21 : List (List (List UInt8 × TType))) (p_2 : TStat) : Option (Int × List (List (List UInt8 × TType))) :=
 if p_2.Kind = 1 then
  Option.bind ((SemaE_run fu).sema_expr prog_2 def_11 bloc_21 p_2.X) fun r41 =>
  if r41.2 ≠ 0 then
   none
  else
   Option.bind (sema_look fu prog_2 def_11 bloc_21 p_2.Name) fun r47 =>
   if r47.2 = true then
    none
   else
    Option.bind (i64 ((bloc_21.length : Int) - 1)) fun i53 =>
    Option.bind (at_ bloc_21 i53) fun x55 =>
    some (0, (bloc_21.set i53.toNat (mput x55 p_2.Name r41.1)))
 else
  if p_2.Kind = 2 then
   Option.bind (sema_look fu prog_2 def_11 bloc_21 p_2.Name) fun r71 =>
   if r71.2 = true then
    Option.bind ((SemaE_run fu).sema_typed prog_2 def_11 bloc_21 p_2.X r71.1) fun r77 =>
    some (r77, bloc_21)
   else
    none
  else
   if p_2.Kind = 3 then
    none
   else
    if p_2.Kind = 4 then
     Option.bind (sema_boolean ) fun r82 =>
     Option.bind ((SemaE_run fu).sema_typed prog_2 def_11 bloc_21 p_2.X r82) fun r85 =>
     if r85 ≠ 0 then
      none
     else
      Option.bind (self.sema_stats prog_2 def_11 bloc_21 p_2.Body) fun r89 =>
      if r89.1 ≠ 0 then
       none
      else
       if p_2.Kind = 4 then
        some (r89.1, r89.2)
       else
        none
    else
     if p_2.Kind = 5 then
      none
     else
      if p_2.Kind = 6 then
       none
      else
       if p_2.Kind = 7 then
        none
       else
        if p_2.Kind = 8 then
         Option.bind ((SemaE_run fu).sema_expr prog_2 def_11 bloc_21 p_2.X) fun r101 =>
         if r101.2 = 0 then
          Option.bind (sema_plain r101.1) fun r107 =>
          if r107 = true then
           some (r101.2, bloc_21)
          else
           none
         else
          none
        else
         none
def SemaS_run : Nat → SemaS
 | 0 => ⟨fun _ _ _ _ => none, fun _ _ _ _ => none⟩
 | n + 1 => ⟨sema_stats (SemaS_run n), sema_stat n (SemaS_run n)⟩
def sema_head_j1  (b22 : Bool) : Option Int :=
 if b22 = true then
  none
 else
  some 0
def sema_head  (p_1 : TSemaProgram) (p_2 : TDef) : Option Int :=
 if p_2.Kind = 2 then
  none
 else
  if p_2.Kind = 3 then
   none
  else
   if p_2.Kind = 3 then
    none
   else
    if p_2.Kind ≠ 4 then
     Option.bind (sema_plain p_2.Typ) fun r25 =>
     sema_head_j1 (!r25)
    else
     sema_head_j1 false
def sema_body (fu : Nat)  (p_1 : TSemaProgram) (p_2 : TDef) : Option Int :=
 if p_2.Kind = 1 then
  some 0
 else
  if p_2.Kind ≠ 4 then
   none
  else
   Option.bind ((SemaS_run fu).sema_stats p_1 p_2 [([] : List (List UInt8 × TType))] p_2.Body) fun r29 =>
   some r29.1
def sema_named_l3 (fu : Nat) (p_1 : List TDef) (l94 : List (List UInt8 × TDef)) : Nat → Int → Option (TSemaProgram × TFault)
 | 0, _ => none
 | n + 1, i317 =>
  if i317 < (p_1.length : Int) then
   Option.bind (at_ p_1 i317) fun x339 =>
   Option.bind (sema_body fu (TSemaProgram.mk p_1 l94) x339) fun r353 =>
   if r353 ≠ 0 then
    none
   else
    Option.bind (i64 (i317 + 1)) fun i357 =>
    sema_named_l3 fu p_1 l94 n i357
  else
   some ((TSemaProgram.mk p_1 l94), (TFault.mk 0 0))
def sema_named_l2 (fu : Nat) (p_1 : List TDef) (l94 : List (List UInt8 × TDef)) : Nat → Int → Option (TSemaProgram × TFault)
 | 0, _ => none
 | n + 1, i258 =>
  if i258 < (p_1.length : Int) then
   Option.bind (at_ p_1 i258) fun x280 =>
   Option.bind (sema_head (TSemaProgram.mk p_1 l94) x280) fun r294 =>
   if r294 ≠ 0 then
    none
   else
    Option.bind (i64 (i258 + 1)) fun i298 =>
    sema_named_l2 fu p_1 l94 n i298
  else
   sema_named_l3 fu p_1 l94 (p_1.length + 1) 0
def sema_named_l1 (fu : Nat) (p_1 : List TDef) : Nat → Int → Int → (List (List UInt8 × TDef)) → Option (TSemaProgram × TFault)
 | 0, _, _, _ => none
 | n + 1, i90, i91, l94 =>
  if i91 < (p_1.length : Int) then
   Option.bind (at_ p_1 i91) fun x165 =>
   if (mget l94 x165.Name).isSome = true then
    none
   else
    Option.bind (at_ p_1 i91) fun x182 =>
    Option.bind (at_ p_1 i91) fun x196 =>
    Option.bind (at_ p_1 i91) fun x213 =>
    if x213.Kind = 4 then
     Option.bind (i64 (i90 + 1)) fun i228 =>
     Option.bind (i64 (i91 + 1)) fun i230 =>
     sema_named_l1 fu p_1 n i228 i230 (mput l94 x182.Name x196)
    else
     Option.bind (i64 (i91 + 1)) fun i232 =>
     sema_named_l1 fu p_1 n i90 i232 (mput l94 x182.Name x196)
  else
   if i90 = 0 then
    none
   else
    sema_named_l2 fu p_1 l94 (p_1.length + 1) 0
def sema_named (fu : Nat)  (p_1 : List TDef) : Option (TSemaProgram × TFault) :=
 Option.bind (syn_wrong fu p_1) fun r18 =>
 if r18.Err ≠ 0 then
  none
 else
  sema_named_l1 fu p_1 (p_1.length + 1) 0 0 ([] : List (List UInt8 × TDef))
end Go.Y
namespace Go.Y
open Go.Wk Go.Xt
structure SemaU where
 uses_expr : (List (List UInt8)) → (List (List UInt8)) → (List (List UInt8)) → TExpr → Option (List (List UInt8) × List (List UInt8) × List (List UInt8))
def uses_expr_l1 (self : SemaU) (p_2 : TExpr) : Nat → Int → (List (List UInt8)) → (List (List UInt8)) → (List (List UInt8)) → Option (List (List UInt8) × List (List UInt8) × List (List UInt8))
 | 0, _, _, _, _ => none
 | n + 1, i81, l84, l88, l92 =>
  if i81 < (p_2.Kids.length : Int) then
   Option.bind (at_ p_2.Kids i81) fun x124 =>
   Option.bind (self.uses_expr l84 l88 l92 x124) fun r135 =>
   Option.bind (i64 (i81 + 1)) fun i147 =>
   uses_expr_l1 self p_2 n i147 r135.1 r135.2.1 r135.2.2
  else
   some (l84, l88, l92)
def uses_expr_j1 (self : SemaU) (call_2 : List (List UInt8)) (p_2 : TExpr) (send_6 : List (List UInt8)) (l31 : List (List UInt8)) : Option (List (List UInt8) × List (List UInt8) × List (List UInt8)) :=
 uses_expr_l1 self p_2 (p_2.Kids.length + 1) 0 call_2 send_6 l31
def uses_expr_j2 (self : SemaU) (call_2 : List (List UInt8)) (p_2 : TExpr) (send_6 : List (List UInt8)) (l38 : List (List UInt8)) : Option (List (List UInt8) × List (List UInt8) × List (List UInt8)) :=
 uses_expr_j1 self call_2 p_2 send_6 l38
def uses_expr (self : SemaU) (call_2 : List (List UInt8)) (send_6 : List (List UInt8)) (recv_10 : List (List UInt8)) (p_2 : TExpr) : Option (List (List UInt8) × List (List UInt8) × List (List UInt8)) :=
 if p_2.Kind = 19 then
  none
 else
  if p_2.Kind = 22 then
   none
  else
   if p_2.Kind = 20 then
    Option.bind (app recv_10 [p_2.Name]) fun l44 =>
    uses_expr_j2 self call_2 p_2 send_6 l44
   else
    uses_expr_j1 self call_2 p_2 send_6 recv_10
def SemaU_run : Nat → SemaU
 | 0 => ⟨fun _ _ _ _ => none⟩
 | n + 1 => ⟨uses_expr (SemaU_run n)⟩
structure SemaV where
 uses_stats : (List (List UInt8)) → (List (List UInt8)) → (List (List UInt8)) → (List TStat) → Option (List (List UInt8) × List (List UInt8) × List (List UInt8))
def uses_stats_j1 (i82 : Int) (x156 : TStat) (k_uses_stats_l1 : Int → (List (List UInt8)) → (List (List UInt8)) → (List (List UInt8)) → Option (List (List UInt8) × List (List UInt8) × List (List UInt8))) (l190 : List (List UInt8)) (l194 : List (List UInt8)) (l198 : List (List UInt8)) : Option (List (List UInt8) × List (List UInt8) × List (List UInt8)) :=
 if x156.Kind = 3 then
  none
 else
  Option.bind (i64 (i82 + 1)) fun i218 =>
  k_uses_stats_l1 i218 l190 l194 l198
def uses_stats_l1 (fu : Nat) (self : SemaV) (p_2 : List TStat) : Nat → Int → (List (List UInt8)) → (List (List UInt8)) → (List (List UInt8)) → Option (List (List UInt8) × List (List UInt8) × List (List UInt8))
 | 0, _, _, _, _ => none
 | n + 1, i82, l85, l89, l93 =>
  if i82 < (p_2.length : Int) then
   Option.bind (at_ p_2 i82) fun x156 =>
   if x156.Kind = 7 then
    none
   else
    if x156.Kind ≠ 6 then
     Option.bind ((SemaU_run fu).uses_expr l85 l89 l93 x156.X) fun r175 =>
     if x156.Kind = 3 then
      none
     else
      if x156.Kind = 4 then
       Option.bind (self.uses_stats r175.1 r175.2.1 r175.2.2 x156.Body) fun r201 =>
       uses_stats_j1 i82 x156 (uses_stats_l1 fu self p_2 n) r201.1 r201.2.1 r201.2.2
      else
       uses_stats_j1 i82 x156 (uses_stats_l1 fu self p_2 n) r175.1 r175.2.1 r175.2.2
    else
     none
  else
   some (l85, l89, l93)
def uses_stats (fu : Nat) (self : SemaV) (call_2 : List (List UInt8)) (send_6 : List (List UInt8)) (recv_10 : List (List UInt8)) (p_2 : List TStat) : Option (List (List UInt8) × List (List UInt8) × List (List UInt8)) :=
 uses_stats_l1 fu self p_2 (p_2.length + 1) 0 call_2 send_6 recv_10
def SemaV_run : Nat → SemaV
 | 0 => ⟨fun _ _ _ _ => none⟩
 | n + 1 => ⟨uses_stats n (SemaV_run n)⟩
def sema_reach_l2 (l230 : List (Option TDef)) (r257 : List (List UInt8) × List (List UInt8) × List (List UInt8)) (l279 : List (List UInt8)) (l283 : List (List UInt8)) (k_sema_reach_l1 : (List (Option TDef)) → (List (List UInt8)) → (List (List UInt8)) → Option TSemaUses) : Nat → Option TSemaUses
 | 0 => none
 | n + 1 =>
  if (0 : Int) < (r257.1.length : Int) then
   none
  else
   k_sema_reach_l1 l230 l279 l283
def sema_reach_j1 (l230 : List (Option TDef)) (r257 : List (List UInt8) × List (List UInt8) × List (List UInt8)) (k_sema_reach_l1 : (List (Option TDef)) → (List (List UInt8)) → (List (List UInt8)) → Option TSemaUses) (l271 : List (List UInt8)) (l275 : List (List UInt8)) (l279 : List (List UInt8)) (l283 : List (List UInt8)) : Option TSemaUses :=
 sema_reach_l2 l230 r257 l279 l283 k_sema_reach_l1 (r257.1.length + 1)
def sema_reach_l1 (fu : Nat) : Nat → (List (Option TDef)) → (List (List UInt8)) → (List (List UInt8)) → Option TSemaUses
 | 0, _, _, _ => none
 | n + 1, l120, l124, l128 =>
  if (0 : Int) < (l120.length : Int) then
   Option.bind (at_ l120 0) fun x214 =>
   Option.bind (cut l120 1 l120.length) fun l230 =>
   Option.bind (x214) fun x241 =>
   Option.bind ((SemaV_run fu).uses_stats ([] : List (List UInt8)) ([] : List (List UInt8)) ([] : List (List UInt8)) x241.Body) fun r257 =>
   Option.bind (app l124 r257.2.1) fun l292 =>
   Option.bind (app l128 r257.2.2) fun l304 =>
   sema_reach_j1 l230 r257 (sema_reach_l1 fu n) r257.2.1 r257.2.2 l292 l304
  else
   some (TSemaUses.mk ([] : List (List UInt8)) l124 l128)
def sema_reach (fu : Nat)  (p_1 : TSemaProgram) (p_2 : TDef) : Option TSemaUses :=
 sema_reach_l1 fu fu ([(some p_2)] : List (Option TDef)) [] []
def sema_owners_j1 (i88 : Int) (k_sema_owners_l1 : Int → (List (List UInt8 × TSemaUses)) → Option (List TOwner × TFault)) (l176 : List (List UInt8 × TSemaUses)) : Option (List TOwner × TFault) :=
 Option.bind (i64 (i88 + 1)) fun i223 =>
 k_sema_owners_l1 i223 l176
def sema_owners_j3 (i717 : Int) (s825 : List UInt8) (k_sema_owners_l3 : Int → (List UInt8) → (List UInt8) → Option (List TOwner × TFault)) (s832 : List UInt8) : Option (List TOwner × TFault) :=
 Option.bind (i64 (i717 + 1)) fun i839 =>
 k_sema_owners_l3 i839 s825 s832
def sema_owners_j2 (l91 : List (List UInt8 × TSemaUses)) (x640 : TDef) (i717 : Int) (s719 : List UInt8) (x778 : TDef) (k_sema_owners_l3 : Int → (List UInt8) → (List UInt8) → Option (List TOwner × TFault)) (s825 : List UInt8) : Option (List TOwner × TFault) :=
 if (((mget l91 x778.Name).getD (TSemaUses.mk ([] : List (List UInt8)) ([] : List (List UInt8)) ([] : List (List UInt8)))).recvs).contains x640.Name = true then
  if s719 ≠ [] then
   none
  else
   sema_owners_j3 i717 s825 k_sema_owners_l3 x778.Name
 else
  sema_owners_j3 i717 s825 k_sema_owners_l3 s719
def sema_owners_l3 (p_1 : List TDef) (l91 : List (List UInt8 × TSemaUses)) (i430 : Int) (l433 : List TOwner) (x640 : TDef) (k_sema_owners_l2 : Int → (List TOwner) → Option (List TOwner × TFault)) : Nat → Int → (List UInt8) → (List UInt8) → Option (List TOwner × TFault)
 | 0, _, _, _ => none
 | n + 1, i717, s718, s719 =>
  if i717 < (p_1.length : Int) then
   Option.bind (at_ p_1 i717) fun x778 =>
   if x778.Kind ≠ 4 then
    Option.bind (i64 (i717 + 1)) fun i795 =>
    sema_owners_l3 p_1 l91 i430 l433 x640 k_sema_owners_l2 n i795 s718 s719
   else
    if (((mget l91 x778.Name).getD (TSemaUses.mk ([] : List (List UInt8)) ([] : List (List UInt8)) ([] : List (List UInt8)))).sends).contains x640.Name = true then
     if s718 ≠ [] then
      none
     else
      sema_owners_j2 l91 x640 i717 s719 x778 (sema_owners_l3 p_1 l91 i430 l433 x640 k_sema_owners_l2 n) x778.Name
    else
     sema_owners_j2 l91 x640 i717 s719 x778 (sema_owners_l3 p_1 l91 i430 l433 x640 k_sema_owners_l2 n) s718
  else
   Option.bind (app l433 [(TOwner.mk x640.Name s718 s719)]) fun l845 =>
   Option.bind (i64 (i430 + 1)) fun i848 =>
   k_sema_owners_l2 i848 l845
def sema_owners_l2 (p_1 : List TDef) (l91 : List (List UInt8 × TSemaUses)) : Nat → Int → (List TOwner) → Option (List TOwner × TFault)
 | 0, _, _ => none
 | n + 1, i430, l433 =>
  if i430 < (p_1.length : Int) then
   Option.bind (at_ p_1 i430) fun x640 =>
   if x640.Kind ≠ 1 then
    Option.bind (i64 (i430 + 1)) fun i657 =>
    sema_owners_l2 p_1 l91 n i657 l433
   else
    sema_owners_l3 p_1 l91 i430 l433 x640 (sema_owners_l2 p_1 l91 n) (p_1.length + 1) 0 [] []
  else
   some (l433, (TFault.mk 0 0))
def sema_owners_l1 (fu : Nat) (p_1 : List TDef) (r9 : TSemaProgram × TFault) : Nat → Int → (List (List UInt8 × TSemaUses)) → Option (List TOwner × TFault)
 | 0, _, _ => none
 | n + 1, i88, l91 =>
  if i88 < (p_1.length : Int) then
   Option.bind (at_ p_1 i88) fun x159 =>
   if x159.Kind = 4 then
    Option.bind (at_ p_1 i88) fun x178 =>
    Option.bind (at_ p_1 i88) fun x192 =>
    Option.bind (sema_reach fu r9.1 x192) fun r206 =>
    sema_owners_j1 i88 (sema_owners_l1 fu p_1 r9 n) (mput l91 x178.Name r206)
   else
    Option.bind (i64 (i88 + 1)) fun i225 =>
    sema_owners_l1 fu p_1 r9 n i225 l91
  else
   sema_owners_l2 p_1 l91 (p_1.length + 1) 0 []
def sema_owners (fu : Nat)  (p_1 : List TDef) : Option (List TOwner × TFault) :=
 Option.bind (sema_named fu p_1) fun r9 =>
 if r9.2.Err ≠ 0 then
  none
 else
  sema_owners_l1 fu p_1 r9 (p_1.length + 1) 0 ([] : List (List UInt8 × TSemaUses))
def sema_check (fu : Nat)  (p_1 : List TDef) : Option TFault :=
 Option.bind (sema_owners fu p_1) fun r6 =>
 some r6.2
end Go.Y
namespace Go.Y
open Go.Wk Go.Xt
def gen_typ  (p_1 : TGenTable) (p_2 : TType) : Option Int :=
 if p_2.Kind = 3 then
  none
 else
  some p_2.Kind
def gen_typo  (boxe_2 : List (List UInt8 × Int)) (unit_7 : List (List UInt8 × Int)) (defs_12 : List (List UInt8 × TDef)) (p_2 : TType) : Option Int :=
 if p_2.Kind = 3 then
  none
 else
  some p_2.Kind
def gen_put  (tabl_2 : TGenTable) (kind_12 : Int) (para_13 : Int) (loca_14 : List Int) (resu_18 : Int) (take_19 : Int) (code_20 : List TInstr) (bloc_24 : List (List (List UInt8 × Int))) (p_2 : Int) (p_3 : Int) (p_4 : Int) : Option (Int × Int × Int × List Int × Int × Int × List TInstr × List (List (List UInt8 × Int))) :=
 Option.bind (app code_20 [(TInstr.mk p_2 p_3 p_4)]) fun l41 =>
 Option.bind (i64 ((l41.length : Int) - 1)) fun i44 =>
 some (i44, kind_12, para_13, loca_14, resu_18, take_19, l41, bloc_24)
def gen_here  (tabl_2 : TGenTable) (kind_12 : Int) (para_13 : Int) (loca_14 : List Int) (resu_18 : Int) (take_19 : Int) (code_20 : List TInstr) (bloc_24 : List (List (List UInt8 × Int))) : Option Int :=
 some (code_20.length : Int)
def gen_local  (tabl_2 : TGenTable) (kind_12 : Int) (para_13 : Int) (loca_14 : List Int) (resu_18 : Int) (take_19 : Int) (code_20 : List TInstr) (bloc_24 : List (List (List UInt8 × Int))) (p_2 : List UInt8) (p_3 : Int) : Option (Int × Int × Int × List Int × Int × Int × List TInstr × List (List (List UInt8 × Int))) :=
 Option.bind (app loca_14 [p_3]) fun l41 =>
 Option.bind (i64 ((l41.length : Int) - 1)) fun i44 =>
 Option.bind (i64 ((bloc_24.length : Int) - 1)) fun i46 =>
 Option.bind (at_ bloc_24 i46) fun x48 =>
 some (i44, kind_12, para_13, l41, resu_18, take_19, code_20, (bloc_24.set i46.toNat (mput x48 p_2 i44)))
def gen_look_l1 (p_2 : List UInt8) (bloc_24 : List (List (List UInt8 × Int))) : Nat → Int → Option Int
 | 0, _ => none
 | n + 1, i45 =>
  if (0 : Int) ≤ i45 then
   Option.bind (at_ bloc_24 i45) fun x63 =>
   if (mget x63 p_2).isSome = true then
    some ((mget x63 p_2).getD 0)
   else
    Option.bind (i64 (i45 - 1)) fun i77 =>
    gen_look_l1 p_2 bloc_24 n i77
  else
   none
def gen_look (fu : Nat)  (tabl_2 : TGenTable) (kind_12 : Int) (para_13 : Int) (loca_14 : List Int) (resu_18 : Int) (take_19 : Int) (code_20 : List TInstr) (bloc_24 : List (List (List UInt8 × Int))) (p_2 : List UInt8) : Option Int :=
 Option.bind (i64 ((bloc_24.length : Int) - 1)) fun i28 =>
 gen_look_l1 p_2 bloc_24 fu i28
structure GenE where
 gen_expr : TGenTable → Int → Int → (List Int) → Int → Int → (List TInstr) → (List (List (List UInt8 × Int))) → TExpr → Option (Int × Int × Int × List Int × Int × Int × List TInstr × List (List (List UInt8 × Int)))
def gen_expr_j1 (r252 : Int × Int × Int × List Int × Int × Int × List TInstr × List (List (List UInt8 × Int))) (i264 : Int) : Option (Int × Int × Int × List Int × Int × Int × List TInstr × List (List (List UInt8 × Int))) :=
 some (i264, r252.2.1, r252.2.2.1, r252.2.2.2.1, r252.2.2.2.2.1, r252.2.2.2.2.2.1, r252.2.2.2.2.2.2.1, r252.2.2.2.2.2.2.2)
def gen_expr_l1 (fu : Nat) (self : GenE) (p_2 : TExpr) (tabl_2 : TGenTable) : Nat → Int → Int → Int → Int → Int → (List Int) → (List TInstr) → (List (List (List UInt8 × Int))) → (List Int) → Option (Int × Int × Int × List Int × Int × Int × List TInstr × List (List (List UInt8 × Int)))
 | 0, _, _, _, _, _, _, _, _, _ => none
 | n + 1, i76, i77, i78, i79, i80, l83, l87, l91, l95 =>
  if i76 < (p_2.Kids.length : Int) then
   Option.bind (at_ p_2.Kids i76) fun x135 =>
   Option.bind (self.gen_expr tabl_2 i77 i78 l83 i79 i80 l87 l91 x135) fun r146 =>
   Option.bind (app l95 [r146.1]) fun l162 =>
   Option.bind (i64 (i76 + 1)) fun i165 =>
   gen_expr_l1 fu self p_2 tabl_2 n i165 r146.2.1 r146.2.2.1 r146.2.2.2.2.1 r146.2.2.2.2.2.1 r146.2.2.2.1 r146.2.2.2.2.2.2.1 r146.2.2.2.2.2.2.2 l162
  else
   if p_2.Kind = 1 then
    Option.bind (gen_put tabl_2 i77 i78 l83 i79 i80 l87 l91 1 0 p_2.N) fun r168 =>
    some (1, r168.2.1, r168.2.2.1, r168.2.2.2.1, r168.2.2.2.2.1, r168.2.2.2.2.2.1, r168.2.2.2.2.2.2.1, r168.2.2.2.2.2.2.2)
   else
    if p_2.Kind = 2 then
     Option.bind (gen_put tabl_2 i77 i78 l83 i79 i80 l87 l91 2 p_2.N 0) fun r181 =>
     some (2, r181.2.1, r181.2.2.1, r181.2.2.2.1, r181.2.2.2.2.1, r181.2.2.2.2.2.1, r181.2.2.2.2.2.2.1, r181.2.2.2.2.2.2.2)
    else
     if p_2.Kind = 3 then
      Option.bind (gen_look fu tabl_2 i77 i78 l83 i79 i80 l87 l91 p_2.Name) fun r194 =>
      Option.bind (gen_put tabl_2 i77 i78 l83 i79 i80 l87 l91 3 r194 0) fun r197 =>
      Option.bind (at_ r197.2.2.2.1 r194) fun x209 =>
      some (x209, r197.2.1, r197.2.2.1, r197.2.2.2.1, r197.2.2.2.2.1, r197.2.2.2.2.2.1, r197.2.2.2.2.2.2.1, r197.2.2.2.2.2.2.2)
     else
      if p_2.Kind = 4 then
       none
      else
       if p_2.Kind = 5 then
        none
       else
        if (6 : Int) ≤ p_2.Kind then
         if p_2.Kind ≤ 18 then
          Option.bind (i64 (8 + p_2.Kind)) fun i227 =>
          Option.bind (i64 (i227 - 6)) fun i229 =>
          Option.bind (gen_put tabl_2 i77 i78 l83 i79 i80 l87 l91 i229 0 0) fun r231 =>
          if p_2.Kind ≤ 10 then
           some (1, r231.2.1, r231.2.2.1, r231.2.2.2.1, r231.2.2.2.2.1, r231.2.2.2.2.2.1, r231.2.2.2.2.2.2.1, r231.2.2.2.2.2.2.2)
          else
           none
         else
          if p_2.Kind = 19 then
           none
          else
           if p_2.Kind = 20 then
            Option.bind (gen_put tabl_2 i77 i78 l83 i79 i80 l87 l91 27 ((mget tabl_2.boxes p_2.Name).getD 0) 0) fun r252 =>
            Option.bind ((mget tabl_2.defs p_2.Name)) fun x271 =>
            Option.bind (gen_typ tabl_2 x271.Typ) fun r284 =>
            gen_expr_j1 r252 r284
           else
            none
        else
         none
def gen_expr (fu : Nat) (self : GenE) (tabl_2 : TGenTable) (kind_12 : Int) (para_13 : Int) (loca_14 : List Int) (resu_18 : Int) (take_19 : Int) (code_20 : List TInstr) (bloc_24 : List (List (List UInt8 × Int))) (p_2 : TExpr) : Option (Int × Int × Int × List Int × Int × Int × List TInstr × List (List (List UInt8 × Int))) :=
 gen_expr_l1 fu self p_2 tabl_2 (p_2.Kids.length + 1) 0 kind_12 para_13 resu_18 take_19 loca_14 code_20 bloc_24 []
def GenE_run : Nat → GenE
 | 0 => ⟨fun _ _ _ _ _ _ _ _ _ => none⟩
 | n + 1 => ⟨gen_expr n (GenE_run n)⟩
structure GenS where
 gen_body : TGenTable → Int → Int → (List Int) → Int → Int → (List TInstr) → (List (List (List UInt8 × Int))) → (List TStat) → Option (Int × Int × List Int × Int × Int × List TInstr × List (List (List UInt8 × Int)))
 gen_stat : TGenTable → Int → Int → (List Int) → Int → Int → (List TInstr) → (List (List (List UInt8 × Int))) → TStat → Option (Int × Int × List Int × Int × Int × List TInstr × List (List (List UInt8 × Int)))
def gen_body_l1 (self : GenS) (p_2 : List TStat) (tabl_2 : TGenTable) : Nat → Int → Int → Int → Int → Int → (List Int) → (List TInstr) → (List (List (List UInt8 × Int))) → Option (Int × Int × List Int × Int × Int × List TInstr × List (List (List UInt8 × Int)))
 | 0, _, _, _, _, _, _, _, _ => none
 | n + 1, i81, i82, i83, i84, i85, l88, l92, l96 =>
  if i81 < (p_2.length : Int) then
   Option.bind (at_ p_2 i81) fun x134 =>
   Option.bind (self.gen_stat tabl_2 i82 i83 l88 i84 i85 l92 l96 x134) fun r151 =>
   Option.bind (i64 (i81 + 1)) fun i163 =>
   gen_body_l1 self p_2 tabl_2 n i163 r151.1 r151.2.1 r151.2.2.2.1 r151.2.2.2.2.1 r151.2.2.1 r151.2.2.2.2.2.1 r151.2.2.2.2.2.2
  else
   Option.bind (i64 ((l96.length : Int) - 1)) fun i165 =>
   Option.bind (cut l96 0 i165) fun l167 =>
   some (i82, i83, l88, i84, i85, l92, l167)
def gen_body (self : GenS) (tabl_2 : TGenTable) (kind_12 : Int) (para_13 : Int) (loca_14 : List Int) (resu_18 : Int) (take_19 : Int) (code_20 : List TInstr) (bloc_24 : List (List (List UInt8 × Int))) (p_2 : List TStat) : Option (Int × Int × List Int × Int × Int × List TInstr × List (List (List UInt8 × Int))) :=
 Option.bind (app bloc_24 [[]]) fun l44 =>
 gen_body_l1 self p_2 tabl_2 (p_2.length + 1) 0 kind_12 para_13 resu_18 take_19 loca_14 code_20 l44
def gen_stat_j1 (r90 : Int × Int × Int × List Int × Int × Int × List TInstr × List (List (List UInt8 × Int))) (l104 : List TInstr) : Option (Int × Int × List Int × Int × Int × List TInstr × List (List (List UInt8 × Int))) :=
 some (r90.2.1, r90.2.2.1, r90.2.2.2.1, r90.2.2.2.2.1, r90.2.2.2.2.2.1, l104, r90.2.2.2.2.2.2.2)
def gen_stat (fu : Nat) (self : GenS) (tabl_2 : TGenTable) (kind_12 : Int) (para_13 : Int) (loca_14 : List Int) (resu_18 : Int) (take_19 : Int) (code_20 : List TInstr) (bloc_24 : List (List (List UInt8 × Int))) (p_2 : TStat) : Option (Int × Int × List Int × Int × Int × List TInstr × List (List (List UInt8 × Int))) :=
 if p_2.Kind = 3 then
  none
 else
  if p_2.Kind = 4 then
   Option.bind (gen_here tabl_2 kind_12 para_13 loca_14 resu_18 take_19 code_20 bloc_24) fun r51 =>
   Option.bind ((GenE_run fu).gen_expr tabl_2 kind_12 para_13 loca_14 resu_18 take_19 code_20 bloc_24 p_2.X) fun r54 =>
   Option.bind (gen_put tabl_2 r54.2.1 r54.2.2.1 r54.2.2.2.1 r54.2.2.2.2.1 r54.2.2.2.2.2.1 r54.2.2.2.2.2.2.1 r54.2.2.2.2.2.2.2 22 0 0) fun r66 =>
   Option.bind (self.gen_body tabl_2 r66.2.1 r66.2.2.1 r66.2.2.2.1 r66.2.2.2.2.1 r66.2.2.2.2.2.1 r66.2.2.2.2.2.2.1 r66.2.2.2.2.2.2.2 p_2.Body) fun r78 =>
   Option.bind (gen_put tabl_2 r78.1 r78.2.1 r78.2.2.1 r78.2.2.2.1 r78.2.2.2.2.1 r78.2.2.2.2.2.1 r78.2.2.2.2.2.2 21 r51 0) fun r90 =>
   Option.bind (gen_here tabl_2 r90.2.1 r90.2.2.1 r90.2.2.2.1 r90.2.2.2.2.1 r90.2.2.2.2.2.1 r90.2.2.2.2.2.2.1 r90.2.2.2.2.2.2.2) fun r106 =>
   Option.bind (at_ r90.2.2.2.2.2.2.1 r66.1) fun x109 =>
   gen_stat_j1 r90 (r90.2.2.2.2.2.2.1.set r66.1.toNat (TInstr.mk x109.Op r106 x109.N))
  else
   if p_2.Kind = 6 then
    none
   else
    Option.bind ((GenE_run fu).gen_expr tabl_2 kind_12 para_13 loca_14 resu_18 take_19 code_20 bloc_24 p_2.X) fun r127 =>
    if p_2.Kind = 1 then
     Option.bind (gen_local tabl_2 r127.2.1 r127.2.2.1 r127.2.2.2.1 r127.2.2.2.2.1 r127.2.2.2.2.2.1 r127.2.2.2.2.2.2.1 r127.2.2.2.2.2.2.2 p_2.Name r127.1) fun r140 =>
     Option.bind (gen_put tabl_2 r140.2.1 r140.2.2.1 r140.2.2.2.1 r140.2.2.2.2.1 r140.2.2.2.2.2.1 r140.2.2.2.2.2.2.1 r140.2.2.2.2.2.2.2 4 r140.1 0) fun r152 =>
     some (r152.2.1, r152.2.2.1, r152.2.2.2.1, r152.2.2.2.2.1, r152.2.2.2.2.2.1, r152.2.2.2.2.2.2.1, r152.2.2.2.2.2.2.2)
    else
     if p_2.Kind = 2 then
      Option.bind (gen_look fu tabl_2 r127.2.1 r127.2.2.1 r127.2.2.2.1 r127.2.2.2.2.1 r127.2.2.2.2.2.1 r127.2.2.2.2.2.2.1 r127.2.2.2.2.2.2.2 p_2.Name) fun r165 =>
      Option.bind (gen_put tabl_2 r127.2.1 r127.2.2.1 r127.2.2.2.1 r127.2.2.2.2.1 r127.2.2.2.2.2.1 r127.2.2.2.2.2.2.1 r127.2.2.2.2.2.2.2 4 r165 0) fun r168 =>
      some (r168.2.1, r168.2.2.1, r168.2.2.2.1, r168.2.2.2.2.1, r168.2.2.2.2.2.1, r168.2.2.2.2.2.2.1, r168.2.2.2.2.2.2.2)
     else
      if p_2.Kind = 5 then
       none
      else
       if p_2.Kind = 7 then
        none
       else
        if p_2.Kind = 8 then
         Option.bind (gen_put tabl_2 r127.2.1 r127.2.2.1 r127.2.2.2.1 r127.2.2.2.2.1 r127.2.2.2.2.2.1 r127.2.2.2.2.2.2.1 r127.2.2.2.2.2.2.2 28 0 0) fun r183 =>
         some (r183.2.1, r183.2.2.1, r183.2.2.2.1, r183.2.2.2.2.1, r183.2.2.2.2.2.1, r183.2.2.2.2.2.2.1, r183.2.2.2.2.2.2.2)
        else
         none
def GenS_run : Nat → GenS
 | 0 => ⟨fun _ _ _ _ _ _ _ _ _ => none, fun _ _ _ _ _ _ _ _ _ => none⟩
 | n + 1 => ⟨gen_body (GenS_run n), gen_stat n (GenS_run n)⟩
def gen_unit (fu : Nat)  (p_1 : TGenTable) (p_2 : TDef) : Option TUnit :=
 if p_2.Kind ≠ 4 then
  none
 else
  if p_2.Kind = 3 then
   none
  else
   Option.bind ((GenS_run fu).gen_body p_1 p_2.Kind 0 ([] : List Int) 0 0 ([] : List TInstr) [([] : List (List UInt8 × Int))] p_2.Body) fun r40 =>
   if p_2.Kind ≠ 2 then
    Option.bind (gen_put p_1 r40.1 r40.2.1 r40.2.2.1 r40.2.2.2.1 r40.2.2.2.2.1 r40.2.2.2.2.2.1 r40.2.2.2.2.2.2 25 0 0) fun r53 =>
    some (TUnit.mk r53.2.1 r53.2.2.1 r53.2.2.2.1 r53.2.2.2.2.1 r53.2.2.2.2.2.1 r53.2.2.2.2.2.2.1)
   else
    none
def gen_compile_j2 (i162 : Int) (l169 : List (List UInt8 × Int)) (l173 : List (List UInt8 × TDef)) (x316 : TDef) (x330 : TDef) (l364 : List (List UInt8 × Int)) (k_gen_compile_l1 : Int → (List (List UInt8 × Int)) → (List (List UInt8 × Int)) → (List (List UInt8 × TDef)) → (List TBoxInfo) → Option (TModule × TFault)) (l387 : List TBoxInfo) : Option (TModule × TFault) :=
 Option.bind (i64 (i162 + 1)) fun i429 =>
 k_gen_compile_l1 i429 l364 l169 (mput l173 x316.Name x330) l387
def gen_compile_j1 (p_1 : List TDef) (i162 : Int) (l169 : List (List UInt8 × Int)) (l173 : List (List UInt8 × TDef)) (l177 : List TBoxInfo) (x316 : TDef) (x330 : TDef) (k_gen_compile_l1 : Int → (List (List UInt8 × Int)) → (List (List UInt8 × Int)) → (List (List UInt8 × TDef)) → (List TBoxInfo) → Option (TModule × TFault)) (l364 : List (List UInt8 × Int)) : Option (TModule × TFault) :=
 Option.bind (at_ p_1 i162) fun x389 =>
 Option.bind (at_ p_1 i162) fun x403 =>
 Option.bind (gen_typo l364 l169 (mput l173 x316.Name x330) x389.Typ) fun r417 =>
 Option.bind (app l177 [(TBoxInfo.mk r417 x403.Cap)]) fun l424 =>
 gen_compile_j2 i162 l169 l173 x316 x330 l364 k_gen_compile_l1 l424
def gen_compile_j3 (i162 : Int) (l165 : List (List UInt8 × Int)) (l173 : List (List UInt8 × TDef)) (l177 : List TBoxInfo) (x316 : TDef) (x330 : TDef) (k_gen_compile_l1 : Int → (List (List UInt8 × Int)) → (List (List UInt8 × Int)) → (List (List UInt8 × TDef)) → (List TBoxInfo) → Option (TModule × TFault)) (l433 : List (List UInt8 × Int)) : Option (TModule × TFault) :=
 Option.bind (i64 (i162 + 1)) fun i454 =>
 k_gen_compile_l1 i454 l165 l433 (mput l173 x316.Name x330) l177
def gen_compile_l2 (fu : Nat) (p_1 : List TDef) (l165 : List (List UInt8 × Int)) (l169 : List (List UInt8 × Int)) (l173 : List (List UInt8 × TDef)) (l177 : List TBoxInfo) : Nat → Int → (List TUnit) → Option (TModule × TFault)
 | 0, _, _ => none
 | n + 1, i518, l521 =>
  if i518 < (p_1.length : Int) then
   Option.bind (at_ p_1 i518) fun x579 =>
   if x579.Kind = 1 then
    Option.bind (i64 (i518 + 1)) fun i594 =>
    gen_compile_l2 fu p_1 l165 l169 l173 l177 n i594 l521
   else
    Option.bind (at_ p_1 i518) fun x596 =>
    Option.bind (gen_unit fu (TGenTable.mk l165 l169 l173) x596) fun r610 =>
    if (200 : Int) < (r610.Locals.length : Int) then
     none
    else
     if (4000 : Int) < (r610.Code.length : Int) then
      none
     else
      Option.bind (app l521 [r610]) fun l627 =>
      Option.bind (i64 (i518 + 1)) fun i630 =>
      gen_compile_l2 fu p_1 l165 l169 l173 l177 n i630 l627
  else
   some ((TModule.mk l177 l521), (TFault.mk 0 0))
def gen_compile_l1 (fu : Nat) (p_1 : List TDef) : Nat → Int → (List (List UInt8 × Int)) → (List (List UInt8 × Int)) → (List (List UInt8 × TDef)) → (List TBoxInfo) → Option (TModule × TFault)
 | 0, _, _, _, _, _ => none
 | n + 1, i162, l165, l169, l173, l177 =>
  if i162 < (p_1.length : Int) then
   Option.bind (at_ p_1 i162) fun x316 =>
   Option.bind (at_ p_1 i162) fun x330 =>
   Option.bind (at_ p_1 i162) fun x347 =>
   if x347.Kind = 1 then
    Option.bind (at_ p_1 i162) fun x366 =>
    gen_compile_j1 p_1 i162 l169 l173 l177 x316 x330 (gen_compile_l1 fu p_1 n) (mput l165 x366.Name (l165.length : Int))
   else
    Option.bind (at_ p_1 i162) fun x435 =>
    gen_compile_j3 i162 l165 l173 l177 x316 x330 (gen_compile_l1 fu p_1 n) (mput l169 x435.Name (l169.length : Int))
  else
   gen_compile_l2 fu p_1 l165 l169 l173 l177 (p_1.length + 1) 0 []
def gen_compile (fu : Nat)  (p_1 : List TDef) : Option (TModule × TFault) :=
 Option.bind (sema_check fu p_1) fun r14 =>
 if r14.Err ≠ 0 then
  none
 else
  gen_compile_l1 fu p_1 (p_1.length + 1) 0 ([] : List (List UInt8 × Int)) ([] : List (List UInt8 × Int)) ([] : List (List UInt8 × TDef)) []
end Go.Y
namespace Go.Y
open Go.Wk Go.Xt
def vf_plain  (p_1 : Int) : Option Bool :=
 if p_1 = 1 then
  some true
 else
  none
def vf_instr_j1  (b17 : Bool) : Option Int :=
 if b17 = true then
  some 0
 else
  none
def vf_instr_j3 (p_1 : TVerifyChecker) (p_2 : TUnit) (p_3 : TInstr) (b25 : Bool) : Option Int :=
 if b25 = true then
  if (0 : Int) ≤ p_3.A then
   vf_instr_j1 (decide (p_3.A < (p_2.Code.length : Int)))
  else
   none
 else
  if p_3.Op = 23 then
   none
  else
   if p_3.Op = 29 then
    none
   else
    if p_3.Op = 26 then
     none
    else
     if p_3.Op = 27 then
      if (0 : Int) ≤ p_3.A then
       Option.bind (p_1.m) fun x35 =>
       vf_instr_j1 (decide (p_3.A < (x35.Boxes.length : Int)))
      else
       none
     else
      if p_3.Op < 1 then
       none
      else
       if (32 : Int) < p_3.Op then
        none
       else
        vf_instr_j1 true
def vf_instr_j2 (p_1 : TVerifyChecker) (p_2 : TUnit) (p_3 : TInstr) (b20 : Bool) : Option Int :=
 if b20 = true then
  if (0 : Int) ≤ p_3.A then
   vf_instr_j1 (decide (p_3.A < (p_2.Locals.length : Int)))
  else
   none
 else
  if p_3.Op = 21 then
   vf_instr_j3 p_1 p_2 p_3 (decide (p_3.Op = 21))
  else
   vf_instr_j3 p_1 p_2 p_3 (decide (p_3.Op = 22))
def vf_instr  (p_1 : TVerifyChecker) (p_2 : TUnit) (p_3 : TInstr) : Option Int :=
 if p_3.Op = 2 then
  if p_3.A = 0 then
   none
  else
   vf_instr_j1 (decide (p_3.A = 1))
 else
  if p_3.Op = 3 then
   vf_instr_j2 p_1 p_2 p_3 (decide (p_3.Op = 3))
  else
   vf_instr_j2 p_1 p_2 p_3 (decide (p_3.Op = 4))
def idxf_i_l1 (p_1 : List Int) (p_2 : Int → Option Bool) : Nat → Int → Option Int
 | 0, _ => none
 | n + 1, i20 =>
  if i20 < (p_1.length : Int) then
   Option.bind (at_ p_1 i20) fun x37 =>
   Option.bind (p_2 x37) fun b45 =>
   if b45 = true then
    some i20
   else
    Option.bind (i64 (i20 + 1)) fun i49 =>
    idxf_i_l1 p_1 p_2 n i49
  else
   some (-1)
def idxf_i  (p_1 : List Int) (p_2 : Int → Option Bool) : Option Int :=
 idxf_i_l1 p_1 p_2 (p_1.length + 1) 0
def conf_i  (p_1 : List Int) (p_2 : Int → Option Bool) : Option Bool :=
 Option.bind (idxf_i p_1 p_2) fun r7 =>
 some (decide ((0 : Int) ≤ r7))
def idxf_n_l1 (p_1 : List TInstr) (p_2 : TInstr → Option Bool) : Nat → Int → Option Int
 | 0, _ => none
 | n + 1, i20 =>
  if i20 < (p_1.length : Int) then
   Option.bind (at_ p_1 i20) fun x37 =>
   Option.bind (p_2 x37) fun b45 =>
   if b45 = true then
    some i20
   else
    Option.bind (i64 (i20 + 1)) fun i49 =>
    idxf_n_l1 p_1 p_2 n i49
  else
   some (-1)
def idxf_n  (p_1 : List TInstr) (p_2 : TInstr → Option Bool) : Option Int :=
 idxf_n_l1 p_1 p_2 (p_1.length + 1) 0
def conf_n  (p_1 : List TInstr) (p_2 : TInstr → Option Bool) : Option Bool :=
 Option.bind (idxf_n p_1 p_2) fun r7 =>
 some (decide ((0 : Int) ≤ r7))
def vf_head1  (p_1 : Int) (p_2 : Option TVerifyChecker) : Option Bool :=
 Option.bind (vf_plain p_1) fun r6 =>
 if r6 = true then
  some false
 else
  none
def vf_head  (p_1 : TVerifyChecker) (p_2 : TUnit) : Option Int :=
 if p_2.Kind ≠ 2 then
  if p_2.Kind ≠ 3 then
   if p_2.Kind ≠ 4 then
    none
   else
    if (200 : Int) < (p_2.Locals.length : Int) then
     none
    else
     if p_2.Params < 0 then
      none
     else
      if (6 : Int) < p_2.Params then
       none
      else
       if (p_2.Locals.length : Int) < p_2.Params then
        none
       else
        if p_2.Kind = 4 then
         if (0 : Int) < p_2.Params then
          none
         else
          if (p_2.Code.length : Int) < 1 then
           none
          else
           if (4000 : Int) < (p_2.Code.length : Int) then
            none
           else
            if p_2.Kind ≠ 4 then
             none
            else
             if p_2.Kind = 3 then
              none
             else
              Option.bind (conf_i p_2.Locals (fun x_ => vf_head1 x_ (some p_1))) fun r32 =>
              if r32 = true then
               none
              else
               some 0
        else
         none
  else
   none
 else
  none
def vf_form_l3 (p_1 : TVerifyChecker) (i143 : Int) (i144 : Int) (x214 : TUnit) (k_vf_form_l2 : Int → Int → Option TWhere) : Nat → Int → Option TWhere
 | 0, _ => none
 | n + 1, i247 =>
  if i247 < (x214.Code.length : Int) then
   Option.bind (at_ x214.Code i247) fun x265 =>
   Option.bind (vf_instr p_1 x214 x265) fun r275 =>
   if r275 ≠ 0 then
    none
   else
    Option.bind (i64 (i247 + 1)) fun i279 =>
    vf_form_l3 p_1 i143 i144 x214 k_vf_form_l2 n i279
  else
   if x214.Kind = 4 then
    Option.bind (i64 (i143 + 1)) fun i282 =>
    Option.bind (i64 (i144 + 1)) fun i284 =>
    k_vf_form_l2 i282 i284
   else
    none
def vf_form_l2 (p_1 : TVerifyChecker) (x8 : TModule) : Nat → Int → Int → Option TWhere
 | 0, _, _ => none
 | n + 1, i143, i144 =>
  if i144 < (x8.Units.length : Int) then
   Option.bind (at_ x8.Units i144) fun x214 =>
   Option.bind (vf_head p_1 x214) fun r228 =>
   if r228 ≠ 0 then
    none
   else
    vf_form_l3 p_1 i143 i144 x214 (vf_form_l2 p_1 x8 n) (x214.Code.length + 1) 0
  else
   if i143 = 0 then
    none
   else
    some (TWhere.mk 0 0 0)
def vf_form_l1 (p_1 : TVerifyChecker) (x8 : TModule) : Nat → Int → Option TWhere
 | 0, _ => none
 | n + 1, i39 =>
  if i39 < (x8.Boxes.length : Int) then
   Option.bind (at_ x8.Boxes i39) fun x58 =>
   Option.bind (vf_plain x58.Typ) fun r68 =>
   if r68 = true then
    if x58.Cap < 1 then
     none
    else
     if (20 : Int) < x58.Cap then
      none
     else
      Option.bind (i64 (i39 + 1)) fun i74 =>
      vf_form_l1 p_1 x8 n i74
   else
    none
  else
   vf_form_l2 p_1 x8 (x8.Units.length + 1) 0 0
def vf_form  (p_1 : TVerifyChecker) : Option TWhere :=
 Option.bind (p_1.m) fun x8 =>
 if (30 : Int) < (x8.Boxes.length : Int) then
  none
 else
  if (30 : Int) < (x8.Units.length : Int) then
   none
  else
   vf_form_l1 p_1 x8 (x8.Boxes.length + 1) 0
end Go.Y
namespace Go.Y
open Go.Wk Go.Xt
def vf_copied_j1  (l19 : List Int) (l23 : List Bool) : Option TVerifyShape :=
 some (TVerifyShape.mk l19 l23)
def vf_copied  (p_1 : TVerifyShape) : Option TVerifyShape :=
 Option.bind (small p_1.stack) fun u25 =>
 Option.bind (small p_1.has) fun u29 =>
 vf_copied_j1 p_1.stack p_1.has
def vf_copiedr_j1  (l19 : List Int) (l23 : List Bool) : Option TVerifyShape :=
 some (TVerifyShape.mk l19 l23)
def vf_copiedr  (p_1 : TVerifyShape) : Option TVerifyShape :=
 Option.bind (small p_1.stack) fun u25 =>
 Option.bind (small p_1.has) fun u29 =>
 vf_copiedr_j1 p_1.stack p_1.has
def sl_equal_l1 (p_1 : List Int) : Nat → Option Bool
 | 0 => none
 | n + 1 =>
  if (0 : Int) < (p_1.length : Int) then
   none
  else
   some true
def sl_equal  (p_1 : List Int) (p_2 : List Int) : Option Bool :=
 if (p_1.length : Int) ≠ (p_2.length : Int) then
  none
 else
  sl_equal_l1 p_1 (p_1.length + 1)
def vf_push  (chec_2 : TVerifyChecker) (u_8 : TUnit) (at_18 : List (Int × TVerifyShape)) (todo_23 : List Int) (stac_27 : List Int) (has_31 : List Bool) (err_35 : Int) (p_2 : Int) : Option (List (Int × TVerifyShape) × List Int × List Int × List Bool × Int) :=
 Option.bind (app stac_27 [p_2]) fun l52 =>
 if (300 : Int) < (l52.length : Int) then
  none
 else
  some (at_18, todo_23, l52, has_31, err_35)
def vf_pop  (chec_2 : TVerifyChecker) (u_8 : TUnit) (at_18 : List (Int × TVerifyShape)) (todo_23 : List Int) (stac_27 : List Int) (has_31 : List Bool) (err_35 : Int) : Option (Int × List (Int × TVerifyShape) × List Int × List Int × List Bool × Int) :=
 if (stac_27.length : Int) = 0 then
  none
 else
  Option.bind (i64 ((stac_27.length : Int) - 1)) fun i49 =>
  Option.bind (at_ stac_27 i49) fun x51 =>
  Option.bind (i64 ((stac_27.length : Int) - 1)) fun i65 =>
  Option.bind (cut stac_27 0 i65) fun l67 =>
  some (x51, at_18, todo_23, l67, has_31, err_35)
def vf_want_l1 (chec_2 : TVerifyChecker) (p_2 : List Int) (u_8 : TUnit) : Nat → Int → Int → (List (Int × TVerifyShape)) → (List Int) → (List Int) → (List Bool) → Option (List (Int × TVerifyShape) × List Int × List Int × List Bool × Int)
 | 0, _, _, _, _, _, _ => none
 | n + 1, i78, i79, l82, l86, l90, l94 =>
  if (0 : Int) ≤ i78 then
   Option.bind (vf_pop chec_2 u_8 l82 l86 l90 l94 i79) fun r127 =>
   Option.bind (at_ p_2 i78) fun x142 =>
   if r127.1 ≠ x142 then
    none
   else
    Option.bind (i64 (i78 - 1)) fun i151 =>
    vf_want_l1 chec_2 p_2 u_8 n i151 r127.2.2.2.2.2 r127.2.1 r127.2.2.1 r127.2.2.2.1 r127.2.2.2.2.1
  else
   some (l82, l86, l90, l94, i79)
def vf_want (fu : Nat)  (chec_2 : TVerifyChecker) (u_8 : TUnit) (at_18 : List (Int × TVerifyShape)) (todo_23 : List Int) (stac_27 : List Int) (has_31 : List Bool) (err_35 : Int) (p_2 : List Int) : Option (List (Int × TVerifyShape) × List Int × List Int × List Bool × Int) :=
 Option.bind (i64 ((p_2.length : Int) - 1)) fun i51 =>
 vf_want_l1 chec_2 p_2 u_8 fu i51 err_35 at_18 todo_23 stac_27 has_31
def vf_to_j1 (p_2 : Int) (todo_23 : List Int) (stac_27 : List Int) (has_31 : List Bool) (err_35 : Int) (l65 : List (Int × TVerifyShape)) : Option (List (Int × TVerifyShape) × List Int × List Int × List Bool × Int) :=
 Option.bind (app todo_23 [p_2]) fun l95 =>
 some (l65, l95, stac_27, has_31, err_35)
def vf_to_j2 (i128 : Int) (k_vf_to_l1 : Int → Option (List (Int × TVerifyShape) × List Int × List Int × List Bool × Int)) (b157 : Bool) : Option (List (Int × TVerifyShape) × List Int × List Int × List Bool × Int) :=
 if b157 = true then
  none
 else
  Option.bind (i64 (i128 + 1)) fun i183 =>
  k_vf_to_l1 i183
def vf_to_l1 (p_2 : Int) (at_18 : List (Int × TVerifyShape)) (todo_23 : List Int) (stac_27 : List Int) (has_31 : List Bool) (err_35 : Int) : Nat → Int → Option (List (Int × TVerifyShape) × List Int × List Int × List Bool × Int)
 | 0, _ => none
 | n + 1, i128 =>
  if i128 < ((((mget at_18 p_2).getD (TVerifyShape.mk ([] : List Int) ([] : List Bool))).has).length : Int) then
   Option.bind (at_ (((mget at_18 p_2).getD (TVerifyShape.mk ([] : List Int) ([] : List Bool))).has) i128) fun x158 =>
   if x158 = true then
    Option.bind (at_ has_31 i128) fun x167 =>
    vf_to_j2 i128 (vf_to_l1 p_2 at_18 todo_23 stac_27 has_31 err_35 n) (!x167)
   else
    vf_to_j2 i128 (vf_to_l1 p_2 at_18 todo_23 stac_27 has_31 err_35 n) false
  else
   some (at_18, todo_23, stac_27, has_31, err_35)
def vf_to  (chec_2 : TVerifyChecker) (u_8 : TUnit) (at_18 : List (Int × TVerifyShape)) (todo_23 : List Int) (stac_27 : List Int) (has_31 : List Bool) (err_35 : Int) (p_2 : Int) : Option (List (Int × TVerifyShape) × List Int × List Int × List Bool × Int) :=
 if err_35 ≠ 0 then
  none
 else
  if p_2 = (u_8.Code.length : Int) then
   none
  else
   if (mget at_18 p_2).isSome = true then
    Option.bind (sl_equal (((mget at_18 p_2).getD (TVerifyShape.mk ([] : List Int) ([] : List Bool))).stack) stac_27) fun r98 =>
    if r98 = true then
     vf_to_l1 p_2 at_18 todo_23 stac_27 has_31 err_35 ((((mget at_18 p_2).getD (TVerifyShape.mk ([] : List Int) ([] : List Bool))).has).length + 1) 0
    else
     none
   else
    Option.bind (vf_copiedr (TVerifyShape.mk stac_27 has_31)) fun r67 =>
    vf_to_j1 p_2 todo_23 stac_27 has_31 err_35 (mput at_18 p_2 r67)
def vf_done  (chec_2 : TVerifyChecker) (u_8 : TUnit) (at_18 : List (Int × TVerifyShape)) (todo_23 : List Int) (stac_27 : List Int) (has_31 : List Bool) (err_35 : Int) : Option (Bool × List (Int × TVerifyShape) × List Int × List Int × List Bool × Int) :=
 if (0 : Int) < (stac_27.length : Int) then
  none
 else
  some (false, at_18, todo_23, stac_27, has_31, err_35)
def vf_special_j1  (i50 : Int) (l53 : List (Int × TVerifyShape)) (l57 : List Int) (l61 : List Int) (l65 : List Bool) : Option (Bool × List (Int × TVerifyShape) × List Int × List Int × List Bool × Int) :=
 some (true, l53, l57, l61, l65, i50)
def vf_special  (chec_2 : TVerifyChecker) (u_8 : TUnit) (at_18 : List (Int × TVerifyShape)) (todo_23 : List Int) (stac_27 : List Int) (has_31 : List Bool) (err_35 : Int) (p_2 : TInstr) : Option (Bool × List (Int × TVerifyShape) × List Int × List Int × List Bool × Int) :=
 if p_2.Op = 23 then
  none
 else
  if p_2.Op = 29 then
   none
  else
   if p_2.Op = 24 then
    none
   else
    if p_2.Op = 25 then
     if u_8.Kind = 2 then
      none
     else
      Option.bind (vf_done chec_2 u_8 at_18 todo_23 stac_27 has_31 err_35) fun r72 =>
      some (r72.1, r72.2.1, r72.2.2.1, r72.2.2.2.1, r72.2.2.2.2.1, r72.2.2.2.2.2)
    else
     if p_2.Op = 26 then
      none
     else
      if p_2.Op = 27 then
       Option.bind (chec_2.m) fun x89 =>
       Option.bind (at_ x89.Boxes p_2.A) fun x102 =>
       Option.bind (vf_push chec_2 u_8 at_18 todo_23 stac_27 has_31 err_35 x102.Typ) fun r110 =>
       vf_special_j1 r110.2.2.2.2 r110.1 r110.2.1 r110.2.2.1 r110.2.2.2.1
      else
       if p_2.Op = 28 then
        Option.bind (vf_pop chec_2 u_8 at_18 todo_23 stac_27 has_31 err_35) fun r126 =>
        if r126.2.2.2.2.2 = 0 then
         Option.bind (vf_plain r126.1) fun r142 =>
         if r142 = true then
          vf_special_j1 r126.2.2.2.2.2 r126.2.1 r126.2.2.1 r126.2.2.2.1 r126.2.2.2.2.1
         else
          none
        else
         none
       else
        none
def vf_step_j1  (i50 : Int) (l53 : List (Int × TVerifyShape)) (l57 : List Int) (l61 : List Int) (l65 : List Bool) : Option (Bool × List (Int × TVerifyShape) × List Int × List Int × List Bool × Int) :=
 some (true, l53, l57, l61, l65, i50)
def vf_step (fu : Nat)  (chec_2 : TVerifyChecker) (u_8 : TUnit) (at_18 : List (Int × TVerifyShape)) (todo_23 : List Int) (stac_27 : List Int) (has_31 : List Bool) (err_35 : Int) (p_2 : TInstr) : Option (Bool × List (Int × TVerifyShape) × List Int × List Int × List Bool × Int) :=
 if p_2.Op = 1 then
  Option.bind (vf_push chec_2 u_8 at_18 todo_23 stac_27 has_31 err_35 1) fun r68 =>
  vf_step_j1 r68.2.2.2.2 r68.1 r68.2.1 r68.2.2.1 r68.2.2.2.1
 else
  if p_2.Op = 2 then
   Option.bind (vf_push chec_2 u_8 at_18 todo_23 stac_27 has_31 err_35 2) fun r84 =>
   vf_step_j1 r84.2.2.2.2 r84.1 r84.2.1 r84.2.2.1 r84.2.2.2.1
  else
   if p_2.Op = 3 then
    Option.bind (at_ has_31 p_2.A) fun x100 =>
    if x100 = true then
     Option.bind (at_ u_8.Locals p_2.A) fun x115 =>
     Option.bind (vf_push chec_2 u_8 at_18 todo_23 stac_27 has_31 err_35 x115) fun r123 =>
     vf_step_j1 r123.2.2.2.2 r123.1 r123.2.1 r123.2.2.1 r123.2.2.2.1
    else
     none
   else
    if p_2.Op = 4 then
     Option.bind (at_ u_8.Locals p_2.A) fun x139 =>
     Option.bind (vf_want fu chec_2 u_8 at_18 todo_23 stac_27 has_31 err_35 [x139]) fun r151 =>
     Option.bind (at_ r151.2.2.2.1 p_2.A) fun x166 =>
     vf_step_j1 r151.2.2.2.2 r151.1 r151.2.1 r151.2.2.1 (r151.2.2.2.1.set p_2.A.toNat true)
    else
     if p_2.Op = 5 then
      none
     else
      if p_2.Op = 6 then
       none
      else
       if p_2.Op = 7 then
        none
       else
        if (8 : Int) ≤ p_2.Op then
         if p_2.Op ≤ 12 then
          Option.bind (vf_want fu chec_2 u_8 at_18 todo_23 stac_27 has_31 err_35 [1, 1]) fun r190 =>
          Option.bind (vf_push chec_2 u_8 r190.1 r190.2.1 r190.2.2.1 r190.2.2.2.1 r190.2.2.2.2 1) fun r205 =>
          vf_step_j1 r205.2.2.2.2 r205.1 r205.2.1 r205.2.2.1 r205.2.2.2.1
         else
          if p_2.Op = 13 then
           none
          else
           if p_2.Op = 14 then
            none
           else
            if (15 : Int) ≤ p_2.Op then
             if p_2.Op ≤ 18 then
              none
             else
              if p_2.Op = 19 then
               none
              else
               if p_2.Op = 20 then
                none
               else
                if p_2.Op = 21 then
                 Option.bind (vf_to chec_2 u_8 at_18 todo_23 stac_27 has_31 err_35 p_2.A) fun r227 =>
                 some (false, r227.1, r227.2.1, r227.2.2.1, r227.2.2.2.1, r227.2.2.2.2)
                else
                 if p_2.Op = 22 then
                  Option.bind (vf_want fu chec_2 u_8 at_18 todo_23 stac_27 has_31 err_35 [2]) fun r247 =>
                  Option.bind (vf_to chec_2 u_8 r247.1 r247.2.1 r247.2.2.1 r247.2.2.2.1 r247.2.2.2.2 p_2.A) fun r262 =>
                  vf_step_j1 r262.2.2.2.2 r262.1 r262.2.1 r262.2.2.1 r262.2.2.2.1
                 else
                  Option.bind (vf_special chec_2 u_8 at_18 todo_23 stac_27 has_31 err_35 p_2) fun r277 =>
                  some (r277.1, r277.2.1, r277.2.2.1, r277.2.2.2.1, r277.2.2.2.2.1, r277.2.2.2.2.2)
            else
             none
        else
         none
def vf_code_j1 (k_vf_code_l2 : (List (Int × TVerifyShape)) → Int → (List Bool) → (List Int) → (List Int) → Option TWhere) (l350 : List (Int × TVerifyShape)) (i352 : Int) (l355 : List Bool) (l359 : List Int) (l363 : List Int) : Option TWhere :=
 if i352 ≠ 0 then
  none
 else
  k_vf_code_l2 l350 i352 l355 l359 l363
def vf_code_l2 (fu : Nat) (p_1 : TVerifyChecker) (x21 : TUnit) : Nat → (List (Int × TVerifyShape)) → Int → (List Bool) → (List Int) → (List Int) → Option TWhere
 | 0, _, _, _, _, _ => none
 | n + 1, l163, i165, l168, l172, l176 =>
  if (0 : Int) < (l172.length : Int) then
   Option.bind (at_ l172 0) fun x283 =>
   Option.bind (cut l172 1 l172.length) fun l297 =>
   Option.bind (vf_copied ((mget l163 x283).getD (TVerifyShape.mk ([] : List Int) ([] : List Bool)))) fun r316 =>
   Option.bind (at_ x21.Code x283) fun x325 =>
   Option.bind (vf_step fu p_1 x21 l163 l297 r316.stack r316.has i165 x325) fun r333 =>
   if r333.1 = true then
    Option.bind (i64 (x283 + 1)) fun i366 =>
    Option.bind (vf_to p_1 x21 r333.2.1 r333.2.2.1 r333.2.2.2.1 r333.2.2.2.2.1 r333.2.2.2.2.2 i366) fun r368 =>
    vf_code_j1 (vf_code_l2 fu p_1 x21 n) r368.1 r368.2.2.2.2 r368.2.2.2.1 r368.2.1 r368.2.2.1
   else
    vf_code_j1 (vf_code_l2 fu p_1 x21 n) r333.2.1 r333.2.2.2.2.2 r333.2.2.2.2.1 r333.2.2.1 r333.2.2.2.1
  else
   some (TWhere.mk 0 0 0)
def vf_code_l1 (fu : Nat) (p_1 : TVerifyChecker) (x21 : TUnit) (k39 : Nat) : Nat → Option TWhere
 | 0 => none
 | n + 1 =>
  if (0 : Int) < x21.Params then
   none
  else
   Option.bind (vf_to p_1 x21 ([] : List (Int × TVerifyShape)) ([] : List Int) ([] : List Int) (List.replicate k39 (false : Bool)) 0 0) fun r47 =>
   vf_code_l2 fu p_1 x21 fu r47.1 r47.2.2.2.2 r47.2.2.2.1 r47.2.1 r47.2.2.1
def vf_code (fu : Nat)  (p_1 : TVerifyChecker) (p_2 : Int) : Option TWhere :=
 Option.bind (p_1.m) fun x8 =>
 Option.bind (at_ x8.Units p_2) fun x21 =>
 Option.bind (mks (x21.Locals.length : Int)) fun k39 =>
 vf_code_l1 fu p_1 x21 k39 ((x21.Params - 0).toNat + 1)
def vf_reach_l2 (i98 : Int) (x214 : TUnit) (k_vf_reach_l1 : Int → Option (List Int)) : Nat → Int → Option (List Int)
 | 0, _ => none
 | n + 1, i242 =>
  if i242 < (x214.Code.length : Int) then
   Option.bind (at_ x214.Code i242) fun x259 =>
   if x259.Op = 23 then
    none
   else
    if x259.Op = 29 then
     none
    else
     Option.bind (i64 (i242 + 1)) fun i271 =>
     vf_reach_l2 i98 x214 k_vf_reach_l1 n i271
  else
   Option.bind (i64 (i98 + 1)) fun i273 =>
   k_vf_reach_l1 i273
def vf_reach_l1 (p_1 : TVerifyChecker) (p_2 : Int) : Nat → Int → Option (List Int)
 | 0, _ => none
 | n + 1, i98 =>
  if i98 < (([p_2] : List Int).length : Int) then
   Option.bind (at_ ([p_2] : List Int) i98) fun x187 =>
   Option.bind (p_1.m) fun x201 =>
   Option.bind (at_ x201.Units x187) fun x214 =>
   vf_reach_l2 i98 x214 (vf_reach_l1 p_1 p_2 n) (x214.Code.length + 1) 0
  else
   some ([p_2] : List Int)
def vf_reach (fu : Nat)  (p_1 : TVerifyChecker) (p_2 : Int) : Option (List Int) :=
 vf_reach_l1 p_1 p_2 fu 0
def vf_owned11  (p_1 : TInstr) (p_2 : Int) (p_3 : Int) : Option Bool :=
 if p_1.Op = p_2 then
  some (decide (p_1.A = p_3))
 else
  some false
def vf_owned1  (p_1 : Int) (p_2 : Option TVerifyChecker) (p_3 : Int) (p_4 : Int) : Option Bool :=
 Option.bind (p_2) fun x12 =>
 Option.bind (x12.m) fun x21 =>
 Option.bind (at_ x21.Units p_1) fun x34 =>
 Option.bind (conf_n x34.Code (fun x_ => vf_owned11 x_ p_3 p_4)) fun r48 =>
 some r48
def vf_owned_l3 (fu : Nat) (p_1 : TVerifyChecker) (x10 : TModule) (i363 : Int) (i821 : Int) (x933 : Int) (k_vf_owned_l2 : Int → Option TWhere) : Nat → Int → Int → Option TWhere
 | 0, _, _ => none
 | n + 1, i976, i977 =>
  if i977 < (x10.Units.length : Int) then
   Option.bind (at_ x10.Units i977) fun x1011 =>
   if x1011.Kind = 4 then
    Option.bind (vf_reach fu p_1 i977) fun r1028 =>
    Option.bind (conf_i r1028 (fun x_ => vf_owned1 x_ (some p_1) x933 i363)) fun r1034 =>
    if r1034 = true then
     Option.bind (i64 (i976 + 1)) fun i1038 =>
     Option.bind (i64 (i977 + 1)) fun i1040 =>
     vf_owned_l3 fu p_1 x10 i363 i821 x933 k_vf_owned_l2 n i1038 i1040
    else
     Option.bind (i64 (i977 + 1)) fun i1042 =>
     vf_owned_l3 fu p_1 x10 i363 i821 x933 k_vf_owned_l2 n i976 i1042
   else
    none
  else
   if (1 : Int) < i976 then
    none
   else
    Option.bind (i64 (i821 + 1)) fun i1045 =>
    k_vf_owned_l2 i1045
def vf_owned_l2 (fu : Nat) (p_1 : TVerifyChecker) (x10 : TModule) (i363 : Int) (k_vf_owned_l1 : Int → Option TWhere) : Nat → Int → Option TWhere
 | 0, _ => none
 | n + 1, i821 =>
  if i821 < 2 then
   Option.bind (at_ [26, 27] i821) fun x933 =>
   vf_owned_l3 fu p_1 x10 i363 i821 x933 (vf_owned_l2 fu p_1 x10 i363 k_vf_owned_l1 n) (x10.Units.length + 1) 0 0
  else
   Option.bind (i64 (i363 + 1)) fun i1047 =>
   k_vf_owned_l1 i1047
def vf_owned_l1 (fu : Nat) (p_1 : TVerifyChecker) (x10 : TModule) : Nat → Int → Option TWhere
 | 0, _ => none
 | n + 1, i363 =>
  if i363 < (x10.Boxes.length : Int) then
   vf_owned_l2 fu p_1 x10 i363 (vf_owned_l1 fu p_1 x10 n) 3 0
  else
   some (TWhere.mk 0 0 0)
def vf_owned (fu : Nat)  (p_1 : TVerifyChecker) : Option TWhere :=
 Option.bind (p_1.m) fun x10 =>
 vf_owned_l1 fu p_1 x10 (x10.Boxes.length + 1) 0
def vf_verify_l1 (fu : Nat) (p_1 : TModule) : Nat → Int → Option TWhere
 | 0, _ => none
 | n + 1, i30 =>
  if i30 < (p_1.Units.length : Int) then
   Option.bind (vf_code fu (TVerifyChecker.mk (some p_1)) i30) fun r40 =>
   if r40.Err ≠ 0 then
    none
   else
    Option.bind (i64 (i30 + 1)) fun i46 =>
    vf_verify_l1 fu p_1 n i46
  else
   Option.bind (vf_owned fu (TVerifyChecker.mk (some p_1))) fun r48 =>
   some r48
def vf_verify (fu : Nat)  (p_1 : TModule) : Option TWhere :=
 Option.bind (vf_form (TVerifyChecker.mk (some p_1))) fun r17 =>
 if r17.Err ≠ 0 then
  none
 else
  vf_verify_l1 fu p_1 (p_1.Units.length + 1) 0
end Go.Y
namespace Go.Y
open Go.Wk Go.Xt
def st_new  (p_1 : Int) (p_2 : Int) : Option (List Int × Int × Int × Int) :=
 Option.bind (mks p_1) fun k5 =>
 some ((List.replicate k5 (0 : Int)), 0, p_1, p_2)
def st_live  (live_3 : Int) : Option Int :=
 some live_3
def st_sized  (l_2 : List Int) (live_6 : Int) (min_7 : Int) (most_8 : Int) (p_2 : Int) : Option (List Int × Int × Int × Int) :=
 Option.bind (mks p_2) fun k12 =>
 Option.bind (cut l_2 0 live_6) fun l21 =>
 some ((cpy (List.replicate k12 (0 : Int)) l21), live_6, min_7, most_8)
def st_push_j2 (p_2 : Int) (i14 : Int) (i15 : Int) (i16 : Int) (l19 : List Int) : Option (Bool × List Int × Int × Int × Int) :=
 Option.bind (at_ l19 i14) fun x41 =>
 Option.bind (i64 (i14 + 1)) fun i56 =>
 some (true, (l19.set i14.toNat p_2), i56, i15, i16)
def st_push_j3 (p_2 : Int) (i22 : Int) (i23 : Int) (i24 : Int) (l27 : List Int) : Option (Bool × List Int × Int × Int × Int) :=
 st_push_j2 p_2 i22 i23 i24 l27
def st_push_j1 (l_2 : List Int) (p_2 : Int) (live_6 : Int) (min_7 : Int) (most_8 : Int)  : Option (Bool × List Int × Int × Int × Int) :=
 if live_6 = (l_2.length : Int) then
  Option.bind (i64 (2 * (l_2.length : Int))) fun i29 =>
  Option.bind (st_sized l_2 live_6 min_7 most_8 (min i29 most_8)) fun r31 =>
  st_push_j3 p_2 r31.2.1 r31.2.2.1 r31.2.2.2 r31.1
 else
  st_push_j2 p_2 live_6 min_7 most_8 l_2
def st_push  (l_2 : List Int) (live_6 : Int) (min_7 : Int) (most_8 : Int) (p_2 : Int) : Option (Bool × List Int × Int × Int × Int) :=
 if live_6 = most_8 then
  none
 else
  st_push_j1 l_2 p_2 live_6 min_7 most_8
def st_pop_j2  (i20 : Int) (i21 : Int) (i22 : Int) (l25 : List Int) : Option (List Int × Int × Int × Int) :=
 some (l25, i20, i21, i22)
def st_pop_j1 (l_2 : List Int) (min_7 : Int) (most_8 : Int) (i12 : Int) (b14 : Bool) : Option (List Int × Int × Int × Int) :=
 if b14 = true then
  Option.bind (quo (l_2.length : Int) 2) fun i27 =>
  Option.bind (st_sized l_2 i12 min_7 most_8 (max i27 min_7)) fun r29 =>
  st_pop_j2 r29.2.1 r29.2.2.1 r29.2.2.2 r29.1
 else
  some (l_2, i12, min_7, most_8)
def st_pop  (l_2 : List Int) (live_6 : Int) (min_7 : Int) (most_8 : Int) (p_2 : Int) : Option (List Int × Int × Int × Int) :=
 Option.bind (i64 (live_6 - p_2)) fun i12 =>
 Option.bind (quo (l_2.length : Int) 4) fun i15 =>
 if i12 ≤ i15 then
  st_pop_j1 l_2 min_7 most_8 i12 (decide (min_7 < (l_2.length : Int)))
 else
  st_pop_j1 l_2 min_7 most_8 i12 false
def vm_tell  (p_2 : Int) (p_3 : Int) (p_4 : Int) : Option Unit :=
 some ()
def vm_truth  (p_1 : Bool) : Option Int :=
 if p_1 = true then
  some 1
 else
  some 0
def vm_two_j2 (p_1 : Int) (p_2 : Int) (p_3 : Int) (b8 : Bool) : Option Int :=
 if b8 = true then
  Option.bind (vm_truth (decide (p_1 = 11))) fun r12 =>
  some (w64 (r12 * p_2))
 else
  if p_1 = 11 then
   Option.bind (quo p_2 p_3) fun i16 =>
   some i16
  else
   Option.bind (remt p_2 p_3) fun i18 =>
   some i18
def vm_two_j1 (p_1 : Int) (p_2 : Int) (p_3 : Int) (b4 : Bool) : Option Int :=
 if b4 = true then
  if p_2 = (-9223372036854775808) then
   vm_two_j2 p_1 p_2 p_3 (decide (p_3 = (-1)))
  else
   vm_two_j2 p_1 p_2 p_3 false
 else
  if p_1 = 13 then
   Option.bind (vm_truth (decide (p_2 = p_3))) fun r21 =>
   some r21
  else
   if p_1 = 14 then
    Option.bind (vm_truth (decide (p_2 ≠ p_3))) fun r25 =>
    some r25
   else
    if p_1 = 15 then
     Option.bind (vm_truth (decide (p_2 < p_3))) fun r29 =>
     some r29
    else
     if p_1 = 16 then
      Option.bind (vm_truth (decide (p_2 ≤ p_3))) fun r33 =>
      some r33
     else
      if p_1 = 17 then
       Option.bind (vm_truth (decide (p_3 < p_2))) fun r37 =>
       some r37
      else
       none
def vm_two  (p_1 : Int) (p_2 : Int) (p_3 : Int) : Option Int :=
 if p_1 = 8 then
  some (w64 (p_2 + p_3))
 else
  if p_1 = 9 then
   some (w64 (p_2 - p_3))
  else
   if p_1 = 10 then
    some (w64 (p_2 * p_3))
   else
    if p_1 = 11 then
     vm_two_j1 p_1 p_2 p_3 (decide (p_1 = 11))
    else
     vm_two_j1 p_1 p_2 p_3 (decide (p_1 = 12))
def vm_tasks_l1 (p_1 : TModule) : Nat → Int → (List Int) → Option (List Int)
 | 0, _, _ => none
 | n + 1, i43, l46 =>
  if i43 < (p_1.Units.length : Int) then
   Option.bind (at_ p_1.Units i43) fun x80 =>
   if x80.Kind = 4 then
    Option.bind (app l46 [i43]) fun l101 =>
    Option.bind (i64 (i43 + 1)) fun i104 =>
    vm_tasks_l1 p_1 n i104 l101
   else
    Option.bind (i64 (i43 + 1)) fun i106 =>
    vm_tasks_l1 p_1 n i106 l46
  else
   some l46
def vm_tasks  (p_1 : TModule) : Option (List Int) :=
 vm_tasks_l1 p_1 (p_1.Units.length + 1) 0 []
end Go.Y
namespace Go.Y
open Go.Wk Go.Xt
structure TVmFrame where
 unit : Int
 pc : Int
 base : Int
 deriving DecidableEq, Inhabited, Repr
instance : Mo TVmFrame where
 sz := 3
 pos := by decide
 cs μ l x := l = [.int .i64 x.unit, .int .i64 x.pc, .int .i64 x.base]
 ln h := by obtain rfl := h; rfl
 up le h := by exact h
 cv h := by obtain rfl := h; rfl
def ls_empty  (feed_2 : List (List Int)) (took_6 : List Int) (sent_10 : List (List Int)) (p_2 : Int) : Option (Bool × List (List Int) × List Int × List (List Int)) :=
 Option.bind (at_ feed_2 p_2) fun x23 =>
 Option.bind (at_ took_6 p_2) fun x34 =>
 some (decide (x34 = (x23.length : Int)), feed_2, took_6, sent_10)
def ls_take  (feed_2 : List (List Int)) (took_6 : List Int) (sent_10 : List (List Int)) (p_2 : Int) : Option (Int × List (List Int) × List Int × List (List Int)) :=
 Option.bind (at_ took_6 p_2) fun x23 =>
 Option.bind (i64 (x23 + 1)) fun i37 =>
 Option.bind (at_ took_6 p_2) fun x39 =>
 Option.bind (at_ (took_6.set p_2.toNat i37) p_2) fun x54 =>
 Option.bind (i64 (x54 - 1)) fun i68 =>
 Option.bind (at_ feed_2 p_2) fun x70 =>
 Option.bind (at_ x70 i68) fun x81 =>
 some (x81, feed_2, (took_6.set p_2.toNat i37), sent_10)
def vm_push  (stat_5 : Int) (box_6 : Int) (trap_7 : Int) (l_14 : List Int) (live_18 : Int) (min_19 : Int) (most_20 : Int) (p_2 : Int) : Option (Int × Int × Int × List Int × Int × Int × Int) :=
 Option.bind (st_push l_14 live_18 min_19 most_20 p_2) fun r24 =>
 if r24.1 = true then
  some (stat_5, box_6, trap_7, r24.2.1, r24.2.2.1, r24.2.2.2.1, r24.2.2.2.2)
 else
  none
def vm_pop  (stat_5 : Int) (box_6 : Int) (trap_7 : Int) (l_14 : List Int) (live_18 : Int) (min_19 : Int) (most_20 : Int) : Option (Int × Int × Int × Int × List Int × Int × Int × Int) :=
 Option.bind (st_live live_18) fun r24 =>
 Option.bind (i64 (r24 - 1)) fun i27 =>
 Option.bind (at_ l_14 i27) fun x29 =>
 Option.bind (st_pop l_14 live_18 min_19 most_20 1) fun r44 =>
 some (x29, stat_5, box_6, trap_7, r44.1, r44.2.1, r44.2.2.1, r44.2.2.2)
def vm_waits_j1 (trap_7 : Int) (i33 : Int) (i34 : Int) (l37 : List (List Int)) (l41 : List (List Int)) (l45 : List Int) : Option (Bool × Int × Int × Int × List (List Int) × List Int × List (List Int)) :=
 some (decide (i33 ≠ 1), i33, i34, trap_7, l37, l45, l41)
def vm_waits_j3 (p_2 : TInstr) (trap_7 : Int) (l51 : List (List Int)) (l55 : List (List Int)) (l59 : List Int)  : Option (Bool × Int × Int × Int × List (List Int) × List Int × List (List Int)) :=
 vm_waits_j1 trap_7 3 p_2.A l51 l55 l59
def vm_waits_j2 (p_2 : TInstr) (trap_7 : Int) (b48 : Bool) (l51 : List (List Int)) (l55 : List (List Int)) (l59 : List Int) : Option (Bool × Int × Int × Int × List (List Int) × List Int × List (List Int)) :=
 if b48 = true then
  vm_waits_j3 p_2 trap_7 l51 l55 l59
 else
  vm_waits_j1 trap_7 1 0 l51 l55 l59
def vm_waits  (stat_5 : Int) (box_6 : Int) (trap_7 : Int) (feed_10 : List (List Int)) (took_14 : List Int) (sent_18 : List (List Int)) (p_2 : TInstr) : Option (Bool × Int × Int × Int × List (List Int) × List Int × List (List Int)) :=
 if p_2.Op = 26 then
  none
 else
  if p_2.Op = 27 then
   Option.bind (ls_empty feed_10 took_14 sent_18 p_2.A) fun r62 =>
   vm_waits_j2 p_2 trap_7 r62.1 r62.2.1 r62.2.2.2 r62.2.2.1
  else
   vm_waits_j2 p_2 trap_7 false feed_10 sent_18 took_14
def vm_look_j1 (m_2 : TModule) (stat_13 : Int) (box_14 : Int) (trap_15 : Int) (feed_18 : List (List Int)) (took_22 : List Int) (sent_26 : List (List Int)) (fram_33 : List TVmFrame) (i53 : Int) : Option (Int × Int × Int × List (List Int) × List Int × List (List Int) × List TVmFrame) :=
 Option.bind (at_ fram_33 i53) fun x73 =>
 Option.bind (at_ m_2.Units x73.unit) fun x87 =>
 Option.bind (at_ x87.Code x73.pc) fun x101 =>
 Option.bind (vm_waits stat_13 box_14 trap_15 feed_18 took_22 sent_26 x101) fun r109 =>
 some (r109.2.1, r109.2.2.1, r109.2.2.2.1, r109.2.2.2.2.1, r109.2.2.2.2.2.1, r109.2.2.2.2.2.2, fram_33)
def vm_look  (m_2 : TModule) (stat_13 : Int) (box_14 : Int) (trap_15 : Int) (feed_18 : List (List Int)) (took_22 : List Int) (sent_26 : List (List Int)) (fram_33 : List TVmFrame) : Option (Int × Int × Int × List (List Int) × List Int × List (List Int) × List TVmFrame) :=
 if stat_13 ≤ 3 then
  Option.bind (i64 ((fram_33.length : Int) - 1)) fun i55 =>
  Option.bind (at_ fram_33 i55) fun x57 =>
  vm_look_j1 m_2 stat_13 box_14 trap_15 feed_18 took_22 sent_26 fram_33 i55
 else
  some (stat_13, box_14, trap_15, feed_18, took_22, sent_26, fram_33)
def vm_call_l1 (l65 : List TVmFrame) (i68 : Int) : Nat → Int → Int → Int → Int → Int → Int → Int → (List Int) → Option (Int × Int × Int × List TVmFrame × List Int × Int × Int × Int)
 | 0, _, _, _, _, _, _, _, _ => none
 | n + 1, i78, i79, i80, i81, i82, i83, i84, l87 =>
  if i78 < i68 then
   Option.bind (vm_push i79 i80 i81 l87 i82 i83 i84 0) fun r100 =>
   Option.bind (i64 (i78 + 1)) fun i106 =>
   vm_call_l1 l65 i68 n i106 r100.1 r100.2.1 r100.2.2.1 r100.2.2.2.2.1 r100.2.2.2.2.2.1 r100.2.2.2.2.2.2 r100.2.2.2.1
  else
   some (i79, i80, i81, l65, l87, i82, i83, i84)
def vm_call_j1 (p_2 : Int) (stat_14 : Int) (box_15 : Int) (trap_16 : Int) (fram_21 : List TVmFrame) (l_26 : List Int) (live_30 : Int) (min_31 : Int) (most_32 : Int) (x39 : TUnit) (i53 : Int) : Option (Int × Int × Int × List TVmFrame × List Int × Int × Int × Int) :=
 if (fram_21.length : Int) = 40 then
  none
 else
  Option.bind (app fram_21 [(TVmFrame.mk p_2 0 i53)]) fun l65 =>
  Option.bind (i64 ((x39.Locals.length : Int) - x39.Params)) fun i68 =>
  vm_call_l1 l65 i68 ((i68 - 0).toNat + 1) 0 stat_14 box_15 trap_16 live_30 min_31 most_32 l_26
def vm_call  (m_2 : TModule) (stat_14 : Int) (box_15 : Int) (trap_16 : Int) (fram_21 : List TVmFrame) (l_26 : List Int) (live_30 : Int) (min_31 : Int) (most_32 : Int) (p_2 : Int) : Option (Int × Int × Int × List TVmFrame × List Int × Int × Int × Int) :=
 Option.bind (at_ m_2.Units p_2) fun x39 =>
 Option.bind (st_live live_30) fun r54 =>
 Option.bind (i64 (r54 - x39.Params)) fun i57 =>
 vm_call_j1 p_2 stat_14 box_15 trap_16 fram_21 l_26 live_30 min_31 most_32 x39 i57
def vm_end  (stat_5 : Int) (box_6 : Int) (trap_7 : Int) (stat_10 : Int) (l_13 : List Int) (live_17 : Int) (min_18 : Int) (most_19 : Int) : Option (Int × Int × Int × Int × List Int × Int × Int × Int) :=
 Option.bind (vm_tell 4 0 0) fun r23 =>
 some (4, box_6, trap_7, 3, l_13, live_17, min_18, most_19)
def vm_units_j3 (stat_19 : Int) (r51 : Int × Int × Int × Int × List Int × Int × Int × Int) (l96 : List TVmFrame) (i110 : Int) (i111 : Int) (i112 : Int) (l115 : List Int) : Option (Int × Int × Int × Int × List TVmFrame × List Int × Int × Int × Int) :=
 Option.bind (vm_push r51.2.1 r51.2.2.1 r51.2.2.2.1 l115 i110 i111 i112 r51.1) fun r130 =>
 some (r130.1, r130.2.1, r130.2.2.1, stat_19, l96, r130.2.2.2.1, r130.2.2.2.2.1, r130.2.2.2.2.2.1, r130.2.2.2.2.2.2)
def vm_units_j2 (stat_19 : Int) (r51 : Int × Int × Int × Int × List Int × Int × Int × Int) (i60 : Int) (l96 : List TVmFrame) : Option (Int × Int × Int × Int × List TVmFrame × List Int × Int × Int × Int) :=
 Option.bind (st_live r51.2.2.2.2.2.1) fun r117 =>
 Option.bind (i64 (r117 - i60)) fun i120 =>
 Option.bind (st_pop r51.2.2.2.2.1 r51.2.2.2.2.2.1 r51.2.2.2.2.2.2.1 r51.2.2.2.2.2.2.2 i120) fun r122 =>
 vm_units_j3 stat_19 r51 l96 r122.2.1 r122.2.2.1 r122.2.2.2 r122.1
def vm_units_j1 (stat_19 : Int) (fram_20 : List TVmFrame) (r51 : Int × Int × Int × Int × List Int × Int × Int × Int) (i58 : Int) (i59 : Int) (i60 : Int) : Option (Int × Int × Int × Int × List TVmFrame × List Int × Int × Int × Int) :=
 Option.bind (i64 ((fram_20.length : Int) - 1)) fun i98 =>
 Option.bind (cut fram_20 0 i98) fun l100 =>
 vm_units_j2 stat_19 r51 i60 l100
def vm_units  (m_2 : TModule) (stat_14 : Int) (box_15 : Int) (trap_16 : Int) (stat_19 : Int) (fram_20 : List TVmFrame) (l_25 : List Int) (live_29 : Int) (min_30 : Int) (most_31 : Int) (p_2 : TInstr) : Option (Int × Int × Int × Int × List TVmFrame × List Int × Int × Int × Int) :=
 if p_2.Op = 23 then
  Option.bind (vm_call m_2 stat_14 box_15 trap_16 fram_20 l_25 live_29 min_30 most_31 p_2.A) fun r41 =>
  some (r41.1, r41.2.1, r41.2.2.1, stat_19, r41.2.2.2.1, r41.2.2.2.2.1, r41.2.2.2.2.2.1, r41.2.2.2.2.2.2.1, r41.2.2.2.2.2.2.2)
 else
  if p_2.Op = 24 then
   Option.bind (vm_pop stat_14 box_15 trap_16 l_25 live_29 min_30 most_31) fun r51 =>
   Option.bind (i64 ((fram_20.length : Int) - 1)) fun i61 =>
   Option.bind (at_ fram_20 i61) fun x63 =>
   vm_units_j1 stat_19 fram_20 r51 x63.unit x63.pc x63.base
  else
   if p_2.Op = 25 then
    Option.bind (vm_end stat_14 box_15 trap_16 stat_19 l_25 live_29 min_30 most_31) fun r137 =>
    some (r137.1, r137.2.1, r137.2.2.1, r137.2.2.2.1, fram_20, r137.2.2.2.2.1, r137.2.2.2.2.2.1, r137.2.2.2.2.2.2.1, r137.2.2.2.2.2.2.2)
   else
    none
end Go.Y
namespace Go.Y
open Go.Wk Go.Xt
def vm_step_j2 (m_2 : TModule) (i144 : Int) (i145 : Int) (i146 : Int) (l149 : List Int) (l153 : List (List Int)) (l157 : List (List Int)) (l161 : List Int) (i163 : Int) (l166 : List TVmFrame) (i168 : Int) (i169 : Int) (i170 : Int) (l173 : List Int) : Option (Bool × Int × Int × Int × List Int × List (List Int) × List Int × List (List Int) × Int × List TVmFrame × List Int × Int × Int × Int) :=
 Option.bind (vm_look m_2 i144 i145 i146 l153 l161 l157 l166) fun r354 =>
 some (true, r354.1, r354.2.1, r354.2.2.1, l149, r354.2.2.2.1, r354.2.2.2.2.1, r354.2.2.2.2.2.1, i163, r354.2.2.2.2.2.2, l173, i168, i169, i170)
def vm_step_j3 (m_2 : TModule) (out_16 : List Int) (stat_34 : Int) (r65 : Int × Int × Int × List (List Int) × List Int × List (List Int) × List TVmFrame) (i83 : Int) (x103 : TVmFrame) (i141 : Int) (i190 : Int) (i191 : Int) (i192 : Int) (i193 : Int) (i194 : Int) (i195 : Int) (l198 : List Int) : Option (Bool × Int × Int × Int × List Int × List (List Int) × List Int × List (List Int) × Int × List TVmFrame × List Int × Int × Int × Int) :=
 vm_step_j2 m_2 i190 i191 i192 out_16 r65.2.2.2.1 r65.2.2.2.2.2.1 r65.2.2.2.2.1 stat_34 (r65.2.2.2.2.2.2.set i83.toNat (TVmFrame.mk x103.unit i141 x103.base)) i193 i194 i195 l198
def vm_step_j4 (m_2 : TModule) (out_16 : List Int) (stat_34 : Int) (r65 : Int × Int × Int × List (List Int) × List Int × List (List Int) × List TVmFrame) (i83 : Int) (x103 : TVmFrame) (i141 : Int) (r226 : Int × Int × Int × Int × List Int × Int × Int × Int) (l234 : List Int) : Option (Bool × Int × Int × Int × List Int × List (List Int) × List Int × List (List Int) × Int × List TVmFrame × List Int × Int × Int × Int) :=
 vm_step_j2 m_2 r226.2.1 r226.2.2.1 r226.2.2.2.1 out_16 r65.2.2.2.1 r65.2.2.2.2.2.1 r65.2.2.2.2.1 stat_34 (r65.2.2.2.2.2.2.set i83.toNat (TVmFrame.mk x103.unit i141 x103.base)) r226.2.2.2.2.2.1 r226.2.2.2.2.2.2.1 r226.2.2.2.2.2.2.2 l234
def vm_step_j5 (m_2 : TModule) (out_16 : List Int) (stat_34 : Int) (r65 : Int × Int × Int × List (List Int) × List Int × List (List Int) × List TVmFrame) (i83 : Int) (x103 : TVmFrame) (x131 : TInstr) (i141 : Int) (r261 : Int × Int × Int × Int × List Int × Int × Int × Int) (r267 : Int × Int × Int × Int × List Int × Int × Int × Int) (b273 : Bool) : Option (Bool × Int × Int × Int × List Int × List (List Int) × List Int × List (List Int) × Int × List TVmFrame × List Int × Int × Int × Int) :=
 if b273 = true then
  none
 else
  Option.bind (vm_two x131.Op r267.1 r261.1) fun r278 =>
  Option.bind (vm_push r267.2.1 r267.2.2.1 r267.2.2.2.1 r267.2.2.2.2.1 r267.2.2.2.2.2.1 r267.2.2.2.2.2.2.1 r267.2.2.2.2.2.2.2 r278) fun r281 =>
  vm_step_j2 m_2 r281.1 r281.2.1 r281.2.2.1 out_16 r65.2.2.2.1 r65.2.2.2.2.2.1 r65.2.2.2.2.1 stat_34 (r65.2.2.2.2.2.2.set i83.toNat (TVmFrame.mk x103.unit i141 x103.base)) r281.2.2.2.2.1 r281.2.2.2.2.2.1 r281.2.2.2.2.2.2 r281.2.2.2.1
def vm_step_j1 (m_2 : TModule) (out_16 : List Int) (stat_34 : Int) (l_40 : List Int) (live_44 : Int) (min_45 : Int) (most_46 : Int) (r65 : Int × Int × Int × List (List Int) × List Int × List (List Int) × List TVmFrame) (i83 : Int) : Option (Bool × Int × Int × Int × List Int × List (List Int) × List Int × List (List Int) × Int × List TVmFrame × List Int × Int × Int × Int) :=
 Option.bind (at_ r65.2.2.2.2.2.2 i83) fun x103 =>
 Option.bind (at_ m_2.Units x103.unit) fun x117 =>
 Option.bind (at_ x117.Code x103.pc) fun x131 =>
 Option.bind (i64 (x103.pc + 1)) fun i141 =>
 if x131.Op = 1 then
  Option.bind (vm_push r65.1 r65.2.1 r65.2.2.1 l_40 live_44 min_45 most_46 x131.N) fun r176 =>
  vm_step_j2 m_2 r176.1 r176.2.1 r176.2.2.1 out_16 r65.2.2.2.1 r65.2.2.2.2.2.1 r65.2.2.2.2.1 stat_34 (r65.2.2.2.2.2.2.set i83.toNat (TVmFrame.mk x103.unit i141 x103.base)) r176.2.2.2.2.1 r176.2.2.2.2.2.1 r176.2.2.2.2.2.2 r176.2.2.2.1
 else
  if x131.Op = 2 then
   Option.bind (vm_push r65.1 r65.2.1 r65.2.2.1 l_40 live_44 min_45 most_46 x131.A) fun r183 =>
   vm_step_j2 m_2 r183.1 r183.2.1 r183.2.2.1 out_16 r65.2.2.2.1 r65.2.2.2.2.2.1 r65.2.2.2.2.1 stat_34 (r65.2.2.2.2.2.2.set i83.toNat (TVmFrame.mk x103.unit i141 x103.base)) r183.2.2.2.2.1 r183.2.2.2.2.2.1 r183.2.2.2.2.2.2 r183.2.2.2.1
  else
   if x131.Op = 3 then
    Option.bind (i64 (x103.base + x131.A)) fun i200 =>
    Option.bind (at_ l_40 i200) fun x202 =>
    Option.bind (vm_push r65.1 r65.2.1 r65.2.2.1 l_40 live_44 min_45 most_46 x202) fun r217 =>
    vm_step_j3 m_2 out_16 stat_34 r65 i83 x103 i141 r217.1 r217.2.1 r217.2.2.1 r217.2.2.2.2.1 r217.2.2.2.2.2.1 r217.2.2.2.2.2.2 r217.2.2.2.1
   else
    if x131.Op = 4 then
     Option.bind (vm_pop r65.1 r65.2.1 r65.2.2.1 l_40 live_44 min_45 most_46) fun r226 =>
     Option.bind (i64 (x103.base + x131.A)) fun i236 =>
     Option.bind (at_ r226.2.2.2.2.1 i236) fun x238 =>
     vm_step_j4 m_2 out_16 stat_34 r65 i83 x103 i141 r226 (r226.2.2.2.2.1.set i236.toNat r226.1)
    else
     if x131.Op = 5 then
      none
     else
      if x131.Op = 6 then
       none
      else
       if x131.Op = 7 then
        none
       else
        if (8 : Int) ≤ x131.Op then
         if x131.Op ≤ 20 then
          Option.bind (vm_pop r65.1 r65.2.1 r65.2.2.1 l_40 live_44 min_45 most_46) fun r261 =>
          Option.bind (vm_pop r261.2.1 r261.2.2.1 r261.2.2.2.1 r261.2.2.2.2.1 r261.2.2.2.2.2.1 r261.2.2.2.2.2.2.1 r261.2.2.2.2.2.2.2) fun r267 =>
          if x131.Op = 11 then
           vm_step_j5 m_2 out_16 stat_34 r65 i83 x103 x131 i141 r261 r267 (decide (r261.1 = 0))
          else
           if x131.Op = 12 then
            vm_step_j5 m_2 out_16 stat_34 r65 i83 x103 x131 i141 r261 r267 (decide (r261.1 = 0))
           else
            vm_step_j5 m_2 out_16 stat_34 r65 i83 x103 x131 i141 r261 r267 false
         else
          if x131.Op = 21 then
           vm_step_j2 m_2 r65.1 r65.2.1 r65.2.2.1 out_16 r65.2.2.2.1 r65.2.2.2.2.2.1 r65.2.2.2.2.1 stat_34 (r65.2.2.2.2.2.2.set i83.toNat (TVmFrame.mk x103.unit x131.A x103.base)) live_44 min_45 most_46 l_40
          else
           if x131.Op = 22 then
            Option.bind (vm_pop r65.1 r65.2.1 r65.2.2.1 l_40 live_44 min_45 most_46) fun r290 =>
            if r290.1 = 0 then
             vm_step_j2 m_2 r290.2.1 r290.2.2.1 r290.2.2.2.1 out_16 r65.2.2.2.1 r65.2.2.2.2.2.1 r65.2.2.2.2.1 stat_34 (r65.2.2.2.2.2.2.set i83.toNat (TVmFrame.mk x103.unit x131.A x103.base)) r290.2.2.2.2.2.1 r290.2.2.2.2.2.2.1 r290.2.2.2.2.2.2.2 r290.2.2.2.2.1
            else
             vm_step_j2 m_2 r290.2.1 r290.2.2.1 r290.2.2.2.1 out_16 r65.2.2.2.1 r65.2.2.2.2.2.1 r65.2.2.2.2.1 stat_34 (r65.2.2.2.2.2.2.set i83.toNat (TVmFrame.mk x103.unit i141 x103.base)) r290.2.2.2.2.2.1 r290.2.2.2.2.2.2.1 r290.2.2.2.2.2.2.2 r290.2.2.2.2.1
           else
            if x131.Op = 26 then
             none
            else
             if x131.Op = 27 then
              Option.bind (ls_take r65.2.2.2.1 r65.2.2.2.2.1 r65.2.2.2.2.2.1 x131.A) fun r300 =>
              Option.bind (vm_tell 3 x131.A r300.1) fun r312 =>
              Option.bind (vm_push r65.1 r65.2.1 r65.2.2.1 l_40 live_44 min_45 most_46 r300.1) fun r315 =>
              vm_step_j2 m_2 r315.1 r315.2.1 r315.2.2.1 out_16 r300.2.1 r300.2.2.2 r300.2.2.1 stat_34 (r65.2.2.2.2.2.2.set i83.toNat (TVmFrame.mk x103.unit i141 x103.base)) r315.2.2.2.2.1 r315.2.2.2.2.2.1 r315.2.2.2.2.2.2 r315.2.2.2.1
             else
              if x131.Op = 28 then
               Option.bind (vm_pop r65.1 r65.2.1 r65.2.2.1 l_40 live_44 min_45 most_46) fun r322 =>
               Option.bind (app out_16 [r322.1]) fun l332 =>
               Option.bind (vm_tell 1 0 r322.1) fun r335 =>
               vm_step_j2 m_2 r322.2.1 r322.2.2.1 r322.2.2.2.1 l332 r65.2.2.2.1 r65.2.2.2.2.2.1 r65.2.2.2.2.1 stat_34 (r65.2.2.2.2.2.2.set i83.toNat (TVmFrame.mk x103.unit i141 x103.base)) r322.2.2.2.2.2.1 r322.2.2.2.2.2.2.1 r322.2.2.2.2.2.2.2 r322.2.2.2.2.1
              else
               Option.bind (vm_units m_2 r65.1 r65.2.1 r65.2.2.1 stat_34 (r65.2.2.2.2.2.2.set i83.toNat (TVmFrame.mk x103.unit i141 x103.base)) l_40 live_44 min_45 most_46 x131) fun r338 =>
               vm_step_j2 m_2 r338.1 r338.2.1 r338.2.2.1 out_16 r65.2.2.2.1 r65.2.2.2.2.2.1 r65.2.2.2.2.1 r338.2.2.2.1 r338.2.2.2.2.1 r338.2.2.2.2.2.2.1 r338.2.2.2.2.2.2.2.1 r338.2.2.2.2.2.2.2.2 r338.2.2.2.2.2.1
        else
         none
def vm_step  (m_2 : TModule) (stat_13 : Int) (box_14 : Int) (trap_15 : Int) (out_16 : List Int) (feed_21 : List (List Int)) (took_25 : List Int) (sent_29 : List (List Int)) (stat_34 : Int) (fram_35 : List TVmFrame) (l_40 : List Int) (live_44 : Int) (min_45 : Int) (most_46 : Int) : Option (Bool × Int × Int × Int × List Int × List (List Int) × List Int × List (List Int) × Int × List TVmFrame × List Int × Int × Int × Int) :=
 Option.bind (vm_look m_2 stat_13 box_14 trap_15 feed_21 took_25 sent_29 fram_35) fun r65 =>
 if r65.1 ≠ 1 then
  some (false, r65.1, r65.2.1, r65.2.2.1, out_16, r65.2.2.2.1, r65.2.2.2.2.1, r65.2.2.2.2.2.1, stat_34, r65.2.2.2.2.2.2, l_40, live_44, min_45, most_46)
 else
  Option.bind (i64 ((r65.2.2.2.2.2.2.length : Int) - 1)) fun i85 =>
  Option.bind (at_ r65.2.2.2.2.2.2 i85) fun x87 =>
  vm_step_j1 m_2 out_16 stat_34 l_40 live_44 min_45 most_46 r65 i85
end Go.Y
namespace Go.Y
open Go.Wk Go.Xt
def vm_begin_l1 (p_2 : Int) (p_3 : List Int) (x42 : TUnit) : Nat → Int → Int → Int → Int → (List Int) → Option (Int × List TVmFrame × List Int × Int × Int × Int)
 | 0, _, _, _, _, _ => none
 | n + 1, i65, i66, i67, i68, l71 =>
  if i65 < (x42.Locals.length : Int) then
   if i65 < (p_3.length : Int) then
    none
   else
    Option.bind (st_push l71 i66 i67 i68 0) fun r85 =>
    Option.bind (i64 (i65 + 1)) fun i91 =>
    vm_begin_l1 p_2 p_3 x42 n i91 r85.2.2.1 r85.2.2.2.1 r85.2.2.2.2 r85.2.1
  else
   some (0, ([(TVmFrame.mk p_2 0 0)] : List TVmFrame), l71, i66, i67, i68)
def vm_begin  (m_2 : TModule) (p_2 : Int) (p_3 : List Int) : Option (Int × List TVmFrame × List Int × Int × Int × Int) :=
 Option.bind (st_new 8 400) fun r31 =>
 Option.bind (at_ m_2.Units p_2) fun x42 =>
 vm_begin_l1 p_2 p_3 x42 (x42.Locals.length + 1) 0 r31.2.1 r31.2.2.1 r31.2.2.2 r31.1
def vm_new  (p_1 : TModule) (p_2 : Int) : Option (Int × Int × Int × List Int × Int × List TVmFrame × List Int × Int × Int × Int) :=
 Option.bind (vm_begin p_1 p_2 ([] : List Int)) fun r26 =>
 some (1, 0, 0, ([] : List Int), 2, r26.2.1, r26.2.2.1, r26.2.2.2.1, r26.2.2.2.2.1, r26.2.2.2.2.2)
def vm_solo_l3 (p_1 : TModule) (p_4 : Int) : Nat → Int → Int → Int → Int → (List Int) → Int → (List TVmFrame) → Int → Int → Int → (List Int) → (List Int) → (List (List Int)) → (List (List Int)) → Option (TReport × Int)
 | 0, _, _, _, _, _, _, _, _, _, _, _, _, _, _ => none
 | n + 1, i376, i377, i378, i379, l382, i384, l387, i389, i390, i391, l394, l398, l402, l406 =>
  if i376 < p_4 then
   Option.bind (vm_step p_1 i377 i378 i379 l382 l402 l398 l406 i384 l387 l394 i389 i390 i391) fun r440 =>
   if r440.1 = true then
    Option.bind (i64 (i376 + 1)) fun i462 =>
    vm_solo_l3 p_1 p_4 n i462 r440.2.1 r440.2.2.1 r440.2.2.2.1 r440.2.2.2.2.1 r440.2.2.2.2.2.2.2.2.1 r440.2.2.2.2.2.2.2.2.2.1 r440.2.2.2.2.2.2.2.2.2.2.2.1 r440.2.2.2.2.2.2.2.2.2.2.2.2.1 r440.2.2.2.2.2.2.2.2.2.2.2.2.2 r440.2.2.2.2.2.2.2.2.2.2.1 r440.2.2.2.2.2.2.1 r440.2.2.2.2.2.1 r440.2.2.2.2.2.2.2.1
   else
    some ((TReport.mk r440.2.1 r440.2.2.1 r440.2.2.2.1 r440.2.2.2.2.1 r440.2.2.2.2.2.2.2.1 r440.2.2.2.2.2.2.1 i376), 0)
  else
   none
def vm_solo_j2 (fu : Nat) (p_1 : TModule) (p_2 : Int) (p_3 : List (List Int)) (p_4 : Int) (r31 : List Int) (l282 : List Int) (l286 : List (List Int)) : Option (TReport × Int) :=
 Option.bind (at_ r31 p_2) fun x308 =>
 Option.bind (vm_new p_1 x308) fun r316 =>
 Option.bind (vm_look p_1 r316.1 r316.2.1 r316.2.2.1 p_3 l282 l286 r316.2.2.2.2.2.1) fun r337 =>
 vm_solo_l3 p_1 p_4 fu 0 r337.1 r337.2.1 r337.2.2.1 r316.2.2.2.1 r316.2.2.2.2.1 r337.2.2.2.2.2.2 r316.2.2.2.2.2.2.2.1 r316.2.2.2.2.2.2.2.2.1 r316.2.2.2.2.2.2.2.2.2 r316.2.2.2.2.2.2.1 r337.2.2.2.2.1 r337.2.2.2.1 r337.2.2.2.2.2.1
def vm_solo_j1 (i231 : Int) (k_vm_solo_l2 : Int → Option (TReport × Int)) (b263 : Bool) : Option (TReport × Int) :=
 if b263 = true then
  none
 else
  Option.bind (i64 (i231 + 1)) fun i276 =>
  k_vm_solo_l2 i276
def vm_solo_l2 (p_1 : TModule) (i119 : Int) (x199 : List Int) (k_vm_solo_l1 : Int → Option (TReport × Int)) : Nat → Int → Option (TReport × Int)
 | 0, _ => none
 | n + 1, i231 =>
  if i231 < (x199.length : Int) then
   Option.bind (at_ x199 i231) fun x255 =>
   Option.bind (at_ p_1.Boxes i119) fun x264 =>
   if x264.Typ = 2 then
    if x255 ≠ 0 then
     vm_solo_j1 i231 (vm_solo_l2 p_1 i119 x199 k_vm_solo_l1 n) (decide (x255 ≠ 1))
    else
     vm_solo_j1 i231 (vm_solo_l2 p_1 i119 x199 k_vm_solo_l1 n) false
   else
    vm_solo_j1 i231 (vm_solo_l2 p_1 i119 x199 k_vm_solo_l1 n) false
  else
   Option.bind (i64 (i119 + 1)) fun i278 =>
   k_vm_solo_l1 i278
def vm_solo_l1 (fu : Nat) (p_1 : TModule) (p_2 : Int) (p_3 : List (List Int)) (p_4 : Int) (r31 : List Int) : Nat → Int → Option (TReport × Int)
 | 0, _ => none
 | n + 1, i119 =>
  if i119 < (p_3.length : Int) then
   Option.bind (at_ p_3 i119) fun x199 =>
   vm_solo_l2 p_1 i119 x199 (vm_solo_l1 fu p_1 p_2 p_3 p_4 r31 n) (x199.length + 1) 0
  else
   Option.bind (mks (p_3.length : Int)) fun k289 =>
   Option.bind (mks (p_3.length : Int)) fun k293 =>
   vm_solo_j2 fu p_1 p_2 p_3 p_4 r31 (List.replicate k289 (0 : Int)) (List.replicate k293 (([] : List Int) : List Int))
def vm_solo (fu : Nat)  (p_1 : TModule) (p_2 : Int) (p_3 : List (List Int)) (p_4 : Int) : Option (TReport × Int) :=
 Option.bind (vf_verify fu p_1) fun r23 =>
 if r23.Err ≠ 0 then
  none
 else
  Option.bind (vm_tasks p_1) fun r31 =>
  if p_2 < 0 then
   none
  else
   if (r31.length : Int) ≤ p_2 then
    none
   else
    if p_4 < 0 then
     none
    else
     if (5000 : Int) < p_4 then
      none
     else
      if (p_3.length : Int) ≠ (p_1.Boxes.length : Int) then
       none
      else
       vm_solo_l1 fu p_1 p_2 p_3 p_4 r31 (p_3.length + 1) 0
end Go.Y
namespace Go.Y
open Go.Wk Go.Xt
def tx_0 : List UInt8 := [98,111,120,32,105,110,32,110,117,109,32,50,48,32,59,10,103,101,110,32,109,101,97,110,40,41,32,116,97,107,101,115,32,110,117,109,32,121,105,101,108,100,115,32,110,117,109,32,123,10,32,32,108,101,116,32,115,32,61,32,48,32,59,10,32,32,108,101,116,32,110,32,61,32,48,32,59,10,32,32,108,101,116,32,120,32,61,32,121,105,101,108,100,40,48,41,32,59,10,32,32,119,104,105,108,101,32,116,114,117,101,32,123,32,115,32,61,32,115,32,43,32,120,32,59,32,110,32,61,32,110,32,43,32,49,32,59,32,120,32,61,32,121,105,101,108,100,40,115,32,47,32,110,41,32,59,32,125,10,125,10,116,97,115,107,32,109,97,105,110,32,123,10,32,32,108,101,116,32,109,32,61,32,115,116,97,114,116,32,109,101,97,110,40,41,32,59,10,32,32,100,111,32,114,101,115,117,109,101,40,109,44,32,48,41,32,59,10,32,32,119,104,105,108,101,32,116,114,117,101,32,123,32,111,117,116,32,114,101,115,117,109,101,40,109,44,32,114,101,99,118,40,105,110,41,41,32,59,32,125,10,125,10]
def tx_1 : List UInt8 := [98,111,120,32,105,110,32,110,117,109,32,50,48,32,59,10,116,97,115,107,32,109,97,105,110,32,123,10,32,32,119,104,105,108,101,32,116,114,117,101,32,123,10,32,32,32,32,108,101,116,32,120,32,61,32,114,101,99,118,40,105,110,41,32,59,10,32,32,32,32,108,101,116,32,110,32,61,32,48,32,59,10,32,32,32,32,119,104,105,108,101,32,120,32,62,32,48,32,123,32,110,32,61,32,110,32,43,32,120,32,37,32,50,32,59,32,120,32,61,32,120,32,47,32,50,32,59,32,125,10,32,32,32,32,111,117,116,32,110,32,59,10,32,32,125,10,125,10]
def tx_2 : List UInt8 := [98,111,120,32,105,110,32,110,117,109,32,50,48,32,59,10,116,97,115,107,32,109,97,105,110,32,123,10,32,32,108,101,116,32,108,97,115,116,32,61,32,114,101,99,118,40,105,110,41,32,59,10,32,32,108,101,116,32,110,32,61,32,49,32,59,10,32,32,119,104,105,108,101,32,116,114,117,101,32,123,10,32,32,32,32,108,101,116,32,120,32,61,32,114,101,99,118,40,105,110,41,32,59,10,32,32,32,32,105,102,32,120,32,61,61,32,108,97,115,116,32,123,32,110,32,61,32,110,32,43,32,49,32,59,32,125,32,101,108,115,101,32,123,32,111,117,116,32,108,97,115,116,32,59,32,111,117,116,32,110,32,59,32,108,97,115,116,32,61,32,120,32,59,32,110,32,61,32,49,32,59,32,125,10,32,32,125,10,125,10]
def tx_3 : List UInt8 := [98,111,120,32,105,110,32,110,117,109,32,50,48,32,59,10,116,97,115,107,32,109,97,105,110,32,123,10,32,32,119,104,105,108,101,32,116,114,117,101,32,123,10,32,32,32,32,108,101,116,32,110,32,61,32,114,101,99,118,40,105,110,41,32,59,10,32,32,32,32,108,101,116,32,107,32,61,32,48,32,59,10,32,32,32,32,119,104,105,108,101,32,110,32,62,32,49,32,123,10,32,32,32,32,32,32,105,102,32,110,32,37,32,50,32,61,61,32,48,32,123,32,110,32,61,32,110,32,47,32,50,32,59,32,125,32,101,108,115,101,32,123,32,110,32,61,32,51,32,42,32,110,32,43,32,49,32,59,32,125,10,32,32,32,32,32,32,107,32,61,32,107,32,43,32,49,32,59,10,32,32,32,32,125,10,32,32,32,32,111,117,116,32,107,32,59,10,32,32,125,10,125,10]
def tx_4 : List UInt8 := [98,111,120,32,105,110,32,110,117,109,32,50,48,32,59,10,116,97,115,107,32,109,97,105,110,32,123,10,32,32,108,101,116,32,108,97,115,116,32,61,32,114,101,99,118,40,105,110,41,32,59,10,32,32,111,117,116,32,108,97,115,116,32,59,10,32,32,119,104,105,108,101,32,116,114,117,101,32,123,10,32,32,32,32,108,101,116,32,120,32,61,32,114,101,99,118,40,105,110,41,32,59,10,32,32,32,32,105,102,32,120,32,33,61,32,108,97,115,116,32,123,32,111,117,116,32,120,32,59,32,108,97,115,116,32,61,32,120,32,59,32,125,10,32,32,125,10,125,10]
def tx_5 : List UInt8 := [98,111,120,32,105,110,32,110,117,109,32,50,48,32,59,10,116,97,115,107,32,109,97,105,110,32,123,10,32,32,119,104,105,108,101,32,116,114,117,101,32,123,10,32,32,32,32,108,101,116,32,120,32,61,32,114,101,99,118,40,105,110,41,32,59,10,32,32,32,32,108,101,116,32,115,32,61,32,48,32,59,10,32,32,32,32,119,104,105,108,101,32,120,32,62,32,48,32,123,32,115,32,61,32,115,32,43,32,120,32,37,32,49,48,32,59,32,120,32,61,32,120,32,47,32,49,48,32,59,32,125,10,32,32,32,32,111,117,116,32,115,32,59,10,32,32,125,10,125,10]
def tx_6 : List UInt8 := [98,111,120,32,105,110,32,110,117,109,32,50,48,32,59,10,116,97,115,107,32,109,97,105,110,32,123,10,32,32,119,104,105,108,101,32,116,114,117,101,32,123,32,111,117,116,32,114,101,99,118,40,105,110,41,32,42,32,50,32,59,32,125,10,125,10]
def tx_7 : List UInt8 := [98,111,120,32,105,110,32,110,117,109,32,50,48,32,59,10,116,97,115,107,32,109,97,105,110,32,123,10,32,32,119,104,105,108,101,32,116,114,117,101,32,123,10,32,32,32,32,108,101,116,32,120,32,61,32,114,101,99,118,40,105,110,41,32,59,10,32,32,32,32,105,102,32,120,32,37,32,50,32,61,61,32,48,32,123,32,111,117,116,32,120,32,59,32,125,10,32,32,125,10,125,10]
def tx_8 : List UInt8 := [98,111,120,32,105,110,32,110,117,109,32,50,48,32,59,10,102,110,32,102,97,99,116,40,110,32,110,117,109,41,32,110,117,109,32,123,10,32,32,105,102,32,110,32,60,32,50,32,123,32,114,101,116,117,114,110,32,49,32,59,32,125,10,32,32,114,101,116,117,114,110,32,110,32,42,32,102,97,99,116,40,110,32,45,32,49,41,32,59,10,125,10,116,97,115,107,32,109,97,105,110,32,123,10,32,32,119,104,105,108,101,32,116,114,117,101,32,123,32,111,117,116,32,102,97,99,116,40,114,101,99,118,40,105,110,41,41,32,59,32,125,10,125,10]
def tx_9 : List UInt8 := [98,111,120,32,105,110,32,110,117,109,32,50,48,32,59,10,35,32,101,97,99,104,32,110,117,109,98,101,114,32,97,115,107,115,32,102,111,114,32,97,115,32,109,97,110,121,10,103,101,110,32,102,105,98,115,40,41,32,116,97,107,101,115,32,98,111,111,108,32,121,105,101,108,100,115,32,110,117,109,32,123,10,32,32,108,101,116,32,97,32,61,32,48,32,59,10,32,32,108,101,116,32,98,32,61,32,49,32,59,10,32,32,119,104,105,108,101,32,121,105,101,108,100,40,97,41,32,123,32,108,101,116,32,99,32,61,32,97,32,43,32,98,32,59,32,97,32,61,32,98,32,59,32,98,32,61,32,99,32,59,32,125,10,125,10,116,97,115,107,32,109,97,105,110,32,123,10,32,32,108,101,116,32,102,32,61,32,115,116,97,114,116,32,102,105,98,115,40,41,32,59,10,32,32,119,104,105,108,101,32,116,114,117,101,32,123,10,32,32,32,32,108,101,116,32,110,32,61,32,114,101,99,118,40,105,110,41,32,59,10,32,32,32,32,119,104,105,108,101,32,110,32,62,32,48,32,123,32,111,117,116,32,114,101,115,117,109,101,40,102,44,32,116,114,117,101,41,32,59,32,110,32,61,32,110,32,45,32,49,32,59,32,125,10,32,32,125,10,125,10]
def tx_10 : List UInt8 := [98,111,120,32,105,110,32,110,117,109,32,50,48,32,59,10,98,111,120,32,111,112,101,110,32,98,111,111,108,32,50,48,32,59,10,116,97,115,107,32,109,97,105,110,32,123,10,32,32,119,104,105,108,101,32,116,114,117,101,32,123,10,32,32,32,32,108,101,116,32,120,32,61,32,114,101,99,118,40,105,110,41,32,59,10,32,32,32,32,105,102,32,114,101,99,118,40,111,112,101,110,41,32,123,32,111,117,116,32,120,32,59,32,125,10,32,32,125,10,125,10]
def tx_11 : List UInt8 := [98,111,120,32,105,110,32,110,117,109,32,50,48,32,59,10,102,110,32,103,99,100,40,97,32,110,117,109,44,32,98,32,110,117,109,41,32,110,117,109,32,123,10,32,32,105,102,32,98,32,61,61,32,48,32,123,32,114,101,116,117,114,110,32,97,32,59,32,125,10,32,32,114,101,116,117,114,110,32,103,99,100,40,98,44,32,97,32,37,32,98,41,32,59,10,125,10,116,97,115,107,32,109,97,105,110,32,123,10,32,32,119,104,105,108,101,32,116,114,117,101,32,123,32,111,117,116,32,103,99,100,40,114,101,99,118,40,105,110,41,44,32,114,101,99,118,40,105,110,41,41,32,59,32,125,10,125,10]
def tx_12 : List UInt8 := [98,111,120,32,105,110,32,110,117,109,32,50,48,32,59,10,102,110,32,109,97,120,40,97,32,110,117,109,44,32,98,32,110,117,109,41,32,110,117,109,32,123,10,32,32,105,102,32,97,32,60,32,98,32,123,32,114,101,116,117,114,110,32,98,32,59,32,125,10,32,32,114,101,116,117,114,110,32,97,32,59,10,125,10,116,97,115,107,32,109,97,105,110,32,123,10,32,32,108,101,116,32,109,32,61,32,114,101,99,118,40,105,110,41,32,59,10,32,32,119,104,105,108,101,32,116,114,117,101,32,123,32,111,117,116,32,109,32,59,32,109,32,61,32,109,97,120,40,109,44,32,114,101,99,118,40,105,110,41,41,32,59,32,125,10,125,10]
def tx_13 : List UInt8 := [98,111,120,32,97,32,110,117,109,32,50,48,32,59,10,98,111,120,32,98,32,110,117,109,32,50,48,32,59,10,116,97,115,107,32,109,97,105,110,32,123,10,32,32,108,101,116,32,120,32,61,32,114,101,99,118,40,97,41,32,59,10,32,32,108,101,116,32,121,32,61,32,114,101,99,118,40,98,41,32,59,10,32,32,119,104,105,108,101,32,116,114,117,101,32,123,10,32,32,32,32,105,102,32,120,32,60,61,32,121,32,123,32,111,117,116,32,120,32,59,32,120,32,61,32,114,101,99,118,40,97,41,32,59,32,125,32,101,108,115,101,32,123,32,111,117,116,32,121,32,59,32,121,32,61,32,114,101,99,118,40,98,41,32,59,32,125,10,32,32,125,10,125,10]
def tx_14 : List UInt8 := [98,111,120,32,105,110,32,110,117,109,32,50,48,32,59,10,116,97,115,107,32,109,97,105,110,32,123,10,32,32,119,104,105,108,101,32,116,114,117,101,32,123,32,111,117,116,32,114,101,99,118,40,105,110,41,32,45,32,114,101,99,118,40,105,110,41,32,59,32,125,10,125,10]
def tx_15 : List UInt8 := [98,111,120,32,112,105,110,103,32,110,117,109,32,49,32,59,10,98,111,120,32,112,111,110,103,32,110,117,109,32,49,32,59,10,116,97,115,107,32,111,110,101,32,123,10,32,32,108,101,116,32,120,32,61,32,49,32,59,10,32,32,119,104,105,108,101,32,120,32,60,32,49,48,48,32,123,32,115,101,110,100,32,112,105,110,103,32,120,32,59,32,120,32,61,32,114,101,99,118,40,112,111,110,103,41,32,59,32,111,117,116,32,120,32,59,32,125,10,125,10,116,97,115,107,32,111,116,104,101,114,32,123,10,32,32,119,104,105,108,101,32,116,114,117,101,32,123,32,115,101,110,100,32,112,111,110,103,32,114,101,99,118,40,112,105,110,103,41,32,42,32,50,32,59,32,125,10,125,10]
def tx_16 : List UInt8 := [98,111,120,32,105,110,32,110,117,109,32,50,48,32,59,10,116,97,115,107,32,109,97,105,110,32,123,10,32,32,119,104,105,108,101,32,116,114,117,101,32,123,10,32,32,32,32,108,101,116,32,120,32,61,32,114,101,99,118,40,105,110,41,32,59,10,32,32,32,32,108,101,116,32,110,32,61,32,114,101,99,118,40,105,110,41,32,59,10,32,32,32,32,108,101,116,32,112,32,61,32,49,32,59,10,32,32,32,32,119,104,105,108,101,32,110,32,62,32,48,32,123,10,32,32,32,32,32,32,105,102,32,110,32,37,32,50,32,61,61,32,49,32,123,32,112,32,61,32,112,32,42,32,120,32,59,32,125,10,32,32,32,32,32,32,120,32,61,32,120,32,42,32,120,32,59,10,32,32,32,32,32,32,110,32,61,32,110,32,47,32,50,32,59,10,32,32,32,32,125,10,32,32,32,32,111,117,116,32,112,32,59,10,32,32,125,10,125,10]
def tx_17 : List UInt8 := [98,111,120,32,105,110,32,110,117,109,32,50,48,32,59,10,102,110,32,112,114,105,109,101,40,110,32,110,117,109,41,32,98,111,111,108,32,123,10,32,32,105,102,32,110,32,60,32,50,32,123,32,114,101,116,117,114,110,32,102,97,108,115,101,32,59,32,125,10,32,32,108,101,116,32,100,32,61,32,50,32,59,10,32,32,119,104,105,108,101,32,100,32,42,32,100,32,60,61,32,110,32,123,10,32,32,32,32,105,102,32,110,32,37,32,100,32,61,61,32,48,32,123,32,114,101,116,117,114,110,32,102,97,108,115,101,32,59,32,125,10,32,32,32,32,100,32,61,32,100,32,43,32,49,32,59,10,32,32,125,10,32,32,114,101,116,117,114,110,32,116,114,117,101,32,59,10,125,10,116,97,115,107,32,109,97,105,110,32,123,10,32,32,119,104,105,108,101,32,116,114,117,101,32,123,32,111,117,116,32,112,114,105,109,101,40,114,101,99,118,40,105,110,41,41,32,59,32,125,10,125,10]
def tx_18 : List UInt8 := [98,111,120,32,105,110,32,110,117,109,32,50,48,32,59,10,35,32,97,32,103,101,110,101,114,97,116,111,114,32,119,105,116,104,105,110,32,97,32,103,101,110,101,114,97,116,111,114,10,103,101,110,32,105,110,110,101,114,40,110,32,110,117,109,41,32,116,97,107,101,115,32,98,111,111,108,32,121,105,101,108,100,115,32,110,117,109,32,123,10,32,32,108,101,116,32,105,32,61,32,48,32,59,10,32,32,119,104,105,108,101,32,105,32,60,32,110,32,123,32,100,111,32,121,105,101,108,100,40,105,41,32,59,32,105,32,61,32,105,32,43,32,49,32,59,32,125,10,125,10,103,101,110,32,111,117,116,101,114,40,41,32,116,97,107,101,115,32,110,117,109,32,121,105,101,108,100,115,32,110,117,109,32,123,10,32,32,108,101,116,32,110,32,61,32,121,105,101,108,100,40,48,41,32,59,10,32,32,119,104,105,108,101,32,116,114,117,101,32,123,10,32,32,32,32,108,101,116,32,103,32,61,32,115,116,97,114,116,32,105,110,110,101,114,40,110,41,32,59,10,32,32,32,32,108,101,116,32,115,32,61,32,48,32,59,10,32,32,32,32,119,104,105,108,101,32,97,108,105,118,101,40,103,41,32,123,32,115,32,61,32,115,32,43,32,114,101,115,117,109,101,40,103,44,32,116,114,117,101,41,32,59,32,125,10,32,32,32,32,110,32,61,32,121,105,101,108,100,40,115,41,32,59,10,32,32,125,10,125,10,116,97,115,107,32,109,97,105,110,32,123,10,32,32,108,101,116,32,111,32,61,32,115,116,97,114,116,32,111,117,116,101,114,40,41,32,59,10,32,32,100,111,32,114,101,115,117,109,101,40,111,44,32,48,41,32,59,10,32,32,119,104,105,108,101,32,116,114,117,101,32,123,32,111,117,116,32,114,101,115,117,109,101,40,111,44,32,114,101,99,118,40,105,110,41,41,32,59,32,125,10,125,10]
def tx_19 : List UInt8 := [98,111,120,32,105,110,116,115,32,110,117,109,32,49,32,59,10,98,111,120,32,111,100,100,32,110,117,109,32,49,32,59,10,98,111,120,32,114,101,115,116,32,110,117,109,32,49,32,59,10,116,97,115,107,32,110,117,109,98,101,114,115,32,123,10,32,32,108,101,116,32,105,32,61,32,50,32,59,10,32,32,119,104,105,108,101,32,105,32,60,32,50,54,32,123,32,115,101,110,100,32,105,110,116,115,32,105,32,59,32,105,32,61,32,105,32,43,32,49,32,59,32,125,10,125,10,116,97,115,107,32,116,119,111,32,123,10,32,32,111,117,116,32,50,32,59,10,32,32,119,104,105,108,101,32,116,114,117,101,32,123,32,108,101,116,32,120,32,61,32,114,101,99,118,40,105,110,116,115,41,32,59,32,105,102,32,120,32,37,32,50,32,33,61,32,48,32,123,32,115,101,110,100,32,111,100,100,32,120,32,59,32,125,32,125,10,125,10,116,97,115,107,32,116,104,114,101,101,32,123,10,32,32,111,117,116,32,51,32,59,10,32,32,119,104,105,108,101,32,116,114,117,101,32,123,32,108,101,116,32,120,32,61,32,114,101,99,118,40,111,100,100,41,32,59,32,105,102,32,120,32,37,32,51,32,33,61,32,48,32,123,32,115,101,110,100,32,114,101,115,116,32,120,32,59,32,125,32,125,10,125,10,116,97,115,107,32,111,116,104,101,114,115,32,123,10,32,32,119,104,105,108,101,32,116,114,117,101,32,123,32,108,101,116,32,120,32,61,32,114,101,99,118,40,114,101,115,116,41,32,59,32,105,102,32,120,32,37,32,53,32,33,61,32,48,32,123,32,111,117,116,32,120,32,59,32,125,32,101,108,115,101,32,123,32,105,102,32,120,32,61,61,32,53,32,123,32,111,117,116,32,120,32,59,32,125,32,125,32,125,10,125,10]
def tx_20 : List UInt8 := [98,111,120,32,105,110,32,110,117,109,32,50,48,32,59,10,116,97,115,107,32,109,97,105,110,32,123,10,32,32,108,101,116,32,115,32,61,32,48,32,59,10,32,32,119,104,105,108,101,32,116,114,117,101,32,123,32,115,32,61,32,115,32,43,32,114,101,99,118,40,105,110,41,32,59,32,111,117,116,32,115,32,59,32,125,10,125,10]
def tx_21 : List UInt8 := [98,111,120,32,105,110,32,110,117,109,32,50,48,32,59,10,35,32,116,119,111,32,116,104,97,116,32,116,97,107,101,32,116,117,114,110,115,10,103,101,110,32,112,108,117,115,40,107,32,110,117,109,41,32,116,97,107,101,115,32,110,117,109,32,121,105,101,108,100,115,32,110,117,109,32,123,10,32,32,108,101,116,32,120,32,61,32,121,105,101,108,100,40,48,41,32,59,10,32,32,119,104,105,108,101,32,116,114,117,101,32,123,32,120,32,61,32,121,105,101,108,100,40,120,32,43,32,107,41,32,59,32,125,10,125,10,116,97,115,107,32,109,97,105,110,32,123,10,32,32,108,101,116,32,97,32,61,32,115,116,97,114,116,32,112,108,117,115,40,49,41,32,59,10,32,32,108,101,116,32,98,32,61,32,115,116,97,114,116,32,112,108,117,115,40,45,49,41,32,59,10,32,32,100,111,32,114,101,115,117,109,101,40,97,44,32,48,41,32,59,10,32,32,100,111,32,114,101,115,117,109,101,40,98,44,32,48,41,32,59,10,32,32,119,104,105,108,101,32,116,114,117,101,32,123,32,111,117,116,32,114,101,115,117,109,101,40,97,44,32,114,101,99,118,40,105,110,41,41,32,59,32,111,117,116,32,114,101,115,117,109,101,40,98,44,32,114,101,99,118,40,105,110,41,41,32,59,32,125,10,125,10]
def tx_22 : List UInt8 := [98,111,120,32,105,110,32,110,117,109,32,50,48,32,59,10,116,97,115,107,32,109,97,105,110,32,123,10,32,32,108,101,116,32,120,32,61,32,114,101,99,118,40,105,110,41,32,59,10,32,32,119,104,105,108,101,32,120,32,33,61,32,48,32,123,32,111,117,116,32,120,32,59,32,120,32,61,32,114,101,99,118,40,105,110,41,32,59,32,125,10,125,10]
def tx_23 : List UInt8 := [98,111,120,32,105,110,32,110,117,109,32,50,48,32,59,10,116,97,115,107,32,109,97,105,110,32,123,10,32,32,108,101,116,32,97,32,61,32,114,101,99,118,40,105,110,41,32,59,10,32,32,108,101,116,32,98,32,61,32,114,101,99,118,40,105,110,41,32,59,10,32,32,119,104,105,108,101,32,116,114,117,101,32,123,10,32,32,32,32,108,101,116,32,99,32,61,32,114,101,99,118,40,105,110,41,32,59,10,32,32,32,32,111,117,116,32,97,32,43,32,98,32,43,32,99,32,59,10,32,32,32,32,97,32,61,32,98,32,59,10,32,32,32,32,98,32,61,32,99,32,59,10,32,32,125,10,125,10]
def tx_24 : List UInt8 := [98,111,120,32,97,32,110,117,109,32,50,48,32,59,10,98,111,120,32,98,32,110,117,109,32,50,48,32,59,10,116,97,115,107,32,109,97,105,110,32,123,10,32,32,119,104,105,108,101,32,116,114,117,101,32,123,32,111,117,116,32,114,101,99,118,40,97,41,32,43,32,114,101,99,118,40,98,41,32,59,32,125,10,125,10]
def sh_early   : Option (List TShelfOne) :=
 some [(TShelfOne.mk [97, 118, 101, 114, 97, 103, 101] tx_0), (TShelfOne.mk [98, 105, 116, 115] tx_1), (TShelfOne.mk [99, 104, 97, 110, 103, 101, 115] tx_2), (TShelfOne.mk [99, 111, 108, 108, 97, 116, 122] tx_3), (TShelfOne.mk [100, 101, 100, 117, 112, 101] tx_4), (TShelfOne.mk [100, 105, 103, 105, 116, 115] tx_5), (TShelfOne.mk [100, 111, 117, 98, 108, 101] tx_6), (TShelfOne.mk [101, 118, 101, 110, 115] tx_7), (TShelfOne.mk [102, 97, 99, 116] tx_8)]
def sh_middle   : Option (List TShelfOne) :=
 some [(TShelfOne.mk [102, 105, 98] tx_9), (TShelfOne.mk [103, 97, 116, 101] tx_10), (TShelfOne.mk [103, 99, 100] tx_11), (TShelfOne.mk [103, 114, 101, 97, 116, 101, 115, 116] tx_12), (TShelfOne.mk [109, 101, 114, 103, 101] tx_13), (TShelfOne.mk [112, 97, 105, 114, 115] tx_14), (TShelfOne.mk [112, 105, 110, 103, 112, 111, 110, 103] tx_15), (TShelfOne.mk [112, 111, 119, 101, 114] tx_16), (TShelfOne.mk [112, 114, 105, 109, 101] tx_17)]
def sh_late   : Option (List TShelfOne) :=
 some [(TShelfOne.mk [114, 111, 117, 110, 100, 115] tx_18), (TShelfOne.mk [115, 105, 101, 118, 101] tx_19), (TShelfOne.mk [115, 117, 109, 115] tx_20), (TShelfOne.mk [116, 117, 114, 110, 115] tx_21), (TShelfOne.mk [117, 110, 116, 105, 108] tx_22), (TShelfOne.mk [119, 105, 110, 100, 111, 119] tx_23), (TShelfOne.mk [122, 105, 112] tx_24)]
def sh_text1  (p_1 : TShelfOne) (p_2 : List UInt8) : Option Bool :=
 some (decide (p_1.name = p_2))
def sl_indexfunc_one_l1 (p_1 : List TShelfOne) (p_2 : TShelfOne → Option Bool) : Nat → Int → Option Int
 | 0, _ => none
 | n + 1, i20 =>
  if i20 < (p_1.length : Int) then
   Option.bind (at_ p_1 i20) fun x37 =>
   Option.bind (p_2 x37) fun b45 =>
   if b45 = true then
    some i20
   else
    Option.bind (i64 (i20 + 1)) fun i49 =>
    sl_indexfunc_one_l1 p_1 p_2 n i49
  else
   none
def sl_indexfunc_one  (p_1 : List TShelfOne) (p_2 : TShelfOne → Option Bool) : Option Int :=
 sl_indexfunc_one_l1 p_1 p_2 (p_1.length + 1) 0
end Go.Y
namespace Go.Y
open Go.Wk Go.Xt
def sl_grow_one  (p_2 : Int) : Option (List TShelfOne) :=
 if p_2 < 0 then
  none
 else
  Option.bind (i64 (0 - 0)) fun i5 =>
  Option.bind (i64 (p_2 - i5)) fun i7 =>
  if (0 : Int) < i7 then
   Option.bind (mksp i7) fun k10 =>
   Option.bind (cut (List.replicate k10 ((TShelfOne.mk [] []) : TShelfOne)) 0 0) fun l15 =>
   some l15
  else
   none
def sl_concat_one_l2 (p_1 : List (List TShelfOne)) : Nat → Int → (List TShelfOne) → Option (List TShelfOne)
 | 0, _, _ => none
 | n + 1, i83, l86 =>
  if i83 < (p_1.length : Int) then
   Option.bind (at_ p_1 i83) fun x111 =>
   Option.bind (app l86 x111) fun l124 =>
   Option.bind (i64 (i83 + 1)) fun i129 =>
   sl_concat_one_l2 p_1 n i129 l124
  else
   some l86
def sl_concat_one_l1 (p_1 : List (List TShelfOne)) : Nat → Int → Int → Option (List TShelfOne)
 | 0, _, _ => none
 | n + 1, i22, i23 =>
  if i23 < (p_1.length : Int) then
   Option.bind (at_ p_1 i23) fun x41 =>
   Option.bind (i64 (i22 + (x41.length : Int))) fun i52 =>
   if i52 < 0 then
    none
   else
    Option.bind (i64 (i23 + 1)) fun i55 =>
    sl_concat_one_l1 p_1 n i52 i55
  else
   Option.bind (sl_grow_one i22) fun r57 =>
   sl_concat_one_l2 p_1 (p_1.length + 1) 0 r57
def sl_concat_one  (p_1 : List (List TShelfOne)) : Option (List TShelfOne) :=
 sl_concat_one_l1 p_1 (p_1.length + 1) 0 0
def sh_all   : Option (List TShelfOne) :=
 Option.bind (sh_early ) fun r4 =>
 Option.bind (sh_middle ) fun r10 =>
 Option.bind (sh_late ) fun r16 =>
 Option.bind (sl_concat_one [r4, r10, r16]) fun r26 =>
 some r26
def sh_text  (p_1 : List UInt8) : Option (List UInt8 × Int) :=
 Option.bind (sh_all ) fun r3 =>
 Option.bind (sl_indexfunc_one r3 (fun x_ => sh_text1 x_ p_1)) fun r11 =>
 if r11 < 0 then
  none
 else
  Option.bind (at_ r3 r11) fun x15 =>
  some (x15.text, 0)
def sh_module_j1 (r22 : TModule × TFault)  : Option (TModule × Int) :=
 some (r22.1, r22.2.Err)
def sh_module (fu : Nat)  (p_1 : List UInt8) : Option (TModule × Int) :=
 Option.bind (sh_text p_1) fun r9 =>
 if r9.2 ≠ 0 then
  none
 else
  Option.bind (syn_read fu r9.1) fun r13 =>
  if r13.2.Err ≠ 0 then
   none
  else
   Option.bind (gen_compile fu r13.1) fun r22 =>
   sh_module_j1 r22
def sh_ask (fu : Nat)  (p_1 : List UInt8) (p_2 : List (List Int)) : Option (TReport × Int) :=
 Option.bind (sh_module fu p_1) fun r15 =>
 if r15.2 ≠ 0 then
  none
 else
  Option.bind (vm_solo fu r15.1 0 p_2 5000) fun r27 =>
  some (r27.1, r27.2)
end Go.Y
namespace Go.Y
open Go.Wk Go.Xt
def r9_same_l1 (p_1 : List Int) (p_2 : List Int) : Nat → Int → Option Bool
 | 0, _ => none
 | n + 1, i26 =>
  if i26 < (p_1.length : Int) then
   Option.bind (at_ p_1 i26) fun x47 =>
   Option.bind (at_ p_2 i26) fun x55 =>
   if x47 ≠ x55 then
    some false
   else
    Option.bind (i64 (i26 + 1)) fun i65 =>
    r9_same_l1 p_1 p_2 n i65
  else
   some true
def r9_same  (p_1 : List Int) (p_2 : List Int) : Option Bool :=
 if (p_1.length : Int) ≠ (p_2.length : Int) then
  some false
 else
  r9_same_l1 p_1 p_2 (p_1.length + 1) 0
def l12_says (fu : Nat)  (p_1 : List UInt8) (p_2 : List Int) (p_3 : List (List Int)) : Option Bool :=
 Option.bind (sh_ask fu p_1 p_3) fun r7 =>
 if r7.2 = 0 then
  if r7.1.State = 3 then
   Option.bind (r9_same r7.1.Out p_2) fun r23 =>
   some r23
  else
   some false
 else
  some false
def law_double_l1 (fu : Nat) (p_1 : List Int) : Nat → Int → (List Int) → Option Bool
 | 0, _, _ => none
 | n + 1, i23, l26 =>
  if i23 < (p_1.length : Int) then
   Option.bind (at_ p_1 i23) fun x48 =>
   Option.bind (app l26 [w64 (2 * x48)]) fun l60 =>
   Option.bind (i64 (i23 + 1)) fun i63 =>
   law_double_l1 fu p_1 n i63 l60
  else
   Option.bind (l12_says fu [100, 111, 117, 98, 108, 101] l26 [p_1]) fun r74 =>
   some r74
def law_double (fu : Nat)  (p_1 : List Int) : Option Bool :=
 if (100 : Int) < (p_1.length : Int) then
  some true
 else
  law_double_l1 fu p_1 (p_1.length + 1) 0 []
end Go.Y
