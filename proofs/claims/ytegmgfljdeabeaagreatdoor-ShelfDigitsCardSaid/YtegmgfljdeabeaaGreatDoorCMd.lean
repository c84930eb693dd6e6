/- The shelf: texts of Md. -/
import Derived.Test.YtegmgfljdeabeaaGreatDoorCXu
set_option linter.unusedSimpArgs false
set_option linter.unusedVariables false
set_option linter.unusedSectionVars false
namespace Go.Y
open Go.Wk Go.Xt
structure TExpr where
 Kind:Int
 N:Int
 Name:List UInt8
 Kids:List TExpr
 deriving Inhabited,Repr
structure TStat where
 Kind:Int
 Name:List UInt8
 X:TExpr
 Body:List TStat
 Else:List TStat
 deriving Inhabited,Repr
def Els {α:Type} (sz:Nat) (μ:M) (a:Option Addr) (c:Nat) (xs:List α) (g:Nat→List Value):Prop :=
 xs.length≤c∧c≤maxLen∧(xs=[]∨∃ b o,a=some ⟨b,o,none⟩∧∀ (i:Nat) (y:α),xs[i]?=some y→At μ b (o+i*sz) (g i))
inductive ExprCs (μ:M):List Value→TExpr→Prop where
 | mk (x:TExpr) (a:Option Addr) (c:Nat) (g:Nat→List Value) (h:Els 4 μ a c x.Kids g) (k:∀ (i:Nat) (y:TExpr),x.Kids[i]?=some y→ExprCs μ (g i) y) :
  ExprCs μ [.int .i64 x.Kind,.int .i64 x.N,S x.Name,.slice a x.Kids.length c] x
theorem Els.sl {α:Type} {sz:Nat} {μ:M} {a:Option Addr} {c:Nat} {xs:List α} {g:Nat→List Value} {R:List Value→α→Prop} (h:Els sz μ a c xs g) (k:∀ (i:Nat) (y:α),xs[i]?=some y→R (g i) y):SlR sz R μ a c xs:=by
 refine ⟨h.1,h.2.1,?_⟩
 rcases h.2.2 with h | ⟨b,o,ha,hg⟩
 ·exact .inl h
 ·exact .inr ⟨b,o,ha,g,fun i x hx=>⟨hg i x hx,k i x hx⟩⟩
theorem Els.of {α:Type} {sz:Nat} {μ:M} {a:Option Addr} {c:Nat} {xs:List α} {R:List Value→α→Prop} (h:SlR sz R μ a c xs):∃ g,Els sz μ a c xs g∧∀ (i:Nat) (y:α),xs[i]?=some y→R (g i) y:=by
 rcases h.el with h1 | ⟨b,o,ha,g,hg⟩
 ·exact ⟨fun _=>[],⟨h.le,h.cap,.inl h1⟩,fun i y hy=>by simp [h1] at hy⟩
 ·exact ⟨g,⟨h.le,h.cap,.inr ⟨b,o,ha,fun i y hy=>(hg i y hy).1⟩⟩,fun i y hy=>(hg i y hy).2⟩
theorem Els.up {α:Type} {sz:Nat} {μ μ':M} {a:Option Addr} {c:Nat} {xs:List α} {g:Nat→List Value} (h:Els sz μ a c xs g) (l:Le μ μ'):Els sz μ' a c xs g:=by
 refine ⟨h.1,h.2.1,?_⟩
 rcases h.2.2 with h | ⟨b,o,ha,hg⟩
 ·exact .inl h
 ·exact .inr ⟨b,o,ha,fun i y hy=>(hg i y hy).up l⟩
theorem ExprCs.up {μ μ':M} (l:Le μ μ') {cs:List Value} {x:TExpr} (h:ExprCs μ cs x):ExprCs μ' cs x:=by
 induction h with
 | mk x a c g h k ih=>exact .mk x a c g (h.up l) ih
instance:Mo TExpr where
 sz:=4
 pos:=by decide
 cs:=ExprCs
 ln h:=by cases h; rfl
 up l h:=ExprCs.up l h
 cv h:=by cases h; rfl
theorem TExpr.o {μ:M} {l:List Value} {x:TExpr} (h:Mo.cs μ l x):∃ a c,l=[.int .i64 x.Kind,.int .i64 x.N,S x.Name,.slice a x.Kids.length c]∧Sl μ a c x.Kids:=by
 have hh:ExprCs μ l x:=h
 cases hh with
 | mk _ a c g h1 k1=>exact ⟨a,c,rfl,h1.sl k1⟩
theorem TExpr.i {μ:M} {l:List Value} {x:TExpr} (h:∃ a c,l=[.int .i64 x.Kind,.int .i64 x.N,S x.Name,.slice a x.Kids.length c]∧Sl μ a c x.Kids):Mo.cs μ l x:=by
 obtain ⟨a,c,rfl,h⟩:=h
 obtain ⟨g,h,k⟩:=Els.of h
 exact ExprCs.mk x a c g h k
inductive StatCs (μ:M):List Value→TStat→Prop where
 | mk (x:TStat) (a1:Option Addr) (c1:Nat) (a2:Option Addr) (c2:Nat) (a3:Option Addr) (c3:Nat) (g2 g3:Nat→List Value) (h1:Sl μ a1 c1 x.X.Kids)
   (h2:Els 8 μ a2 c2 x.Body g2) (k2:∀ (i:Nat) (y:TStat),x.Body[i]?=some y→StatCs μ (g2 i) y)
   (h3:Els 8 μ a3 c3 x.Else g3) (k3:∀ (i:Nat) (y:TStat),x.Else[i]?=some y→StatCs μ (g3 i) y) :
  StatCs μ [.int .i64 x.Kind,S x.Name,.int .i64 x.X.Kind,.int .i64 x.X.N,S x.X.Name,.slice a1 x.X.Kids.length c1,.slice a2 x.Body.length c2,.slice a3 x.Else.length c3] x
theorem StatCs.up {μ μ':M} (l:Le μ μ') {cs:List Value} {x:TStat} (h:StatCs μ cs x):StatCs μ' cs x:=by
 induction h with
 | mk x a1 c1 a2 c2 a3 c3 g2 g3 h1 h2 k2 h3 k3 ih2 ih3=>exact .mk x a1 c1 a2 c2 a3 c3 g2 g3 (h1.up l) (h2.up l) ih2 (h3.up l) ih3
instance:Mo TStat where
 sz:=8
 pos:=by decide
 cs:=StatCs
 ln h:=by cases h; rfl
 up l h:=StatCs.up l h
 cv h:=by cases h; rfl
theorem TStat.o {μ:M} {l:List Value} {x:TStat} (h:Mo.cs μ l x):∃ a1 c1 a2 c2 a3 c3,l=[.int .i64 x.Kind,S x.Name,.int .i64 x.X.Kind,.int .i64 x.X.N,S x.X.Name,.slice a1 x.X.Kids.length c1,.slice a2 x.Body.length c2,.slice a3 x.Else.length c3]∧Sl μ a1 c1 x.X.Kids∧Sl μ a2 c2 x.Body∧Sl μ a3 c3 x.Else:=by
 have hh:StatCs μ l x:=h
 cases hh with
 | mk _ a1 c1 a2 c2 a3 c3 g2 g3 h1 h2 k2 h3 k3=>exact ⟨a1,c1,a2,c2,a3,c3,rfl,h1,h2.sl k2,h3.sl k3⟩
theorem TStat.i {μ:M} {l:List Value} {x:TStat} (h:∃ a1 c1 a2 c2 a3 c3,l=[.int .i64 x.Kind,S x.Name,.int .i64 x.X.Kind,.int .i64 x.X.N,S x.X.Name,.slice a1 x.X.Kids.length c1,.slice a2 x.Body.length c2,.slice a3 x.Else.length c3]∧Sl μ a1 c1 x.X.Kids∧Sl μ a2 c2 x.Body∧Sl μ a3 c3 x.Else):Mo.cs μ l x:=by
 obtain ⟨a1,c1,a2,c2,a3,c3,rfl,h1,h2,h3⟩:=h
 obtain ⟨g2,h2,k2⟩:=Els.of h2
 obtain ⟨g3,h3,k3⟩:=Els.of h3
 exact StatCs.mk x a1 c1 a2 c2 a3 c3 g2 g3 h1 h2 k2 h3 k3
structure TToken where
 Kind:Int
 Text:List UInt8
 Num:Int
 At:Int
 deriving DecidableEq,Inhabited,Repr
instance:Mo TToken where
 sz:=4
 pos:=by decide
 cs μ l x:=l=[.int .i64 x.Kind,S x.Text,.int .i64 x.Num,.int .i64 x.At]
 ln h:=by obtain rfl:=h; rfl
 up le h:=by exact h
 cv h:=by obtain rfl:=h; rfl
structure TFault where
 Err:Int
 At:Int
 deriving DecidableEq,Inhabited,Repr
structure TType where
 Kind:Int
 Gen:List UInt8
 deriving DecidableEq,Inhabited,Repr
instance:Mo TType where
 sz:=2
 pos:=by decide
 cs μ l x:=l=[.int .i64 x.Kind,S x.Gen]
 ln h:=by obtain rfl:=h; rfl
 up le h:=by exact h
 cv h:=by obtain rfl:=h; rfl
structure TParam where
 Name:List UInt8
 Typ:TType
 deriving DecidableEq,Inhabited,Repr
instance:Mo TParam where
 sz:=3
 pos:=by decide
 cs μ l x:=l=[S x.Name,.int .i64 x.Typ.Kind,S x.Typ.Gen]
 ln h:=by obtain rfl:=h; rfl
 up le h:=by exact h
 cv h:=by obtain rfl:=h; rfl
structure TDef where
 Kind:Int
 Name:List UInt8
 Typ:TType
 Takes:TType
 Cap:Int
 Params:List TParam
 Body:List TStat
 deriving Inhabited,Repr
instance:Mo TDef where
 sz:=9
 pos:=by decide
 cs μ l x:=∃ a1 c1 a2 c2,l=[.int .i64 x.Kind,S x.Name,.int .i64 x.Typ.Kind,S x.Typ.Gen,.int .i64 x.Takes.Kind,S x.Takes.Gen,.int .i64 x.Cap,.slice a1 x.Params.length c1,.slice a2 x.Body.length c2]∧Sl μ a1 c1 x.Params∧Sl μ a2 c2 x.Body
 ln h:=by obtain ⟨a1,c1,a2,c2,rfl,m1,m2⟩:=h; rfl
 up le h:=by obtain ⟨a1,c1,a2,c2,rfl,m1,m2⟩:=h; exact ⟨a1,c1,a2,c2,rfl,m1.up le,m2.up le⟩
 cv h:=by obtain ⟨a1,c1,a2,c2,rfl,m1,m2⟩:=h; rfl
theorem TDef.i {μ:M} {l:List Value} {x:TDef} (h:∃ a1 c1 a2 c2,l=[.int .i64 x.Kind,S x.Name,.int .i64 x.Typ.Kind,S x.Typ.Gen,.int .i64 x.Takes.Kind,S x.Takes.Gen,.int .i64 x.Cap,.slice a1 x.Params.length c1,.slice a2 x.Body.length c2]∧Sl μ a1 c1 x.Params∧Sl μ a2 c2 x.Body):Mo.cs μ l x:=h
structure TOwner where
 Box:List UInt8
 Writer:List UInt8
 Reader:List UInt8
 deriving DecidableEq,Inhabited,Repr
instance:Mo TOwner where
 sz:=3
 pos:=by decide
 cs μ l x:=l=[S x.Box,S x.Writer,S x.Reader]
 ln h:=by obtain rfl:=h; rfl
 up le h:=by exact h
 cv h:=by obtain rfl:=h; rfl
instance:MV TType:=⟨Av,Av.up⟩
instance:MV TDef:=⟨Pv,Pv.up⟩
structure TSemaProgram where
 defs:List TDef
 named:List (List UInt8×TDef)
 deriving Inhabited,Repr
structure TSemaUses where
 calls:List (List UInt8)
 sends:List (List UInt8)
 recvs:List (List UInt8)
 deriving DecidableEq,Inhabited,Repr
instance:Mo TSemaUses where
 sz:=3
 pos:=by decide
 cs μ l x:=∃ a1 c1 a2 c2 a3 c3,l=[.slice a1 x.calls.length c1,.slice a2 x.sends.length c2,.slice a3 x.recvs.length c3]∧Sl μ a1 c1 x.calls∧Sl μ a2 c2 x.sends∧Sl μ a3 c3 x.recvs
 ln h:=by obtain ⟨a1,c1,a2,c2,a3,c3,rfl,m1,m2,m3⟩:=h; rfl
 up le h:=by obtain ⟨a1,c1,a2,c2,a3,c3,rfl,m1,m2,m3⟩:=h; exact ⟨a1,c1,a2,c2,a3,c3,rfl,m1.up le,m2.up le,m3.up le⟩
 cv h:=by obtain ⟨a1,c1,a2,c2,a3,c3,rfl,m1,m2,m3⟩:=h; rfl
theorem TSemaUses.i {μ:M} {l:List Value} {x:TSemaUses} (h:∃ a1 c1 a2 c2 a3 c3,l=[.slice a1 x.calls.length c1,.slice a2 x.sends.length c2,.slice a3 x.recvs.length c3]∧Sl μ a1 c1 x.calls∧Sl μ a2 c2 x.sends∧Sl μ a3 c3 x.recvs):Mo.cs μ l x:=h
structure TSynLevel where
 signs:List (List UInt8×Int)
 once:Bool
 deriving DecidableEq,Inhabited,Repr
instance:Mo TSynLevel where
 sz:=2
 pos:=by decide
 cs μ l x:=∃ b1,l=[.map (some b1),.bool x.once]∧Mr μ b1 x.signs
 ln h:=by obtain ⟨b1,rfl,m1⟩:=h; rfl
 up le h:=by obtain ⟨b1,rfl,m1⟩:=h; exact ⟨b1,rfl,m1.up le⟩
 cv h:=by obtain ⟨b1,rfl,m1⟩:=h; rfl
theorem TSynLevel.i {μ:M} {l:List Value} {x:TSynLevel} (h:∃ b1,l=[.map (some b1),.bool x.once]∧Mr μ b1 x.signs):Mo.cs μ l x:=h
structure TGenTable where
 boxes:List (List UInt8×Int)
 units:List (List UInt8×Int)
 defs:List (List UInt8×TDef)
 deriving Inhabited,Repr
instance:MV TSemaUses:=⟨Av,Av.up⟩
structure TBoxInfo where
 Typ:Int
 Cap:Int
 deriving DecidableEq,Inhabited,Repr
instance:Mo TBoxInfo where
 sz:=2
 pos:=by decide
 cs μ l x:=l=[.int .i64 x.Typ,.int .i64 x.Cap]
 ln h:=by obtain rfl:=h; rfl
 up le h:=by exact h
 cv h:=by obtain rfl:=h; rfl
structure TInstr where
 Op:Int
 A:Int
 N:Int
 deriving DecidableEq,Inhabited,Repr
instance:Mo TInstr where
 sz:=3
 pos:=by decide
 cs μ l x:=l=[.int .i64 x.Op,.int .i64 x.A,.int .i64 x.N]
 ln h:=by obtain rfl:=h; rfl
 up le h:=by exact h
 cv h:=by obtain rfl:=h; rfl
structure TUnit where
 Kind:Int
 Params:Int
 Locals:List Int
 Result:Int
 Takes:Int
 Code:List TInstr
 deriving DecidableEq,Inhabited,Repr
instance:Mo TUnit where
 sz:=6
 pos:=by decide
 cs μ l x:=∃ a1 c1 a2 c2,l=[.int .i64 x.Kind,.int .i64 x.Params,.slice a1 x.Locals.length c1,.int .i64 x.Result,.int .i64 x.Takes,.slice a2 x.Code.length c2]∧Sl μ a1 c1 x.Locals∧Sl μ a2 c2 x.Code
 ln h:=by obtain ⟨a1,c1,a2,c2,rfl,m1,m2⟩:=h; rfl
 up le h:=by obtain ⟨a1,c1,a2,c2,rfl,m1,m2⟩:=h; exact ⟨a1,c1,a2,c2,rfl,m1.up le,m2.up le⟩
 cv h:=by obtain ⟨a1,c1,a2,c2,rfl,m1,m2⟩:=h; rfl
theorem TUnit.i {μ:M} {l:List Value} {x:TUnit} (h:∃ a1 c1 a2 c2,l=[.int .i64 x.Kind,.int .i64 x.Params,.slice a1 x.Locals.length c1,.int .i64 x.Result,.int .i64 x.Takes,.slice a2 x.Code.length c2]∧Sl μ a1 c1 x.Locals∧Sl μ a2 c2 x.Code):Mo.cs μ l x:=h
structure TModule where
 Boxes:List TBoxInfo
 Units:List TUnit
 deriving DecidableEq,Inhabited,Repr
instance:Mo TModule where
 sz:=2
 pos:=by decide
 cs μ l x:=∃ a1 c1 a2 c2,l=[.slice a1 x.Boxes.length c1,.slice a2 x.Units.length c2]∧Sl μ a1 c1 x.Boxes∧Sl μ a2 c2 x.Units
 ln h:=by obtain ⟨a1,c1,a2,c2,rfl,m1,m2⟩:=h; rfl
 up le h:=by obtain ⟨a1,c1,a2,c2,rfl,m1,m2⟩:=h; exact ⟨a1,c1,a2,c2,rfl,m1.up le,m2.up le⟩
 cv h:=by obtain ⟨a1,c1,a2,c2,rfl,m1,m2⟩:=h; rfl
theorem TModule.i {μ:M} {l:List Value} {x:TModule} (h:∃ a1 c1 a2 c2,l=[.slice a1 x.Boxes.length c1,.slice a2 x.Units.length c2]∧Sl μ a1 c1 x.Boxes∧Sl μ a2 c2 x.Units):Mo.cs μ l x:=h
structure TWhere where
 Err:Int
 Unit:Int
 At:Int
 deriving DecidableEq,Inhabited,Repr
structure TReport where
 State:Int
 Box:Int
 Trap:Int
 Out:List Int
 Sent:List (List Int)
 Took:List Int
 Steps:Int
 deriving DecidableEq,Inhabited,Repr
structure TShelfOne where
 name:List UInt8
 text:List UInt8
 deriving DecidableEq,Inhabited,Repr
instance:Mo TShelfOne where
 sz:=2
 pos:=by decide
 cs μ l x:=l=[S x.name,S x.text]
 ln h:=by obtain rfl:=h; rfl
 up le h:=by exact h
 cv h:=by obtain rfl:=h; rfl
structure TVerifyShape where
 stack:List Int
 has:List Bool
 deriving DecidableEq,Inhabited,Repr
instance:Mo TVerifyShape where
 sz:=2
 pos:=by decide
 cs μ l x:=∃ a1 c1 a2 c2,l=[.slice a1 x.stack.length c1,.slice a2 x.has.length c2]∧Sl μ a1 c1 x.stack∧Sl μ a2 c2 x.has
 ln h:=by obtain ⟨a1,c1,a2,c2,rfl,m1,m2⟩:=h; rfl
 up le h:=by obtain ⟨a1,c1,a2,c2,rfl,m1,m2⟩:=h; exact ⟨a1,c1,a2,c2,rfl,m1.up le,m2.up le⟩
 cv h:=by obtain ⟨a1,c1,a2,c2,rfl,m1,m2⟩:=h; rfl
theorem TVerifyShape.i {μ:M} {l:List Value} {x:TVerifyShape} (h:∃ a1 c1 a2 c2,l=[.slice a1 x.stack.length c1,.slice a2 x.has.length c2]∧Sl μ a1 c1 x.stack∧Sl μ a2 c2 x.has):Mo.cs μ l x:=h
structure TVerifyChecker where
 m:Option TModule
 deriving DecidableEq,Inhabited,Repr
instance:Mo TVerifyChecker where
 sz:=1
 pos:=by decide
 cs μ l x:=∃ v1,l=[v1]∧Np μ v1 x.m
 ln h:=by obtain ⟨v1,rfl,m1⟩:=h; rfl
 up le h:=by obtain ⟨v1,rfl,m1⟩:=h; exact ⟨v1,rfl,m1.up le⟩
 cv h:=by obtain ⟨v1,rfl,m1⟩:=h; simp [m1.cellV]
theorem TVerifyChecker.i {μ:M} {l:List Value} {x:TVerifyChecker} (h:∃ v1,l=[v1]∧Np μ v1 x.m):Mo.cs μ l x:=h
instance:MV TVerifyShape:=⟨Av,Av.up⟩
end Go.Y
namespace Go.Y
open Go.Lx Go.Wk Go.Xt
def tokOf (t : Tok) : TToken := ⟨t.kind, t.text, t.num, t.pos⟩
def lex_named (l : List UInt8) : Option Bool := if l.length ≤ 140737488355328 then some (named l) else none
def lex_tokens (l : List UInt8) : Option (List TToken × TFault) := if l.length ≤ 140737488355328 then some (match tokens l with | .error (e, a) => ([], ⟨e, a⟩) | .ok ts => (ts.map tokOf, ⟨0, 0⟩)) else none
end Go.Y
namespace Go.Y
open Go.Wk Go.Xt
def syn_kids_j1 (p_1:Int) (b1:Bool):Option Int :=
 if b1=true then
  some 0
 else
  if p_1≤5 then
   none
  else
   if p_1=21 then
    none
   else
    if p_1=24 then
     none
    else
     if p_1≤18 then
      some 2
     else
      none
def syn_kids  (p_1:Int):Option Int :=
 if p_1≤3 then
  syn_kids_j1 p_1 true
 else
  syn_kids_j1 p_1 (decide (p_1=20))
def syn_node  (node_2:Int) (p_2:Int):Option (Int×Int) :=
 (i64 (node_2+1)).bind fun i3 =>
 if (2000:Int)<i3 then
  none
 else
  if (40:Int)<p_2 then
   none
  else
   some (0,i3)
def syn_typ  (p_1:TType):Option Int :=
 if p_1.Kind<1 then
  none
 else
  if (3:Int)<p_1.Kind then
   none
  else
   if p_1.Kind=3 then
    none
   else
    some 0
structure SynExpr where
 syn_expr:Int→TExpr→Int→Option (Int×Int)
def syn_expr_l1 (self:SynExpr) (p_2:TExpr) (p_3:Int):Nat→Int→Int→Option (Int×Int)
 | 0,_,_=>none
 | n+1,i59,i60 =>
  if i59<(p_2.Kids.length:Int) then
   (at_ p_2.Kids i59).bind fun x81 =>
   (i64 (p_3+1)).bind fun i92 =>
   (self.syn_expr i60 x81 i92).bind fun r94 =>
   if r94.1≠0 then
    none
   else
    (i64 (i59+1)).bind fun i98 =>
    syn_expr_l1 self p_2 p_3 n i98 r94.2
  else
   some (0,i60)
def syn_expr_j3 (self:SynExpr) (p_2:TExpr) (p_3:Int) (r9:Int×Int) (r15:Int) (b28:Bool):Option (Int×Int) :=
 if b28=true then
  none
 else
  if (0:Int)≤r15 then
   if (p_2.Kids.length:Int)≠r15 then
    none
   else
    if r15<0 then
     none
    else
     syn_expr_l1 self p_2 p_3 (p_2.Kids.length+1) 0 r9.2
  else
   none
def syn_expr_j2 (self:SynExpr) (p_2:TExpr) (p_3:Int) (r9:Int×Int) (r15:Int) (b22:Bool):Option (Int×Int) :=
 if b22=true then
  none
 else
  if p_2.Kind=3 then
   (lex_named p_2.Name).bind fun b30 =>
   syn_expr_j3 self p_2 p_3 r9 r15 (!b30)
  else
   if p_2.Kind=20 then
    (lex_named p_2.Name).bind fun b33 =>
    syn_expr_j3 self p_2 p_3 r9 r15 (!b33)
   else
    if r15<0 then
     none
    else
     syn_expr_j3 self p_2 p_3 r9 r15 false
def syn_expr_j1 (self:SynExpr) (p_2:TExpr) (p_3:Int) (r9:Int×Int) (r15:Int) (b18:Bool):Option (Int×Int) :=
 if b18=true then
  none
 else
  if p_2.Kind=2 then
   if p_2.N≠0 then
    syn_expr_j2 self p_2 p_3 r9 r15 (decide (p_2.N≠1))
   else
    none
  else
   syn_expr_j2 self p_2 p_3 r9 r15 false
def syn_expr (self:SynExpr) (node_2:Int) (p_2:TExpr) (p_3:Int):Option (Int×Int) :=
 (syn_node node_2 p_3).bind fun r9 =>
 if r9.1≠0 then
  none
 else
  if p_2.Kind<1 then
   none
  else
   if (24:Int)<p_2.Kind then
    none
   else
    (syn_kids p_2.Kind).bind fun r15 =>
    if p_2.Kind=1 then
     if p_2.N<0 then
      none
     else
      syn_expr_j1 self p_2 p_3 r9 r15 (decide ((999999999999999:Int)<p_2.N))
    else
     syn_expr_j1 self p_2 p_3 r9 r15 false
def SynExpr_run:Nat→SynExpr
 | 0=>⟨fun _ _ _=>none⟩
 | n+1=>⟨syn_expr (SynExpr_run n)⟩
structure SynStat where
 syn_stats:Int→(List TStat)→Int→Option (Int×Int)
 syn_stat:Int→TStat→Int→Option (Int×Int)
def syn_stats_l1 (self:SynStat) (p_2:List TStat) (p_3:Int):Nat→Int→Int→Option (Int×Int)
 | 0,_,_=>none
 | n+1,i29,i30 =>
  if i29<(p_2.length:Int) then
   (at_ p_2 i29).bind fun x55 =>
   (self.syn_stat i30 x55 p_3).bind fun r72 =>
   if r72.1≠0 then
    none
   else
    (i64 (i29+1)).bind fun i76 =>
    syn_stats_l1 self p_2 p_3 n i76 r72.2
  else
   some (0,i30)
def syn_stats (self:SynStat) (node_2:Int) (p_2:List TStat) (p_3:Int):Option (Int×Int) :=
 if (50:Int)<(p_2.length:Int) then
  none
 else
  syn_stats_l1 self p_2 p_3 (p_2.length+1) 0 node_2
def syn_stat_j3 (self:SynStat) (p_2:TStat) (p_3:Int) (i42:Int):Option (Int×Int) :=
 if p_2.Kind=3 then
  (i64 (p_3+1)).bind fun i52 =>
  (self.syn_stats i42 p_2.Else i52).bind fun r54 =>
  some (r54.1,r54.2)
 else
  some (0,i42)
def syn_stat_j2 (self:SynStat) (p_2:TStat) (p_3:Int) (r35:Int×Int) (b39:Bool):Option (Int×Int) :=
 if b39=true then
  (i64 (p_3+1)).bind fun i44 =>
  (self.syn_stats r35.2 p_2.Body i44).bind fun r46 =>
  if r46.1≠0 then
   none
  else
   syn_stat_j3 self p_2 p_3 r46.2
 else
  syn_stat_j3 self p_2 p_3 r35.2
def syn_stat_j1 (fu:Nat) (self:SynStat) (p_2:TStat) (p_3:Int) (r15:Int×Int) (b21:Bool):Option (Int×Int) :=
 if b21=true then
  none
 else
  if p_2.Kind=6 then
   none
  else
   (i64 (p_3+1)).bind fun i33 =>
   ((SynExpr_run fu).syn_expr r15.2 p_2.X i33).bind fun r35 =>
   if r35.1≠0 then
    none
   else
    if p_2.Kind=3 then
     syn_stat_j2 self p_2 p_3 r35 true
    else
     syn_stat_j2 self p_2 p_3 r35 (decide (p_2.Kind=4))
def syn_stat (fu:Nat) (self:SynStat) (node_2:Int) (p_2:TStat) (p_3:Int):Option (Int×Int) :=
 (syn_node node_2 p_3).bind fun r15 =>
 if r15.1≠0 then
  none
 else
  if p_2.Kind<1 then
   none
  else
   if (9:Int)<p_2.Kind then
    none
   else
    if p_2.Kind=1 then
     (lex_named p_2.Name).bind fun b23 =>
     syn_stat_j1 fu self p_2 p_3 r15 (!b23)
    else
     if p_2.Kind=2 then
      (lex_named p_2.Name).bind fun b26 =>
      syn_stat_j1 fu self p_2 p_3 r15 (!b26)
     else
      if p_2.Kind=7 then
       none
      else
       syn_stat_j1 fu self p_2 p_3 r15 false
def SynStat_run:Nat→SynStat
 | 0=>⟨fun _ _ _=>none,fun _ _ _=>none⟩
 | n+1=>⟨syn_stats (SynStat_run n),syn_stat n (SynStat_run n)⟩
def syn_def_j1 (fu:Nat) (p_2:TDef) (r12:Int×Int) :Option (Int×Int) :=
 if p_2.Kind≠1 then
  ((SynStat_run fu).syn_stats r12.2 p_2.Body 2).bind fun r31 =>
  some (r31.1,r31.2)
 else
  if p_2.Cap<1 then
   none
  else
   if (20:Int)<p_2.Cap then
    none
   else
    some (0,r12.2)
def syn_def (fu:Nat)  (node_2:Int) (p_2:TDef):Option (Int×Int) :=
 (syn_node node_2 1).bind fun r12 =>
 if r12.1≠0 then
  none
 else
  if p_2.Kind<1 then
   none
  else
   if (4:Int)<p_2.Kind then
    none
   else
    (lex_named p_2.Name).bind fun b18 =>
    if b18=true then
     if p_2.Kind=2 then
      none
     else
      if p_2.Kind=3 then
       none
      else
       if p_2.Kind=3 then
        none
       else
        if p_2.Kind≠4 then
         (syn_typ p_2.Typ).bind fun r25 =>
         if r25≠0 then
          none
         else
          syn_def_j1 fu p_2 r12
        else
         syn_def_j1 fu p_2 r12
    else
     none
def syn_wrong_l1 (fu:Nat) (p_1:List TDef):Nat→Int→Int→Option TFault
 | 0,_,_=>none
 | n+1,i28,i29 =>
  if i28<(p_1.length:Int) then
   (at_ p_1 i28).bind fun x51 =>
   (syn_def fu i29 x51).bind fun r65 =>
   if r65.1≠0 then
    none
   else
    (i64 (i28+1)).bind fun i69 =>
    syn_wrong_l1 fu p_1 n i69 r65.2
  else
   some (TFault.mk 0 0)
def syn_wrong (fu:Nat)  (p_1:List TDef):Option TFault :=
 if (30:Int)<(p_1.length:Int) then
  none
 else
  syn_wrong_l1 fu p_1 (p_1.length+1) 0 0
end Go.Y
namespace Go.Y
open Go.Wk Go.Xt
def p_at  (left_2:List TToken) (end_6:Int) (deep_7:Int):Option Int :=
 if (left_2.length:Int)=0 then
  none
 else
  (at_ left_2 0).bind fun x9 =>
  some x9.At
def p_sees  (left_2:List TToken) (end_6:Int) (deep_7:Int) (p_2:List UInt8):Option Bool :=
 if (0:Int)<(left_2.length:Int) then
  (at_ left_2 0).bind fun x9 =>
  some (decide (x9.Text=p_2))
 else
  none
def p_is  (left_2:List TToken) (end_6:Int) (deep_7:Int) (p_2:List UInt8):Option (Bool×List TToken×Int×Int) :=
 (p_sees left_2 end_6 deep_7 p_2).bind fun r11 =>
 if r11=true then
  (cut left_2 1 left_2.length).bind fun l15 =>
  some (true,l15,end_6,deep_7)
 else
  some (false,left_2,end_6,deep_7)
def p_need_l1 (p_2:List (List UInt8)):Nat→Int→(List TToken)→Int→Int→Option (List TToken×Int×Int)
 | 0,_,_,_,_=>none
 | n+1,i30,l33,i35,i36 =>
  if i30<(p_2.length:Int) then
   (at_ p_2 i30).bind fun x56 =>
   (p_is l33 i35 i36 x56).bind fun r64 =>
   if r64.1=true then
    (i64 (i30+1)).bind fun i71 =>
    p_need_l1 p_2 n i71 r64.2.1 r64.2.2.1 r64.2.2.2
   else
    none
  else
   some (l33,i35,i36)
def p_need  (left_2:List TToken) (end_6:Int) (deep_7:Int) (p_2:List (List UInt8)):Option (List TToken×Int×Int) :=
 p_need_l1 p_2 (p_2.length+1) 0 left_2 end_6 deep_7
def p_name  (left_2:List TToken) (end_6:Int) (deep_7:Int):Option (List UInt8×List TToken×Int×Int) :=
 if (left_2.length:Int)=0 then
  none
 else
  (at_ left_2 0).bind fun x12 =>
  if x12.Kind≠1 then
   none
  else
   (at_ left_2 0).bind fun x21 =>
   (lex_named x21.Text).bind fun b29 =>
   if b29=true then
    (cut left_2 1 left_2.length).bind fun l32 =>
    some (x21.Text,l32,end_6,deep_7)
   else
    none
def p_number  (left_2:List TToken) (end_6:Int) (deep_7:Int):Option (Int×List TToken×Int×Int) :=
 if (left_2.length:Int)=0 then
  none
 else
  (at_ left_2 0).bind fun x12 =>
  if x12.Kind≠2 then
   none
  else
   (at_ left_2 0).bind fun x21 =>
   (cut left_2 1 left_2.length).bind fun l29 =>
   some (x21.Num,l29,end_6,deep_7)
def p_typ  (left_2:List TToken) (end_6:Int) (deep_7:Int):Option (TType×List TToken×Int×Int) :=
 (p_is left_2 end_6 deep_7 [110,117,109]).bind fun r13 =>
 if r13.1=true then
  some ((TType.mk 1 []),r13.2.1,r13.2.2.1,r13.2.2.2)
 else
  (p_is r13.2.1 r13.2.2.1 r13.2.2.2 [98,111,111,108]).bind fun r20 =>
  if r20.1=true then
   some ((TType.mk 2 []),r20.2.1,r20.2.2.1,r20.2.2.2)
  else
   none
def p_levels  :Option (List TSynLevel) :=
 some [(TSynLevel.mk (mput ([]:List (List UInt8×Int)) [111,114] 18) false),(TSynLevel.mk (mput ([]:List (List UInt8×Int)) [97,110,100] 17) false),(TSynLevel.mk (mput (mput (mput (mput (mput (mput ([]:List (List UInt8×Int)) [61,61] 11) [33,61] 12) [60] 13) [60,61] 14) [62] 15) [62,61] 16) true),(TSynLevel.mk (mput (mput ([]:List (List UInt8×Int)) [43] 6) [45] 7) false),(TSynLevel.mk (mput (mput (mput ([]:List (List UInt8×Int)) [42] 8) [47] 9) [37] 10) false)]
def p_into  (left_2:List TToken) (end_6:Int) (deep_7:Int):Option (List TToken×Int×Int) :=
 (i64 (deep_7+1)).bind fun i14 =>
 if (200:Int)<i14 then
  none
 else
  some (left_2,end_6,i14)
def p_out  (left_3:List TToken) (end_7:Int) (deep_8:Int):Option (List TToken×Int×Int) :=
 (i64 (deep_8 - 1)).bind fun i12 =>
 some (left_3,end_7,i12)
end Go.Y
namespace Go.Y
open Go.Wk Go.Xt
structure ParE where
 p_expr:(List TToken)→Int→Int→Option (TExpr×List TToken×Int×Int)
 p_level:(List TToken)→Int→Int→Int→Option (TExpr×List TToken×Int×Int)
 p_unary:(List TToken)→Int→Int→Option (TExpr×List TToken×Int×Int)
 p_primary:(List TToken)→Int→Int→Option (TExpr×List TToken×Int×Int)
def p_expr (self:ParE) (left_2:List TToken) (end_6:Int) (deep_7:Int):Option (TExpr×List TToken×Int×Int) :=
 (p_into left_2 end_6 deep_7).bind fun r16 =>
 (self.p_level r16.1 r16.2.1 r16.2.2 0).bind fun r23 =>
 (p_out r23.2.1 r23.2.2.1 r23.2.2.2).bind fun r32 =>
 some (r23.1,r32.1,r32.2.1,r32.2.2)
def p_level_j1  (l48:List TToken) (i50:Int) (i51:Int) (i52:Int) (i53:Int) (s54:List UInt8) (l57:List TExpr):Option (TExpr×List TToken×Int×Int) :=
 some ((TExpr.mk i52 i53 s54 l57),l48,i50,i51)
def p_level_j2 (p_2:Int) (r16:List TSynLevel) (x182:TSynLevel) (x192:TToken) (k_p_level_l1:(List TToken)→Int→Int→Int→Int→(List UInt8)→(List TExpr)→Option (TExpr×List TToken×Int×Int)) (l215:List TToken) (i217:Int) (i218:Int) (l221:List TExpr):Option (TExpr×List TToken×Int×Int) :=
 (at_ r16 p_2).bind fun x249 =>
 if x249.once=true then
  p_level_j1 l215 i217 i218 ((mget x182.signs x192.Text).getD 0) 0 [] l221
 else
  k_p_level_l1 l215 i217 i218 ((mget x182.signs x192.Text).getD 0) 0 [] l221
def p_level_l1 (self:ParE) (p_2:Int) (r16:List TSynLevel):Nat→(List TToken)→Int→Int→Int→Int→(List UInt8)→(List TExpr)→Option (TExpr×List TToken×Int×Int)
 | 0,_,_,_,_,_,_,_=>none
 | n+1,l114,i116,i117,i118,i119,s120,l123 =>
  if (0:Int)<(l114.length:Int) then
   (at_ r16 p_2).bind fun x182 =>
   (at_ l114 0).bind fun x192 =>
   if ((mget x182.signs x192.Text).getD 0)=0 then
    p_level_j1 l114 i116 i117 i118 i119 s120 l123
   else
    (cut l114 1 l114.length).bind fun l207 =>
    (i64 (p_2+1)).bind fun i231 =>
    (self.p_level l207 i116 i117 i231).bind fun r233 =>
    p_level_j2 p_2 r16 x182 x192 (p_level_l1 self p_2 r16 n) r233.2.1 r233.2.2.1 r233.2.2.2 [(TExpr.mk i118 i119 s120 l123),r233.1]
  else
   none
def p_level (fu:Nat) (self:ParE) (left_2:List TToken) (end_6:Int) (deep_7:Int) (p_2:Int):Option (TExpr×List TToken×Int×Int) :=
 (p_levels ).bind fun r16 =>
 if p_2=(r16.length:Int) then
  (self.p_unary left_2 end_6 deep_7).bind fun r23 =>
  some (r23.1,r23.2.1,r23.2.2.1,r23.2.2.2)
 else
  (i64 (p_2+1)).bind fun i33 =>
  (self.p_level left_2 end_6 deep_7 i33).bind fun r35 =>
  p_level_l1 self p_2 r16 fu r35.2.1 r35.2.2.1 r35.2.2.2 r35.1.Kind r35.1.N r35.1.Name r35.1.Kids
def p_unary (self:ParE) (left_2:List TToken) (end_6:Int) (deep_7:Int):Option (TExpr×List TToken×Int×Int) :=
 (p_is left_2 end_6 deep_7 [45]).bind fun r31 =>
 if r31.1=true then
  none
 else
  (p_is r31.2.1 r31.2.2.1 r31.2.2.2 [110,111,116]).bind fun r38 =>
  if r38.1=true then
   none
  else
   (self.p_primary r38.2.1 r38.2.2.1 r38.2.2.2).bind fun r45 =>
   some (r45.1,r45.2.1,r45.2.2.1,r45.2.2.2)
def p_primary (self:ParE) (left_2:List TToken) (end_6:Int) (deep_7:Int):Option (TExpr×List TToken×Int×Int) :=
 if (0:Int)<(left_2.length:Int) then
  (at_ left_2 0).bind fun x17 =>
  if x17.Kind=2 then
   (p_number left_2 end_6 deep_7).bind fun r26 =>
   some ((TExpr.mk 1 r26.1 [] ([]:List TExpr)),r26.2.1,r26.2.2.1,r26.2.2.2)
  else
   (p_is left_2 end_6 deep_7 [116,114,117,101]).bind fun r32 =>
   if r32.1=true then
    some ((TExpr.mk 2 1 [] ([]:List TExpr)),r32.2.1,r32.2.2.1,r32.2.2.2)
   else
    (p_is r32.2.1 r32.2.2.1 r32.2.2.2 [102,97,108,115,101]).bind fun r39 =>
    if r39.1=true then
     none
    else
     (p_is r39.2.1 r39.2.2.1 r39.2.2.2 [40]).bind fun r46 =>
     if r46.1=true then
      none
     else
      (p_is r46.2.1 r46.2.2.1 r46.2.2.2 [114,101,99,118]).bind fun r53 =>
      if r53.1=true then
       (p_need r53.2.1 r53.2.2.1 r53.2.2.2 [[40]]).bind fun r64 =>
       (p_name r64.1 r64.2.1 r64.2.2).bind fun r70 =>
       (p_need r70.2.1 r70.2.2.1 r70.2.2.2 [[41]]).bind fun r82 =>
       some ((TExpr.mk 20 0 r70.1 ([]:List TExpr)),r82.1,r82.2.1,r82.2.2)
      else
       (p_is r53.2.1 r53.2.2.1 r53.2.2.2 [121,105,101,108,100]).bind fun r88 =>
       if r88.1=true then
        none
       else
        (p_is r88.2.1 r88.2.2.1 r88.2.2.2 [114,101,115,117,109,101]).bind fun r95 =>
        if r95.1=true then
         none
        else
         (p_is r95.2.1 r95.2.2.1 r95.2.2.2 [97,108,105,118,101]).bind fun r102 =>
         if r102.1=true then
          none
         else
          (p_is r102.2.1 r102.2.2.1 r102.2.2.2 [115,116,97,114,116]).bind fun r109 =>
          if r109.1=true then
           none
          else
           (p_name r109.2.1 r109.2.2.1 r109.2.2.2).bind fun r116 =>
           (p_sees r116.2.1 r116.2.2.1 r116.2.2.2 [40]).bind fun r122 =>
           if r122=true then
            none
           else
            some ((TExpr.mk 3 0 r116.1 ([]:List TExpr)),r116.2.1,r116.2.2.1,r116.2.2.2)
 else
  none
def ParE_run:Nat→ParE
 | 0=>⟨fun _ _ _=>none,fun _ _ _ _=>none,fun _ _ _=>none,fun _ _ _=>none⟩
 | n+1=>⟨p_expr (ParE_run n),p_level n (ParE_run n),p_unary (ParE_run n),p_primary (ParE_run n)⟩
structure ParS where
 p_body:(List TToken)→Int→Int→Option (List TStat×List TToken×Int×Int)
 p_stat:(List TToken)→Int→Int→Option (TStat×List TToken×Int×Int)
def p_body_l1 (self:ParS):Nat→(List TToken)→Int→Int→(List TStat)→Option (List TStat×List TToken×Int×Int)
 | 0,_,_,_,_=>none
 | n+1,l62,i65,i66,l69 =>
  (p_is l62 i65 i66 [125]).bind fun r102 =>
  if r102.1=true then
   (p_out r102.2.1 r102.2.2.1 r102.2.2.2).bind fun r132 =>
   some (l69,r132.1,r132.2.1,r132.2.2)
  else
   if (l69.length:Int)=50 then
    none
   else
    (self.p_stat r102.2.1 r102.2.2.1 r102.2.2.2).bind fun r110 =>
    (app l69 [r110.1]).bind fun l129 =>
    p_body_l1 self n r110.2.1 r110.2.2.1 r110.2.2.2 l129
def p_body (fu:Nat) (self:ParS) (left_2:List TToken) (end_6:Int) (deep_7:Int):Option (List TStat×List TToken×Int×Int) :=
 (p_into left_2 end_6 deep_7).bind fun r14 =>
 (p_need r14.1 r14.2.1 r14.2.2 [[123]]).bind fun r25 =>
 p_body_l1 self fu r25.1 r25.2.1 r25.2.2 []
def p_stat_j1  (l26:List TToken) (i28:Int) (i29:Int) (i30:Int) (s31:List UInt8) (i33:Int) (i34:Int) (s35:List UInt8) (l38:List TExpr):Option (TStat×List TToken×Int×Int) :=
 (p_need l26 i28 i29 [[59]]).bind fun r227 =>
 some ((TStat.mk i30 s31 (TExpr.mk i33 i34 s35 l38) ([]:List TStat) ([]:List TStat)),r227.1,r227.2.1,r227.2.2)
def p_stat_j2 (r47:TExpr×List TToken×Int×Int) (r56:List TStat×List TToken×Int×Int) (l73:List TToken) (i75:Int) (i76:Int) (l79:List TStat):Option (TStat×List TToken×Int×Int) :=
 some ((TStat.mk 3 [] (TExpr.mk r47.1.Kind r47.1.N r47.1.Name r47.1.Kids) r56.1 l79),l73,i75,i76)
def p_stat (fu:Nat) (self:ParS) (left_2:List TToken) (end_6:Int) (deep_7:Int):Option (TStat×List TToken×Int×Int) :=
 (p_is left_2 end_6 deep_7 [105,102]).bind fun r40 =>
 if r40.1=true then
  ((ParE_run fu).p_expr r40.2.1 r40.2.2.1 r40.2.2.2).bind fun r47 =>
  (self.p_body r47.2.1 r47.2.2.1 r47.2.2.2).bind fun r56 =>
  (p_is r56.2.1 r56.2.2.1 r56.2.2.2 [101,108,115,101]).bind fun r65 =>
  if r65.1=true then
   (self.p_body r65.2.1 r65.2.2.1 r65.2.2.2).bind fun r82 =>
   p_stat_j2 r47 r56 r82.2.1 r82.2.2.1 r82.2.2.2 r82.1
  else
   p_stat_j2 r47 r56 r65.2.1 r65.2.2.1 r65.2.2.2 []
 else
  (p_is r40.2.1 r40.2.2.1 r40.2.2.2 [119,104,105,108,101]).bind fun r94 =>
  if r94.1=true then
   ((ParE_run fu).p_expr r94.2.1 r94.2.2.1 r94.2.2.2).bind fun r101 =>
   (self.p_body r101.2.1 r101.2.2.1 r101.2.2.2).bind fun r110 =>
   some ((TStat.mk 4 [] (TExpr.mk r101.1.Kind r101.1.N r101.1.Name r101.1.Kids) r110.1 ([]:List TStat)),r110.2.1,r110.2.2.1,r110.2.2.2)
  else
   (p_is r94.2.1 r94.2.2.1 r94.2.2.2 [108,101,116]).bind fun r119 =>
   if r119.1=true then
    (p_name r119.2.1 r119.2.2.1 r119.2.2.2).bind fun r126 =>
    (p_need r126.2.1 r126.2.2.1 r126.2.2.2 [[61]]).bind fun r136 =>
    ((ParE_run fu).p_expr r136.1 r136.2.1 r136.2.2).bind fun r142 =>
    p_stat_j1 r142.2.1 r142.2.2.1 r142.2.2.2 1 r126.1 r142.1.Kind r142.1.N r142.1.Name r142.1.Kids
   else
    (p_is r119.2.1 r119.2.2.1 r119.2.2.2 [114,101,116,117,114,110]).bind fun r151 =>
    if r151.1=true then
     none
    else
     (p_is r151.2.1 r151.2.2.1 r151.2.2.2 [115,116,111,112]).bind fun r158 =>
     if r158.1=true then
      none
     else
      (p_is r158.2.1 r158.2.2.1 r158.2.2.2 [115,101,110,100]).bind fun r165 =>
      if r165.1=true then
       none
      else
       (p_is r165.2.1 r165.2.2.1 r165.2.2.2 [111,117,116]).bind fun r172 =>
       if r172.1=true then
        ((ParE_run fu).p_expr r172.2.1 r172.2.2.1 r172.2.2.2).bind fun r179 =>
        p_stat_j1 r179.2.1 r179.2.2.1 r179.2.2.2 8 [] r179.1.Kind r179.1.N r179.1.Name r179.1.Kids
       else
        (p_is r172.2.1 r172.2.2.1 r172.2.2.2 [100,111]).bind fun r188 =>
        if r188.1=true then
         none
        else
         (p_name r188.2.1 r188.2.2.1 r188.2.2.2).bind fun r195 =>
         (p_need r195.2.1 r195.2.2.1 r195.2.2.2 [[61]]).bind fun r205 =>
         ((ParE_run fu).p_expr r205.1 r205.2.1 r205.2.2).bind fun r211 =>
         p_stat_j1 r211.2.1 r211.2.2.1 r211.2.2.2 2 r195.1 r211.1.Kind r211.1.N r211.1.Name r211.1.Kids
def ParS_run:Nat→ParS
 | 0=>⟨fun _ _ _=>none,fun _ _ _=>none⟩
 | n+1=>⟨p_body n (ParS_run n),p_stat n (ParS_run n)⟩
def p_def (fu:Nat)  (left_2:List TToken) (end_6:Int) (deep_7:Int):Option (TDef×List TToken×Int×Int) :=
 (p_at left_2 end_6 deep_7).bind fun r19 =>
 (p_is left_2 end_6 deep_7 [98,111,120]).bind fun r22 =>
 if r22.1=true then
  (p_name r22.2.1 r22.2.2.1 r22.2.2.2).bind fun r29 =>
  (p_typ r29.2.1 r29.2.2.1 r29.2.2.2).bind fun r35 =>
  (p_at r35.2.1 r35.2.2.1 r35.2.2.2).bind fun r43 =>
  (p_number r35.2.1 r35.2.2.1 r35.2.2.2).bind fun r46 =>
  if r46.1<1 then
   none
  else
   if (20:Int)<r46.1 then
    none
   else
    (p_need r46.2.1 r46.2.2.1 r46.2.2.2 [[59]]).bind fun r58 =>
    some ((TDef.mk 1 r29.1 (TType.mk r35.1.Kind r35.1.Gen) (TType.mk 0 []) r46.1 ([]:List TParam) ([]:List TStat)),r58.1,r58.2.1,r58.2.2)
 else
  (p_is r22.2.1 r22.2.2.1 r22.2.2.2 [102,110]).bind fun r64 =>
  if r64.1=true then
   none
  else
   (p_is r64.2.1 r64.2.2.1 r64.2.2.2 [103,101,110]).bind fun r71 =>
   if r71.1=true then
    none
   else
    (p_is r71.2.1 r71.2.2.1 r71.2.2.2 [116,97,115,107]).bind fun r78 =>
    if r78.1=true then
     (p_name r78.2.1 r78.2.2.1 r78.2.2.2).bind fun r85 =>
     ((ParS_run fu).p_body r85.2.1 r85.2.2.1 r85.2.2.2).bind fun r91 =>
     some ((TDef.mk 4 r85.1 (TType.mk 0 []) (TType.mk 0 []) 0 ([]:List TParam) r91.1),r91.2.1,r91.2.2.1,r91.2.2.2)
    else
     none
end Go.Y
namespace Go.Y
open Go.Wk Go.Xt
theorem is_swap {α:Type} {l:List TToken} {e d:Int} {k1 k2:List UInt8} (hne:¬ k1=k2) {A B C:Bool×List TToken×Int×Int→Option α} {r:α}
  (h:(Option.bind (p_is l e d k1) fun x=>if x.1=true then A x else Option.bind (p_is x.2.1 x.2.2.1 x.2.2.2 k2) fun y=>if y.1=true then B y else C y)=some r) :
  (Option.bind (p_is l e d k2) fun y=>if y.1=true then B y else Option.bind (p_is y.2.1 y.2.2.1 y.2.2.2 k1) fun x=>if x.1=true then A x else C x)=some r:=by
 have key:∀ k,(p_sees l e d k=some false∧p_is l e d k=some (false,l,e,d))∨(∃ t l',l=t::l'∧t.Text=k∧p_is l e d k=some (true,l',e,d)):=by
  intro k
  cases l with
  | nil=>first | (left; simp [p_sees,p_is]; done) | (exfalso; simp [p_sees,p_is] at h)
  | cons t l' =>
   by_cases hk:t.Text=k
   ·right
    refine ⟨t,l',rfl,hk,?_⟩
    have h1:(0:Int)<((l'.length+1:Nat):Int):=by omega
    have h2:(1:Int)≤((l'.length+1:Nat):Int):=by omega
    have hc:cut (t::l') 1 ((t::l').length)=some l':=by
     unfold cut
     rw [if_pos ⟨by omega,by simpa using h2,by simp⟩]
     simp
    have hs:p_sees (t::l') e d k=some true:=by
     unfold p_sees
     rw [if_pos (by simp)]
     simp [at_,hk]
    unfold p_is
    rw [hs,Option.bind_some]
    simp only [if_true]
    rw [hc]
    rfl
   ·left
    have h1:(0:Int)<((l'.length+1:Nat):Int):=by omega
    simp [p_is,p_sees,at_,hk,h1]
 rcases key k1 with ⟨s1,i1⟩ | ⟨t,l',hl,ht,i1⟩
 ·rw [i1,Option.bind_some] at h
  simp only [Bool.false_eq_true,if_false] at h
  rcases key k2 with ⟨s2,i2⟩ | ⟨t,l',hl,ht,i2⟩
  ·rw [i2,Option.bind_some] at h ⊢
   simp only [Bool.false_eq_true,if_false] at h ⊢
   rw [i1,Option.bind_some]
   simpa using h
  ·rw [i2,Option.bind_some] at h ⊢
   simp only [if_true] at h ⊢
   exact h
 ·rw [i1,Option.bind_some] at h
  simp only [if_true] at h
  rcases key k2 with ⟨s2,i2⟩ | ⟨t2,l2,hl2,ht2,i2⟩
  ·rw [i2,Option.bind_some]
   simp only [Bool.false_eq_true,if_false]
   rw [i1,Option.bind_some]
   simpa using h
  ·rw [hl] at hl2
   obtain ⟨rfl,rfl⟩:=List.cons.inj hl2
   exact absurd (ht.symm.trans ht2) hne
end Go.Y
namespace Go.Y
open Go.Wk Go.Xt
def p_done:Option Unit:=some ()
def syn_read_j1 (k_syn_read_l1:(List TToken)→Int→Int→(List TDef)→Option (List TDef×TFault)) (l73:List TToken) (i75:Int) (i76:Int) (l79:List TDef):Option (List TDef×TFault) :=
 k_syn_read_l1 l73 i75 i76 l79
def syn_read_j2 (r8:List TToken×TFault) (l45:List TDef) :Option (List TDef×TFault) :=
 (p_done ).bind fun r115 =>
 some (l45,r8.2)
def syn_read_l1 (fu:Nat) (r8:List TToken×TFault):Nat→(List TToken)→Int→Int→(List TDef)→Option (List TDef×TFault)
 | 0,_,_,_,_=>none
 | n+1,l39,i41,i42,l45 =>
  if (0:Int)<(l39.length:Int) then
   if (l45.length:Int)=30 then
    none
   else
    (p_def fu l39 i41 i42).bind fun r81 =>
    (app l45 [r81.1]).bind fun l97 =>
    syn_read_j1 (syn_read_l1 fu r8 n) r81.2.1 r81.2.2.1 r81.2.2.2 l97
  else
   (syn_wrong fu l45).bind fun r108 =>
   if r108.Err≠0 then
    none
   else
    syn_read_j2 r8 l45
def syn_read (fu:Nat)  (p_1:List UInt8):Option (List TDef×TFault) :=
 (lex_tokens p_1).bind fun r8 =>
 if r8.2.Err≠0 then
  none
 else
  syn_read_l1 fu r8 fu r8.1 (p_1.length:Int) 0 []
end Go.Y
namespace Go.Y
open Go.Wk Go.Xt
def sema_plain  (p_1:TType):Option Bool :=
 some (decide (p_1.Kind≠3))
def sema_find  (p_1:TSemaProgram) (p_2:Int) (p_3:List UInt8):Option (Option TDef×Bool) :=
 if (mget p_1.named p_3).isSome=true then
  ((mget p_1.named p_3)).bind fun x18 =>
  some ((mget p_1.named p_3),decide (x18.Kind=p_2))
 else
  none
def sema_bare  (p_1:TType):Option TType :=
 (sema_plain p_1).bind fun r5 =>
 if r5=true then
  some (TType.mk p_1.Kind [])
 else
  none
def sema_num  :Option TType :=
 some (TType.mk 1 [])
def sema_boolean  :Option TType :=
 some (TType.mk 2 [])
def sema_look_l1 (p_2:List UInt8) (bloc_21:List (List (List UInt8×TType))):Nat→Int→Option (TType×Bool)
 | 0,_=>none
 | n+1,i48 =>
  if (0:Int)≤i48 then
   (at_ bloc_21 i48).bind fun x70 =>
   if (mget x70 p_2).isSome=true then
    some (((mget x70 p_2).getD (TType.mk 0 [])),true)
   else
    (i64 (i48 - 1)).bind fun i88 =>
    sema_look_l1 p_2 bloc_21 n i88
  else
   some ((TType.mk 0 []),false)
def sema_look (fu:Nat)  (prog_2:TSemaProgram) (def_11:TDef) (bloc_21:List (List (List UInt8×TType))) (p_2:List UInt8):Option (TType×Bool) :=
 (i64 ((bloc_21.length:Int) - 1)).bind fun i27 =>
 sema_look_l1 p_2 bloc_21 fu i27
structure SemaE where
 sema_typed:TSemaProgram→TDef→(List (List (List UInt8×TType)))→TExpr→TType→Option Int
 sema_both:TSemaProgram→TDef→(List (List (List UInt8×TType)))→TExpr→Option (TType×Int)
 sema_expr:TSemaProgram→TDef→(List (List (List UInt8×TType)))→TExpr→Option (TType×Int)
def sema_typed (self:SemaE) (prog_2:TSemaProgram) (def_11:TDef) (bloc_21:List (List (List UInt8×TType))) (p_2:TExpr) (p_3:TType):Option Int :=
 (self.sema_expr prog_2 def_11 bloc_21 p_2).bind fun r33 =>
 if r33.2=0 then
  (sema_bare p_3).bind fun r39 =>
  if (andL [(decide (r33.1.Kind=r39.Kind)),(decide (r33.1.Gen=r39.Gen))])=true then
   some r33.2
  else
   none
 else
  none
def sema_both (self:SemaE) (prog_2:TSemaProgram) (def_11:TDef) (bloc_21:List (List (List UInt8×TType))) (p_2:TExpr):Option (TType×Int) :=
 (at_ p_2.Kids 0).bind fun x33 =>
 (self.sema_expr prog_2 def_11 bloc_21 x33).bind fun r44 =>
 if r44.2≠0 then
  none
 else
  (at_ p_2.Kids 1).bind fun x50 =>
  (self.sema_expr prog_2 def_11 bloc_21 x50).bind fun r61 =>
  if r61.2=0 then
   if (andL [(decide (r44.1.Kind=r61.1.Kind)),(decide (r44.1.Gen=r61.1.Gen))])=true then
    (sema_plain r44.1).bind fun r68 =>
    if r68=true then
     some (r44.1,r61.2)
    else
     none
   else
    none
  else
   none
def sema_expr_l1 (self:SemaE) (p_2:TExpr) (prog_2:TSemaProgram) (def_11:TDef) (bloc_21:List (List (List UInt8×TType))) (r90:TType) (i100:Int) (s101:List UInt8):Nat→Int→Option (TType×Int)
 | 0,_=>none
 | n+1,i124 =>
  if i124<(p_2.Kids.length:Int) then
   (at_ p_2.Kids i124).bind fun x143 =>
   (self.sema_typed prog_2 def_11 bloc_21 x143 r90).bind fun r154 =>
   if r154≠0 then
    none
   else
    (i64 (i124+1)).bind fun i158 =>
    sema_expr_l1 self p_2 prog_2 def_11 bloc_21 r90 i100 s101 n i158
  else
   some ((TType.mk i100 s101),0)
def sema_expr_j2 (self:SemaE) (p_2:TExpr) (prog_2:TSemaProgram) (def_11:TDef) (bloc_21:List (List (List UInt8×TType))) (r90:TType) (i100:Int) (s101:List UInt8):Option (TType×Int) :=
 sema_expr_l1 self p_2 prog_2 def_11 bloc_21 r90 i100 s101 (p_2.Kids.length+1) 0
def sema_expr_j1 (self:SemaE) (p_2:TExpr) (prog_2:TSemaProgram) (def_11:TDef) (bloc_21:List (List (List UInt8×TType))) (b50:Bool):Option (TType×Int) :=
 if b50=true then
  (self.sema_both prog_2 def_11 bloc_21 p_2).bind fun r54 =>
  (sema_boolean ).bind fun r59 =>
  some (r59,r54.2)
 else
  if p_2.Kind=19 then
   none
  else
   if p_2.Kind=20 then
    (sema_find prog_2 1 p_2.Name).bind fun r64 =>
    if r64.2=true then
     (r64.1).bind fun x70 =>
     (sema_bare x70.Typ).bind fun r83 =>
     some (r83,0)
    else
     none
   else
    if p_2.Kind=21 then
     none
    else
     if p_2.Kind=22 then
      none
     else
      if p_2.Kind=23 then
       none
      else
       if p_2.Kind=24 then
        none
       else
        (sema_num ).bind fun r90 =>
        (sema_num ).bind fun r93 =>
        if (17:Int)≤p_2.Kind then
         none
        else
         if (13:Int)≤p_2.Kind then
          (sema_boolean ).bind fun r104 =>
          sema_expr_j2 self p_2 prog_2 def_11 bloc_21 r90 r104.Kind r104.Gen
         else
          sema_expr_j2 self p_2 prog_2 def_11 bloc_21 r90 r93.Kind r93.Gen
def sema_expr (fu:Nat) (self:SemaE) (prog_2:TSemaProgram) (def_11:TDef) (bloc_21:List (List (List UInt8×TType))) (p_2:TExpr):Option (TType×Int) :=
 if p_2.Kind=1 then
  (sema_num ).bind fun r34 =>
  some (r34,0)
 else
  if p_2.Kind=2 then
   (sema_boolean ).bind fun r38 =>
   some (r38,0)
  else
   if p_2.Kind=3 then
    (sema_look fu prog_2 def_11 bloc_21 p_2.Name).bind fun r42 =>
    if r42.2=true then
     some (r42.1,0)
    else
     none
   else
    if p_2.Kind=4 then
     none
    else
     if p_2.Kind=5 then
      none
     else
      if p_2.Kind=11 then
       sema_expr_j1 self p_2 prog_2 def_11 bloc_21 (decide (p_2.Kind=11))
      else
       sema_expr_j1 self p_2 prog_2 def_11 bloc_21 (decide (p_2.Kind=12))
def SemaE_run:Nat→SemaE
 | 0=>⟨fun _ _ _ _ _=>none,fun _ _ _ _=>none,fun _ _ _ _=>none⟩
 | n+1=>⟨sema_typed (SemaE_run n),sema_both (SemaE_run n),sema_expr n (SemaE_run n)⟩
end Go.Y
namespace Go.Y
open Go.Wk Go.Xt
def sema_pop_j1  (l31:List (List (List UInt8×TType))):Option (List (List (List UInt8×TType))) :=
 some l31
def sema_pop  (prog_3:TSemaProgram) (def_12:TDef) (bloc_22:List (List (List UInt8×TType))):Option (List (List (List UInt8×TType))) :=
 (i64 ((bloc_22.length:Int) - 1)).bind fun i33 =>
 (cut bloc_22 0 i33).bind fun l35 =>
 sema_pop_j1 l35
structure SemaS where
 sema_stats:TSemaProgram→TDef→(List (List (List UInt8×TType)))→(List TStat)→Option (Int×List (List (List UInt8×TType)))
 sema_stat:TSemaProgram→TDef→(List (List (List UInt8×TType)))→TStat→Option (Int×List (List (List UInt8×TType)))
def sema_stats_l1 (self:SemaS) (p_2:List TStat) (prog_2:TSemaProgram) (def_11:TDef):Nat→Int→(List (List (List UInt8×TType)))→Option (Int×List (List (List UInt8×TType)))
 | 0,_,_=>none
 | n+1,i74,l77 =>
  if i74<(p_2.length:Int) then
   (at_ p_2 i74).bind fun x107 =>
   (self.sema_stat prog_2 def_11 l77 x107).bind fun r124 =>
   if r124.1≠0 then
    none
   else
    (i64 (i74+1)).bind fun i131 =>
    sema_stats_l1 self p_2 prog_2 def_11 n i131 r124.2
  else
   (sema_pop prog_2 def_11 l77).bind fun r133 =>
   some (0,r133)
def sema_stats_j1 (self:SemaS) (p_2:List TStat) (prog_2:TSemaProgram) (def_11:TDef) (l35:List (List (List UInt8×TType))):Option (Int×List (List (List UInt8×TType))) :=
 sema_stats_l1 self p_2 prog_2 def_11 (p_2.length+1) 0 l35
def sema_stats (self:SemaS) (prog_2:TSemaProgram) (def_11:TDef) (bloc_21:List (List (List UInt8×TType))) (p_2:List TStat):Option (Int×List (List (List UInt8×TType))) :=
 (app bloc_21 [[]]).bind fun l41 =>
 sema_stats_j1 self p_2 prog_2 def_11 l41
def sema_stat_j1 (fu:Nat) (self:SemaS) (p_2:TStat) (prog_2:TSemaProgram) (def_11:TDef) (bloc_21:List (List (List UInt8×TType))) (b80:Bool):Option (Int×List (List (List UInt8×TType))) :=
 if b80=true then
  (sema_boolean ).bind fun r84 =>
  ((SemaE_run fu).sema_typed prog_2 def_11 bloc_21 p_2.X r84).bind fun r87 =>
  if r87≠0 then
   none
  else
   (self.sema_stats prog_2 def_11 bloc_21 p_2.Body).bind fun r91 =>
   if r91.1≠0 then
    none
   else
    if p_2.Kind=4 then
     some (r91.1,r91.2)
    else
     (self.sema_stats prog_2 def_11 r91.2 p_2.Else).bind fun r99 =>
     some (r99.1,r99.2)
 else
  if p_2.Kind=5 then
   none
  else
   if p_2.Kind=6 then
    none
   else
    if p_2.Kind=7 then
     none
    else
     if p_2.Kind=8 then
      ((SemaE_run fu).sema_expr prog_2 def_11 bloc_21 p_2.X).bind fun r109 =>
      if r109.2=0 then
       (sema_plain r109.1).bind fun r115 =>
       if r115=true then
        some (r109.2,bloc_21)
       else
        none
      else
       none
     else
      none
def sema_stat (fu:Nat) (self:SemaS) (prog_2:TSemaProgram) (def_11:TDef) (bloc_21:List (List (List UInt8×TType))) (p_2:TStat):Option (Int×List (List (List UInt8×TType))) :=
 if p_2.Kind=1 then
  ((SemaE_run fu).sema_expr prog_2 def_11 bloc_21 p_2.X).bind fun r41 =>
  if r41.2≠0 then
   none
  else
   (sema_look fu prog_2 def_11 bloc_21 p_2.Name).bind fun r47 =>
   if r47.2=true then
    none
   else
    (i64 ((bloc_21.length:Int) - 1)).bind fun i53 =>
    (at_ bloc_21 i53).bind fun x55 =>
    some (0,(bloc_21.set i53.toNat (mput x55 p_2.Name r41.1)))
 else
  if p_2.Kind=2 then
   (sema_look fu prog_2 def_11 bloc_21 p_2.Name).bind fun r71 =>
   if r71.2=true then
    ((SemaE_run fu).sema_typed prog_2 def_11 bloc_21 p_2.X r71.1).bind fun r77 =>
    some (r77,bloc_21)
   else
    none
  else
   if p_2.Kind=3 then
    sema_stat_j1 fu self p_2 prog_2 def_11 bloc_21 (decide (p_2.Kind=3))
   else
    sema_stat_j1 fu self p_2 prog_2 def_11 bloc_21 (decide (p_2.Kind=4))
def SemaS_run:Nat→SemaS
 | 0=>⟨fun _ _ _ _=>none,fun _ _ _ _=>none⟩
 | n+1=>⟨sema_stats (SemaS_run n),sema_stat n (SemaS_run n)⟩
def sema_head_j1  (b22:Bool):Option Int :=
 if b22=true then
  none
 else
  some 0
def sema_head  (p_1:TSemaProgram) (p_2:TDef):Option Int :=
 if p_2.Kind=2 then
  none
 else
  if p_2.Kind=3 then
   none
  else
   if p_2.Kind=3 then
    none
   else
    if p_2.Kind≠4 then
     (sema_plain p_2.Typ).bind fun r25 =>
     sema_head_j1 (!r25)
    else
     sema_head_j1 false
def sema_body (fu:Nat)  (p_1:TSemaProgram) (p_2:TDef):Option Int :=
 if p_2.Kind=1 then
  some 0
 else
  if p_2.Kind≠4 then
   none
  else
   ((SemaS_run fu).sema_stats p_1 p_2 [([]:List (List UInt8×TType))] p_2.Body).bind fun r29 =>
   some r29.1
def sema_named_l3 (fu:Nat) (p_1:List TDef) (l94:List (List UInt8×TDef)):Nat→Int→Option (TSemaProgram×TFault)
 | 0,_=>none
 | n+1,i317 =>
  if i317<(p_1.length:Int) then
   (at_ p_1 i317).bind fun x339 =>
   (sema_body fu (TSemaProgram.mk p_1 l94) x339).bind fun r353 =>
   if r353≠0 then
    none
   else
    (i64 (i317+1)).bind fun i357 =>
    sema_named_l3 fu p_1 l94 n i357
  else
   some ((TSemaProgram.mk p_1 l94),(TFault.mk 0 0))
def sema_named_l2 (fu:Nat) (p_1:List TDef) (l94:List (List UInt8×TDef)):Nat→Int→Option (TSemaProgram×TFault)
 | 0,_=>none
 | n+1,i258 =>
  if i258<(p_1.length:Int) then
   (at_ p_1 i258).bind fun x280 =>
   (sema_head (TSemaProgram.mk p_1 l94) x280).bind fun r294 =>
   if r294≠0 then
    none
   else
    (i64 (i258+1)).bind fun i298 =>
    sema_named_l2 fu p_1 l94 n i298
  else
   sema_named_l3 fu p_1 l94 (p_1.length+1) 0
def sema_named_l1 (fu:Nat) (p_1:List TDef):Nat→Int→Int→(List (List UInt8×TDef))→Option (TSemaProgram×TFault)
 | 0,_,_,_=>none
 | n+1,i90,i91,l94 =>
  if i91<(p_1.length:Int) then
   (at_ p_1 i91).bind fun x165 =>
   if (mget l94 x165.Name).isSome=true then
    none
   else
    (at_ p_1 i91).bind fun x182 =>
    (at_ p_1 i91).bind fun x196 =>
    (at_ p_1 i91).bind fun x213 =>
    if x213.Kind=4 then
     (i64 (i90+1)).bind fun i228 =>
     (i64 (i91+1)).bind fun i230 =>
     sema_named_l1 fu p_1 n i228 i230 (mput l94 x182.Name x196)
    else
     (i64 (i91+1)).bind fun i232 =>
     sema_named_l1 fu p_1 n i90 i232 (mput l94 x182.Name x196)
  else
   if i90=0 then
    none
   else
    sema_named_l2 fu p_1 l94 (p_1.length+1) 0
def sema_named (fu:Nat)  (p_1:List TDef):Option (TSemaProgram×TFault) :=
 (syn_wrong fu p_1).bind fun r18 =>
 if r18.Err≠0 then
  none
 else
  sema_named_l1 fu p_1 (p_1.length+1) 0 0 ([]:List (List UInt8×TDef))
end Go.Y
namespace Go.Y
open Go.Wk Go.Xt
structure SemaU where
 uses_expr:(List (List UInt8))→(List (List UInt8))→(List (List UInt8))→TExpr→Option (List (List UInt8)×List (List UInt8)×List (List UInt8))
def uses_expr_l1 (self:SemaU) (p_2:TExpr):Nat→Int→(List (List UInt8))→(List (List UInt8))→(List (List UInt8))→Option (List (List UInt8)×List (List UInt8)×List (List UInt8))
 | 0,_,_,_,_=>none
 | n+1,i81,l84,l88,l92 =>
  if i81<(p_2.Kids.length:Int) then
   (at_ p_2.Kids i81).bind fun x124 =>
   (self.uses_expr l84 l88 l92 x124).bind fun r135 =>
   (i64 (i81+1)).bind fun i147 =>
   uses_expr_l1 self p_2 n i147 r135.1 r135.2.1 r135.2.2
  else
   some (l84,l88,l92)
def uses_expr_j1 (self:SemaU) (call_2:List (List UInt8)) (p_2:TExpr) (send_6:List (List UInt8)) (l31:List (List UInt8)):Option (List (List UInt8)×List (List UInt8)×List (List UInt8)) :=
 uses_expr_l1 self p_2 (p_2.Kids.length+1) 0 call_2 send_6 l31
def uses_expr_j2 (self:SemaU) (call_2:List (List UInt8)) (p_2:TExpr) (send_6:List (List UInt8)) (l38:List (List UInt8)):Option (List (List UInt8)×List (List UInt8)×List (List UInt8)) :=
 uses_expr_j1 self call_2 p_2 send_6 l38
def uses_expr (self:SemaU) (call_2:List (List UInt8)) (send_6:List (List UInt8)) (recv_10:List (List UInt8)) (p_2:TExpr):Option (List (List UInt8)×List (List UInt8)×List (List UInt8)) :=
 if p_2.Kind=19 then
  none
 else
  if p_2.Kind=22 then
   none
  else
   if p_2.Kind=20 then
    (app recv_10 [p_2.Name]).bind fun l44 =>
    uses_expr_j2 self call_2 p_2 send_6 l44
   else
    uses_expr_j1 self call_2 p_2 send_6 recv_10
def SemaU_run:Nat→SemaU
 | 0=>⟨fun _ _ _ _=>none⟩
 | n+1=>⟨uses_expr (SemaU_run n)⟩
structure SemaV where
 uses_stats:(List (List UInt8))→(List (List UInt8))→(List (List UInt8))→(List TStat)→Option (List (List UInt8)×List (List UInt8)×List (List UInt8))
def uses_stats_j2 (self:SemaV) (i107:Int) (x206:TStat) (k_uses_stats_l1:Int→(List (List UInt8))→(List (List UInt8))→(List (List UInt8))→Option (List (List UInt8)×List (List UInt8)×List (List UInt8))) (l242:List (List UInt8)) (l246:List (List UInt8)) (l250:List (List UInt8)):Option (List (List UInt8)×List (List UInt8)×List (List UInt8)) :=
 if x206.Kind=3 then
  (self.uses_stats l242 l246 l250 x206.Else).bind fun r270 =>
  (i64 (i107+1)).bind fun i282 =>
  k_uses_stats_l1 i282 r270.1 r270.2.1 r270.2.2
 else
  (i64 (i107+1)).bind fun i284 =>
  k_uses_stats_l1 i284 l242 l246 l250
def uses_stats_j1 (self:SemaV) (i107:Int) (x206:TStat) (r225:List (List UInt8)×List (List UInt8)×List (List UInt8)) (k_uses_stats_l1:Int→(List (List UInt8))→(List (List UInt8))→(List (List UInt8))→Option (List (List UInt8)×List (List UInt8)×List (List UInt8))) (b237:Bool):Option (List (List UInt8)×List (List UInt8)×List (List UInt8)) :=
 if b237=true then
  (self.uses_stats r225.1 r225.2.1 r225.2.2 x206.Body).bind fun r253 =>
  uses_stats_j2 self i107 x206 k_uses_stats_l1 r253.1 r253.2.1 r253.2.2
 else
  uses_stats_j2 self i107 x206 k_uses_stats_l1 r225.1 r225.2.1 r225.2.2
def uses_stats_l1 (fu:Nat) (self:SemaV) (p_2:List TStat):Nat→Int→(List (List UInt8))→(List (List UInt8))→(List (List UInt8))→Option (List (List UInt8)×List (List UInt8)×List (List UInt8))
 | 0,_,_,_,_=>none
 | n+1,i107,l110,l114,l118 =>
  if i107<(p_2.length:Int) then
   (at_ p_2 i107).bind fun x206 =>
   if x206.Kind=7 then
    none
   else
    if x206.Kind≠6 then
     ((SemaU_run fu).uses_expr l110 l114 l118 x206.X).bind fun r225 =>
     if x206.Kind=3 then
      uses_stats_j1 self i107 x206 r225 (uses_stats_l1 fu self p_2 n) true
     else
      uses_stats_j1 self i107 x206 r225 (uses_stats_l1 fu self p_2 n) (decide (x206.Kind=4))
    else
     none
  else
   some (l110,l114,l118)
def uses_stats (fu:Nat) (self:SemaV) (call_2:List (List UInt8)) (send_6:List (List UInt8)) (recv_10:List (List UInt8)) (p_2:List TStat):Option (List (List UInt8)×List (List UInt8)×List (List UInt8)) :=
 uses_stats_l1 fu self p_2 (p_2.length+1) 0 call_2 send_6 recv_10
def SemaV_run:Nat→SemaV
 | 0=>⟨fun _ _ _ _=>none⟩
 | n+1=>⟨uses_stats n (SemaV_run n)⟩
def sema_reach_l2 (l230:List (Option TDef)) (r257:List (List UInt8)×List (List UInt8)×List (List UInt8)) (l279:List (List UInt8)) (l283:List (List UInt8)) (k_sema_reach_l1:(List (Option TDef))→(List (List UInt8))→(List (List UInt8))→Option TSemaUses):Nat→Option TSemaUses
 | 0=>none
 | n+1 =>
  if (0:Int)<(r257.1.length:Int) then
   none
  else
   k_sema_reach_l1 l230 l279 l283
def sema_reach_j1 (l230:List (Option TDef)) (r257:List (List UInt8)×List (List UInt8)×List (List UInt8)) (k_sema_reach_l1:(List (Option TDef))→(List (List UInt8))→(List (List UInt8))→Option TSemaUses) (l271:List (List UInt8)) (l275:List (List UInt8)) (l279:List (List UInt8)) (l283:List (List UInt8)):Option TSemaUses :=
 sema_reach_l2 l230 r257 l279 l283 k_sema_reach_l1 (r257.1.length+1)
def sema_reach_l1 (fu:Nat):Nat→(List (Option TDef))→(List (List UInt8))→(List (List UInt8))→Option TSemaUses
 | 0,_,_,_=>none
 | n+1,l120,l124,l128 =>
  if (0:Int)<(l120.length:Int) then
   (at_ l120 0).bind fun x214 =>
   (cut l120 1 l120.length).bind fun l230 =>
   (x214).bind fun x241 =>
   ((SemaV_run fu).uses_stats ([]:List (List UInt8)) ([]:List (List UInt8)) ([]:List (List UInt8)) x241.Body).bind fun r257 =>
   (app l124 r257.2.1).bind fun l292 =>
   (app l128 r257.2.2).bind fun l304 =>
   sema_reach_j1 l230 r257 (sema_reach_l1 fu n) r257.2.1 r257.2.2 l292 l304
  else
   some (TSemaUses.mk ([]:List (List UInt8)) l124 l128)
def sema_reach (fu:Nat)  (p_1:TSemaProgram) (p_2:TDef):Option TSemaUses :=
 sema_reach_l1 fu fu ([(some p_2)]:List (Option TDef)) [] []
def sema_owners_j1 (i88:Int) (k_sema_owners_l1:Int→(List (List UInt8×TSemaUses))→Option (List TOwner×TFault)) (l176:List (List UInt8×TSemaUses)):Option (List TOwner×TFault) :=
 (i64 (i88+1)).bind fun i223 =>
 k_sema_owners_l1 i223 l176
def sema_owners_j3 (i717:Int) (s825:List UInt8) (k_sema_owners_l3:Int→(List UInt8)→(List UInt8)→Option (List TOwner×TFault)) (s832:List UInt8):Option (List TOwner×TFault) :=
 (i64 (i717+1)).bind fun i839 =>
 k_sema_owners_l3 i839 s825 s832
def sema_owners_j2 (l91:List (List UInt8×TSemaUses)) (x640:TDef) (i717:Int) (s719:List UInt8) (x778:TDef) (k_sema_owners_l3:Int→(List UInt8)→(List UInt8)→Option (List TOwner×TFault)) (s825:List UInt8):Option (List TOwner×TFault) :=
 if (((mget l91 x778.Name).getD (TSemaUses.mk ([]:List (List UInt8)) ([]:List (List UInt8)) ([]:List (List UInt8)))).recvs).contains x640.Name=true then
  if s719≠[] then
   none
  else
   sema_owners_j3 i717 s825 k_sema_owners_l3 x778.Name
 else
  sema_owners_j3 i717 s825 k_sema_owners_l3 s719
def sema_owners_l3 (p_1:List TDef) (l91:List (List UInt8×TSemaUses)) (i430:Int) (l433:List TOwner) (x640:TDef) (k_sema_owners_l2:Int→(List TOwner)→Option (List TOwner×TFault)):Nat→Int→(List UInt8)→(List UInt8)→Option (List TOwner×TFault)
 | 0,_,_,_=>none
 | n+1,i717,s718,s719 =>
  if i717<(p_1.length:Int) then
   (at_ p_1 i717).bind fun x778 =>
   if x778.Kind≠4 then
    (i64 (i717+1)).bind fun i795 =>
    sema_owners_l3 p_1 l91 i430 l433 x640 k_sema_owners_l2 n i795 s718 s719
   else
    if (((mget l91 x778.Name).getD (TSemaUses.mk ([]:List (List UInt8)) ([]:List (List UInt8)) ([]:List (List UInt8)))).sends).contains x640.Name=true then
     if s718≠[] then
      none
     else
      sema_owners_j2 l91 x640 i717 s719 x778 (sema_owners_l3 p_1 l91 i430 l433 x640 k_sema_owners_l2 n) x778.Name
    else
     sema_owners_j2 l91 x640 i717 s719 x778 (sema_owners_l3 p_1 l91 i430 l433 x640 k_sema_owners_l2 n) s718
  else
   (app l433 [(TOwner.mk x640.Name s718 s719)]).bind fun l845 =>
   (i64 (i430+1)).bind fun i848 =>
   k_sema_owners_l2 i848 l845
def sema_owners_l2 (p_1:List TDef) (l91:List (List UInt8×TSemaUses)):Nat→Int→(List TOwner)→Option (List TOwner×TFault)
 | 0,_,_=>none
 | n+1,i430,l433 =>
  if i430<(p_1.length:Int) then
   (at_ p_1 i430).bind fun x640 =>
   if x640.Kind≠1 then
    (i64 (i430+1)).bind fun i657 =>
    sema_owners_l2 p_1 l91 n i657 l433
   else
    sema_owners_l3 p_1 l91 i430 l433 x640 (sema_owners_l2 p_1 l91 n) (p_1.length+1) 0 [] []
  else
   some (l433,(TFault.mk 0 0))
def sema_owners_l1 (fu:Nat) (p_1:List TDef) (r9:TSemaProgram×TFault):Nat→Int→(List (List UInt8×TSemaUses))→Option (List TOwner×TFault)
 | 0,_,_=>none
 | n+1,i88,l91 =>
  if i88<(p_1.length:Int) then
   (at_ p_1 i88).bind fun x159 =>
   if x159.Kind=4 then
    (at_ p_1 i88).bind fun x178 =>
    (at_ p_1 i88).bind fun x192 =>
    (sema_reach fu r9.1 x192).bind fun r206 =>
    sema_owners_j1 i88 (sema_owners_l1 fu p_1 r9 n) (mput l91 x178.Name r206)
   else
    (i64 (i88+1)).bind fun i225 =>
    sema_owners_l1 fu p_1 r9 n i225 l91
  else
   sema_owners_l2 p_1 l91 (p_1.length+1) 0 []
def sema_owners (fu:Nat)  (p_1:List TDef):Option (List TOwner×TFault) :=
 (sema_named fu p_1).bind fun r9 =>
 if r9.2.Err≠0 then
  none
 else
  sema_owners_l1 fu p_1 r9 (p_1.length+1) 0 ([]:List (List UInt8×TSemaUses))
def sema_check (fu:Nat)  (p_1:List TDef):Option TFault :=
 (sema_owners fu p_1).bind fun r6 =>
 some r6.2
end Go.Y
namespace Go.Y
open Go.Wk Go.Xt
def gen_typ  (p_1:TGenTable) (p_2:TType):Option Int :=
 if p_2.Kind=3 then
  none
 else
  some p_2.Kind
def gen_typo  (boxe_2:List (List UInt8×Int)) (unit_7:List (List UInt8×Int)) (defs_12:List (List UInt8×TDef)) (p_2:TType):Option Int :=
 if p_2.Kind=3 then
  none
 else
  some p_2.Kind
def gen_put  (tabl_2:TGenTable) (kind_12:Int) (para_13:Int) (loca_14:List Int) (resu_18:Int) (take_19:Int) (code_20:List TInstr) (bloc_24:List (List (List UInt8×Int))) (p_2:Int) (p_3:Int) (p_4:Int):Option (Int×Int×Int×List Int×Int×Int×List TInstr×List (List (List UInt8×Int))) :=
 (app code_20 [(TInstr.mk p_2 p_3 p_4)]).bind fun l41 =>
 (i64 ((l41.length:Int) - 1)).bind fun i44 =>
 some (i44,kind_12,para_13,loca_14,resu_18,take_19,l41,bloc_24)
def gen_here  (tabl_2:TGenTable) (kind_12:Int) (para_13:Int) (loca_14:List Int) (resu_18:Int) (take_19:Int) (code_20:List TInstr) (bloc_24:List (List (List UInt8×Int))):Option Int :=
 some (code_20.length:Int)
def gen_local  (tabl_2:TGenTable) (kind_12:Int) (para_13:Int) (loca_14:List Int) (resu_18:Int) (take_19:Int) (code_20:List TInstr) (bloc_24:List (List (List UInt8×Int))) (p_2:List UInt8) (p_3:Int):Option (Int×Int×Int×List Int×Int×Int×List TInstr×List (List (List UInt8×Int))) :=
 (app loca_14 [p_3]).bind fun l41 =>
 (i64 ((l41.length:Int) - 1)).bind fun i44 =>
 (i64 ((bloc_24.length:Int) - 1)).bind fun i46 =>
 (at_ bloc_24 i46).bind fun x48 =>
 some (i44,kind_12,para_13,l41,resu_18,take_19,code_20,(bloc_24.set i46.toNat (mput x48 p_2 i44)))
def gen_look_l1 (p_2:List UInt8) (bloc_24:List (List (List UInt8×Int))):Nat→Int→Option Int
 | 0,_=>none
 | n+1,i45 =>
  if (0:Int)≤i45 then
   (at_ bloc_24 i45).bind fun x63 =>
   if (mget x63 p_2).isSome=true then
    some ((mget x63 p_2).getD 0)
   else
    (i64 (i45 - 1)).bind fun i77 =>
    gen_look_l1 p_2 bloc_24 n i77
  else
   none
def gen_look (fu:Nat)  (tabl_2:TGenTable) (kind_12:Int) (para_13:Int) (loca_14:List Int) (resu_18:Int) (take_19:Int) (code_20:List TInstr) (bloc_24:List (List (List UInt8×Int))) (p_2:List UInt8):Option Int :=
 (i64 ((bloc_24.length:Int) - 1)).bind fun i28 =>
 gen_look_l1 p_2 bloc_24 fu i28
structure GenE where
 gen_expr:TGenTable→Int→Int→(List Int)→Int→Int→(List TInstr)→(List (List (List UInt8×Int)))→TExpr→Option (Int×Int×Int×List Int×Int×Int×List TInstr×List (List (List UInt8×Int)))
def gen_expr_j1 (r252:Int×Int×Int×List Int×Int×Int×List TInstr×List (List (List UInt8×Int))) (i264:Int):Option (Int×Int×Int×List Int×Int×Int×List TInstr×List (List (List UInt8×Int))) :=
 some (i264,r252.2.1,r252.2.2.1,r252.2.2.2.1,r252.2.2.2.2.1,r252.2.2.2.2.2.1,r252.2.2.2.2.2.2.1,r252.2.2.2.2.2.2.2)
def gen_expr_l1 (fu:Nat) (self:GenE) (p_2:TExpr) (tabl_2:TGenTable):Nat→Int→Int→Int→Int→Int→(List Int)→(List TInstr)→(List (List (List UInt8×Int)))→(List Int)→Option (Int×Int×Int×List Int×Int×Int×List TInstr×List (List (List UInt8×Int)))
 | 0,_,_,_,_,_,_,_,_,_=>none
 | n+1,i76,i77,i78,i79,i80,l83,l87,l91,l95 =>
  if i76<(p_2.Kids.length:Int) then
   (at_ p_2.Kids i76).bind fun x135 =>
   (self.gen_expr tabl_2 i77 i78 l83 i79 i80 l87 l91 x135).bind fun r146 =>
   (app l95 [r146.1]).bind fun l162 =>
   (i64 (i76+1)).bind fun i165 =>
   gen_expr_l1 fu self p_2 tabl_2 n i165 r146.2.1 r146.2.2.1 r146.2.2.2.2.1 r146.2.2.2.2.2.1 r146.2.2.2.1 r146.2.2.2.2.2.2.1 r146.2.2.2.2.2.2.2 l162
  else
   if p_2.Kind=1 then
    (gen_put tabl_2 i77 i78 l83 i79 i80 l87 l91 1 0 p_2.N).bind fun r168 =>
    some (1,r168.2.1,r168.2.2.1,r168.2.2.2.1,r168.2.2.2.2.1,r168.2.2.2.2.2.1,r168.2.2.2.2.2.2.1,r168.2.2.2.2.2.2.2)
   else
    if p_2.Kind=2 then
     (gen_put tabl_2 i77 i78 l83 i79 i80 l87 l91 2 p_2.N 0).bind fun r181 =>
     some (2,r181.2.1,r181.2.2.1,r181.2.2.2.1,r181.2.2.2.2.1,r181.2.2.2.2.2.1,r181.2.2.2.2.2.2.1,r181.2.2.2.2.2.2.2)
    else
     if p_2.Kind=3 then
      (gen_look fu tabl_2 i77 i78 l83 i79 i80 l87 l91 p_2.Name).bind fun r194 =>
      (gen_put tabl_2 i77 i78 l83 i79 i80 l87 l91 3 r194 0).bind fun r197 =>
      (at_ r197.2.2.2.1 r194).bind fun x209 =>
      some (x209,r197.2.1,r197.2.2.1,r197.2.2.2.1,r197.2.2.2.2.1,r197.2.2.2.2.2.1,r197.2.2.2.2.2.2.1,r197.2.2.2.2.2.2.2)
     else
      if p_2.Kind=4 then
       none
      else
       if p_2.Kind=5 then
        none
       else
        if (6:Int)≤p_2.Kind then
         if p_2.Kind≤18 then
          (i64 (8+p_2.Kind)).bind fun i227 =>
          (i64 (i227 - 6)).bind fun i229 =>
          (gen_put tabl_2 i77 i78 l83 i79 i80 l87 l91 i229 0 0).bind fun r231 =>
          if p_2.Kind≤10 then
           some (1,r231.2.1,r231.2.2.1,r231.2.2.2.1,r231.2.2.2.2.1,r231.2.2.2.2.2.1,r231.2.2.2.2.2.2.1,r231.2.2.2.2.2.2.2)
          else
           some (2,r231.2.1,r231.2.2.1,r231.2.2.2.1,r231.2.2.2.2.1,r231.2.2.2.2.2.1,r231.2.2.2.2.2.2.1,r231.2.2.2.2.2.2.2)
         else
          if p_2.Kind=19 then
           none
          else
           if p_2.Kind=20 then
            (gen_put tabl_2 i77 i78 l83 i79 i80 l87 l91 27 ((mget tabl_2.boxes p_2.Name).getD 0) 0).bind fun r252 =>
            ((mget tabl_2.defs p_2.Name)).bind fun x271 =>
            (gen_typ tabl_2 x271.Typ).bind fun r284 =>
            gen_expr_j1 r252 r284
           else
            none
        else
         none
def gen_expr (fu:Nat) (self:GenE) (tabl_2:TGenTable) (kind_12:Int) (para_13:Int) (loca_14:List Int) (resu_18:Int) (take_19:Int) (code_20:List TInstr) (bloc_24:List (List (List UInt8×Int))) (p_2:TExpr):Option (Int×Int×Int×List Int×Int×Int×List TInstr×List (List (List UInt8×Int))) :=
 gen_expr_l1 fu self p_2 tabl_2 (p_2.Kids.length+1) 0 kind_12 para_13 resu_18 take_19 loca_14 code_20 bloc_24 []
def GenE_run:Nat→GenE
 | 0=>⟨fun _ _ _ _ _ _ _ _ _=>none⟩
 | n+1=>⟨gen_expr n (GenE_run n)⟩
structure GenS where
 gen_body:TGenTable→Int→Int→(List Int)→Int→Int→(List TInstr)→(List (List (List UInt8×Int)))→(List TStat)→Option (Int×Int×List Int×Int×Int×List TInstr×List (List (List UInt8×Int)))
 gen_stat:TGenTable→Int→Int→(List Int)→Int→Int→(List TInstr)→(List (List (List UInt8×Int)))→TStat→Option (Int×Int×List Int×Int×Int×List TInstr×List (List (List UInt8×Int)))
def gen_body_l1 (self:GenS) (p_2:List TStat) (tabl_2:TGenTable):Nat→Int→Int→Int→Int→Int→(List Int)→(List TInstr)→(List (List (List UInt8×Int)))→Option (Int×Int×List Int×Int×Int×List TInstr×List (List (List UInt8×Int)))
 | 0,_,_,_,_,_,_,_,_=>none
 | n+1,i81,i82,i83,i84,i85,l88,l92,l96 =>
  if i81<(p_2.length:Int) then
   (at_ p_2 i81).bind fun x134 =>
   (self.gen_stat tabl_2 i82 i83 l88 i84 i85 l92 l96 x134).bind fun r151 =>
   (i64 (i81+1)).bind fun i163 =>
   gen_body_l1 self p_2 tabl_2 n i163 r151.1 r151.2.1 r151.2.2.2.1 r151.2.2.2.2.1 r151.2.2.1 r151.2.2.2.2.2.1 r151.2.2.2.2.2.2
  else
   (i64 ((l96.length:Int) - 1)).bind fun i165 =>
   (cut l96 0 i165).bind fun l167 =>
   some (i82,i83,l88,i84,i85,l92,l167)
def gen_body (self:GenS) (tabl_2:TGenTable) (kind_12:Int) (para_13:Int) (loca_14:List Int) (resu_18:Int) (take_19:Int) (code_20:List TInstr) (bloc_24:List (List (List UInt8×Int))) (p_2:List TStat):Option (Int×Int×List Int×Int×Int×List TInstr×List (List (List UInt8×Int))) :=
 (app bloc_24 [[]]).bind fun l44 =>
 gen_body_l1 self p_2 tabl_2 (p_2.length+1) 0 kind_12 para_13 resu_18 take_19 loca_14 code_20 l44
def gen_stat_j2 (r122:Int×Int×List Int×Int×Int×List TInstr×List (List (List UInt8×Int))) (l136:List TInstr):Option (Int×Int×List Int×Int×Int×List TInstr×List (List (List UInt8×Int))) :=
 some (r122.1,r122.2.1,r122.2.2.1,r122.2.2.2.1,r122.2.2.2.2.1,l136,r122.2.2.2.2.2.2)
def gen_stat_j1 (self:GenS) (p_2:TStat) (tabl_2:TGenTable) (r86:Int×Int×Int×List Int×Int×Int×List TInstr×List (List (List UInt8×Int))) (l100:List TInstr):Option (Int×Int×List Int×Int×Int×List TInstr×List (List (List UInt8×Int))) :=
 (self.gen_body tabl_2 r86.2.1 r86.2.2.1 r86.2.2.2.1 r86.2.2.2.2.1 r86.2.2.2.2.2.1 l100 r86.2.2.2.2.2.2.2 p_2.Else).bind fun r122 =>
 (gen_here tabl_2 r122.1 r122.2.1 r122.2.2.1 r122.2.2.2.1 r122.2.2.2.2.1 r122.2.2.2.2.2.1 r122.2.2.2.2.2.2).bind fun r138 =>
 (at_ r122.2.2.2.2.2.1 r86.1).bind fun x141 =>
 gen_stat_j2 r122 (r122.2.2.2.2.2.1.set r86.1.toNat (TInstr.mk x141.Op r138 x141.N))
def gen_stat_j3 (r198:Int×Int×Int×List Int×Int×Int×List TInstr×List (List (List UInt8×Int))) (l212:List TInstr):Option (Int×Int×List Int×Int×Int×List TInstr×List (List (List UInt8×Int))) :=
 some (r198.2.1,r198.2.2.1,r198.2.2.2.1,r198.2.2.2.2.1,r198.2.2.2.2.2.1,l212,r198.2.2.2.2.2.2.2)
def gen_stat (fu:Nat) (self:GenS) (tabl_2:TGenTable) (kind_12:Int) (para_13:Int) (loca_14:List Int) (resu_18:Int) (take_19:Int) (code_20:List TInstr) (bloc_24:List (List (List UInt8×Int))) (p_2:TStat):Option (Int×Int×List Int×Int×Int×List TInstr×List (List (List UInt8×Int))) :=
 if p_2.Kind=3 then
  ((GenE_run fu).gen_expr tabl_2 kind_12 para_13 loca_14 resu_18 take_19 code_20 bloc_24 p_2.X).bind fun r50 =>
  (gen_put tabl_2 r50.2.1 r50.2.2.1 r50.2.2.2.1 r50.2.2.2.2.1 r50.2.2.2.2.2.1 r50.2.2.2.2.2.2.1 r50.2.2.2.2.2.2.2 22 0 0).bind fun r62 =>
  (self.gen_body tabl_2 r62.2.1 r62.2.2.1 r62.2.2.2.1 r62.2.2.2.2.1 r62.2.2.2.2.2.1 r62.2.2.2.2.2.2.1 r62.2.2.2.2.2.2.2 p_2.Body).bind fun r74 =>
  (gen_put tabl_2 r74.1 r74.2.1 r74.2.2.1 r74.2.2.2.1 r74.2.2.2.2.1 r74.2.2.2.2.2.1 r74.2.2.2.2.2.2 21 0 0).bind fun r86 =>
  (gen_here tabl_2 r86.2.1 r86.2.2.1 r86.2.2.2.1 r86.2.2.2.2.1 r86.2.2.2.2.2.1 r86.2.2.2.2.2.2.1 r86.2.2.2.2.2.2.2).bind fun r102 =>
  (at_ r86.2.2.2.2.2.2.1 r62.1).bind fun x105 =>
  gen_stat_j1 self p_2 tabl_2 r86 (r86.2.2.2.2.2.2.1.set r62.1.toNat (TInstr.mk x105.Op r102 x105.N))
 else
  if p_2.Kind=4 then
   (gen_here tabl_2 kind_12 para_13 loca_14 resu_18 take_19 code_20 bloc_24).bind fun r159 =>
   ((GenE_run fu).gen_expr tabl_2 kind_12 para_13 loca_14 resu_18 take_19 code_20 bloc_24 p_2.X).bind fun r162 =>
   (gen_put tabl_2 r162.2.1 r162.2.2.1 r162.2.2.2.1 r162.2.2.2.2.1 r162.2.2.2.2.2.1 r162.2.2.2.2.2.2.1 r162.2.2.2.2.2.2.2 22 0 0).bind fun r174 =>
   (self.gen_body tabl_2 r174.2.1 r174.2.2.1 r174.2.2.2.1 r174.2.2.2.2.1 r174.2.2.2.2.2.1 r174.2.2.2.2.2.2.1 r174.2.2.2.2.2.2.2 p_2.Body).bind fun r186 =>
   (gen_put tabl_2 r186.1 r186.2.1 r186.2.2.1 r186.2.2.2.1 r186.2.2.2.2.1 r186.2.2.2.2.2.1 r186.2.2.2.2.2.2 21 r159 0).bind fun r198 =>
   (gen_here tabl_2 r198.2.1 r198.2.2.1 r198.2.2.2.1 r198.2.2.2.2.1 r198.2.2.2.2.2.1 r198.2.2.2.2.2.2.1 r198.2.2.2.2.2.2.2).bind fun r214 =>
   (at_ r198.2.2.2.2.2.2.1 r174.1).bind fun x217 =>
   gen_stat_j3 r198 (r198.2.2.2.2.2.2.1.set r174.1.toNat (TInstr.mk x217.Op r214 x217.N))
  else
   if p_2.Kind=6 then
    none
   else
    ((GenE_run fu).gen_expr tabl_2 kind_12 para_13 loca_14 resu_18 take_19 code_20 bloc_24 p_2.X).bind fun r235 =>
    if p_2.Kind=1 then
     (gen_local tabl_2 r235.2.1 r235.2.2.1 r235.2.2.2.1 r235.2.2.2.2.1 r235.2.2.2.2.2.1 r235.2.2.2.2.2.2.1 r235.2.2.2.2.2.2.2 p_2.Name r235.1).bind fun r248 =>
     (gen_put tabl_2 r248.2.1 r248.2.2.1 r248.2.2.2.1 r248.2.2.2.2.1 r248.2.2.2.2.2.1 r248.2.2.2.2.2.2.1 r248.2.2.2.2.2.2.2 4 r248.1 0).bind fun r260 =>
     some (r260.2.1,r260.2.2.1,r260.2.2.2.1,r260.2.2.2.2.1,r260.2.2.2.2.2.1,r260.2.2.2.2.2.2.1,r260.2.2.2.2.2.2.2)
    else
     if p_2.Kind=2 then
      (gen_look fu tabl_2 r235.2.1 r235.2.2.1 r235.2.2.2.1 r235.2.2.2.2.1 r235.2.2.2.2.2.1 r235.2.2.2.2.2.2.1 r235.2.2.2.2.2.2.2 p_2.Name).bind fun r273 =>
      (gen_put tabl_2 r235.2.1 r235.2.2.1 r235.2.2.2.1 r235.2.2.2.2.1 r235.2.2.2.2.2.1 r235.2.2.2.2.2.2.1 r235.2.2.2.2.2.2.2 4 r273 0).bind fun r276 =>
      some (r276.2.1,r276.2.2.1,r276.2.2.2.1,r276.2.2.2.2.1,r276.2.2.2.2.2.1,r276.2.2.2.2.2.2.1,r276.2.2.2.2.2.2.2)
     else
      if p_2.Kind=5 then
       none
      else
       if p_2.Kind=7 then
        none
       else
        if p_2.Kind=8 then
         (gen_put tabl_2 r235.2.1 r235.2.2.1 r235.2.2.2.1 r235.2.2.2.2.1 r235.2.2.2.2.2.1 r235.2.2.2.2.2.2.1 r235.2.2.2.2.2.2.2 28 0 0).bind fun r291 =>
         some (r291.2.1,r291.2.2.1,r291.2.2.2.1,r291.2.2.2.2.1,r291.2.2.2.2.2.1,r291.2.2.2.2.2.2.1,r291.2.2.2.2.2.2.2)
        else
         none
def GenS_run:Nat→GenS
 | 0=>⟨fun _ _ _ _ _ _ _ _ _=>none,fun _ _ _ _ _ _ _ _ _=>none⟩
 | n+1=>⟨gen_body (GenS_run n),gen_stat n (GenS_run n)⟩
def gen_unit (fu:Nat)  (p_1:TGenTable) (p_2:TDef):Option TUnit :=
 if p_2.Kind≠4 then
  none
 else
  if p_2.Kind=3 then
   none
  else
   ((GenS_run fu).gen_body p_1 p_2.Kind 0 ([]:List Int) 0 0 ([]:List TInstr) [([]:List (List UInt8×Int))] p_2.Body).bind fun r40 =>
   if p_2.Kind≠2 then
    (gen_put p_1 r40.1 r40.2.1 r40.2.2.1 r40.2.2.2.1 r40.2.2.2.2.1 r40.2.2.2.2.2.1 r40.2.2.2.2.2.2 25 0 0).bind fun r53 =>
    some (TUnit.mk r53.2.1 r53.2.2.1 r53.2.2.2.1 r53.2.2.2.2.1 r53.2.2.2.2.2.1 r53.2.2.2.2.2.2.1)
   else
    none
def gen_compile_j2 (i162:Int) (l169:List (List UInt8×Int)) (l173:List (List UInt8×TDef)) (x316:TDef) (x330:TDef) (l364:List (List UInt8×Int)) (k_gen_compile_l1:Int→(List (List UInt8×Int))→(List (List UInt8×Int))→(List (List UInt8×TDef))→(List TBoxInfo)→Option (TModule×TFault)) (l387:List TBoxInfo):Option (TModule×TFault) :=
 (i64 (i162+1)).bind fun i429 =>
 k_gen_compile_l1 i429 l364 l169 (mput l173 x316.Name x330) l387
def gen_compile_j1 (p_1:List TDef) (i162:Int) (l169:List (List UInt8×Int)) (l173:List (List UInt8×TDef)) (l177:List TBoxInfo) (x316:TDef) (x330:TDef) (k_gen_compile_l1:Int→(List (List UInt8×Int))→(List (List UInt8×Int))→(List (List UInt8×TDef))→(List TBoxInfo)→Option (TModule×TFault)) (l364:List (List UInt8×Int)):Option (TModule×TFault) :=
 (at_ p_1 i162).bind fun x389 =>
 (at_ p_1 i162).bind fun x403 =>
 (gen_typo l364 l169 (mput l173 x316.Name x330) x389.Typ).bind fun r417 =>
 (app l177 [(TBoxInfo.mk r417 x403.Cap)]).bind fun l424 =>
 gen_compile_j2 i162 l169 l173 x316 x330 l364 k_gen_compile_l1 l424
def gen_compile_j3 (i162:Int) (l165:List (List UInt8×Int)) (l173:List (List UInt8×TDef)) (l177:List TBoxInfo) (x316:TDef) (x330:TDef) (k_gen_compile_l1:Int→(List (List UInt8×Int))→(List (List UInt8×Int))→(List (List UInt8×TDef))→(List TBoxInfo)→Option (TModule×TFault)) (l433:List (List UInt8×Int)):Option (TModule×TFault) :=
 (i64 (i162+1)).bind fun i454 =>
 k_gen_compile_l1 i454 l165 l433 (mput l173 x316.Name x330) l177
def gen_compile_l2 (fu:Nat) (p_1:List TDef) (l165:List (List UInt8×Int)) (l169:List (List UInt8×Int)) (l173:List (List UInt8×TDef)) (l177:List TBoxInfo):Nat→Int→(List TUnit)→Option (TModule×TFault)
 | 0,_,_=>none
 | n+1,i518,l521 =>
  if i518<(p_1.length:Int) then
   (at_ p_1 i518).bind fun x579 =>
   if x579.Kind=1 then
    (i64 (i518+1)).bind fun i594 =>
    gen_compile_l2 fu p_1 l165 l169 l173 l177 n i594 l521
   else
    (at_ p_1 i518).bind fun x596 =>
    (gen_unit fu (TGenTable.mk l165 l169 l173) x596).bind fun r610 =>
    if (200:Int)<(r610.Locals.length:Int) then
     none
    else
     if (4000:Int)<(r610.Code.length:Int) then
      none
     else
      (app l521 [r610]).bind fun l627 =>
      (i64 (i518+1)).bind fun i630 =>
      gen_compile_l2 fu p_1 l165 l169 l173 l177 n i630 l627
  else
   some ((TModule.mk l177 l521),(TFault.mk 0 0))
def gen_compile_l1 (fu:Nat) (p_1:List TDef):Nat→Int→(List (List UInt8×Int))→(List (List UInt8×Int))→(List (List UInt8×TDef))→(List TBoxInfo)→Option (TModule×TFault)
 | 0,_,_,_,_,_=>none
 | n+1,i162,l165,l169,l173,l177 =>
  if i162<(p_1.length:Int) then
   (at_ p_1 i162).bind fun x316 =>
   (at_ p_1 i162).bind fun x330 =>
   (at_ p_1 i162).bind fun x347 =>
   if x347.Kind=1 then
    (at_ p_1 i162).bind fun x366 =>
    gen_compile_j1 p_1 i162 l169 l173 l177 x316 x330 (gen_compile_l1 fu p_1 n) (mput l165 x366.Name (l165.length:Int))
   else
    (at_ p_1 i162).bind fun x435 =>
    gen_compile_j3 i162 l165 l173 l177 x316 x330 (gen_compile_l1 fu p_1 n) (mput l169 x435.Name (l169.length:Int))
  else
   gen_compile_l2 fu p_1 l165 l169 l173 l177 (p_1.length+1) 0 []
def gen_compile (fu:Nat)  (p_1:List TDef):Option (TModule×TFault) :=
 (sema_check fu p_1).bind fun r14 =>
 if r14.Err≠0 then
  none
 else
  gen_compile_l1 fu p_1 (p_1.length+1) 0 ([]:List (List UInt8×Int)) ([]:List (List UInt8×Int)) ([]:List (List UInt8×TDef)) []
end Go.Y
namespace Go.Y
open Go.Wk Go.Xt
def vf_plain  (p_1:Int):Option Bool :=
 if p_1=1 then
  some true
 else
  some (decide (p_1=2))
def vf_instr_j1  (b17:Bool):Option Int :=
 if b17=true then
  some 0
 else
  none
def vf_instr_j3 (p_1:TVerifyChecker) (p_2:TUnit) (p_3:TInstr) (b25:Bool):Option Int :=
 if b25=true then
  if (0:Int)≤p_3.A then
   vf_instr_j1 (decide (p_3.A<(p_2.Code.length:Int)))
  else
   none
 else
  if p_3.Op=23 then
   none
  else
   if p_3.Op=29 then
    none
   else
    if p_3.Op=26 then
     none
    else
     if p_3.Op=27 then
      if (0:Int)≤p_3.A then
       (p_1.m).bind fun x35 =>
       vf_instr_j1 (decide (p_3.A<(x35.Boxes.length:Int)))
      else
       none
     else
      if p_3.Op<1 then
       none
      else
       if (32:Int)<p_3.Op then
        none
       else
        vf_instr_j1 true
def vf_instr_j2 (p_1:TVerifyChecker) (p_2:TUnit) (p_3:TInstr) (b20:Bool):Option Int :=
 if b20=true then
  if (0:Int)≤p_3.A then
   vf_instr_j1 (decide (p_3.A<(p_2.Locals.length:Int)))
  else
   none
 else
  if p_3.Op=21 then
   vf_instr_j3 p_1 p_2 p_3 (decide (p_3.Op=21))
  else
   vf_instr_j3 p_1 p_2 p_3 (decide (p_3.Op=22))
def vf_instr  (p_1:TVerifyChecker) (p_2:TUnit) (p_3:TInstr):Option Int :=
 if p_3.Op=2 then
  if p_3.A=0 then
   none
  else
   vf_instr_j1 (decide (p_3.A=1))
 else
  if p_3.Op=3 then
   vf_instr_j2 p_1 p_2 p_3 (decide (p_3.Op=3))
  else
   vf_instr_j2 p_1 p_2 p_3 (decide (p_3.Op=4))
def idxf_i_l1 (p_1:List Int) (p_2:Int→Option Bool):Nat→Int→Option Int
 | 0,_=>none
 | n+1,i20 =>
  if i20<(p_1.length:Int) then
   (at_ p_1 i20).bind fun x37 =>
   (p_2 x37).bind fun b45 =>
   if b45=true then
    some i20
   else
    (i64 (i20+1)).bind fun i49 =>
    idxf_i_l1 p_1 p_2 n i49
  else
   some (-1)
def idxf_i  (p_1:List Int) (p_2:Int→Option Bool):Option Int :=
 idxf_i_l1 p_1 p_2 (p_1.length+1) 0
def conf_i  (p_1:List Int) (p_2:Int→Option Bool):Option Bool :=
 (idxf_i p_1 p_2).bind fun r7 =>
 some (decide ((0:Int)≤r7))
def idxf_n_l1 (p_1:List TInstr) (p_2:TInstr→Option Bool):Nat→Int→Option Int
 | 0,_=>none
 | n+1,i20 =>
  if i20<(p_1.length:Int) then
   (at_ p_1 i20).bind fun x37 =>
   (p_2 x37).bind fun b45 =>
   if b45=true then
    some i20
   else
    (i64 (i20+1)).bind fun i49 =>
    idxf_n_l1 p_1 p_2 n i49
  else
   some (-1)
def idxf_n  (p_1:List TInstr) (p_2:TInstr→Option Bool):Option Int :=
 idxf_n_l1 p_1 p_2 (p_1.length+1) 0
def conf_n  (p_1:List TInstr) (p_2:TInstr→Option Bool):Option Bool :=
 (idxf_n p_1 p_2).bind fun r7 =>
 some (decide ((0:Int)≤r7))
def vf_head1  (p_1:Int) (p_2:Option TVerifyChecker):Option Bool :=
 (vf_plain p_1).bind fun r6 =>
 if r6=true then
  some false
 else
  none
def vf_head  (p_1:TVerifyChecker) (p_2:TUnit):Option Int :=
 if p_2.Kind≠2 then
  if p_2.Kind≠3 then
   if p_2.Kind≠4 then
    none
   else
    if (200:Int)<(p_2.Locals.length:Int) then
     none
    else
     if p_2.Params<0 then
      none
     else
      if (6:Int)<p_2.Params then
       none
      else
       if (p_2.Locals.length:Int)<p_2.Params then
        none
       else
        if p_2.Kind=4 then
         if (0:Int)<p_2.Params then
          none
         else
          if (p_2.Code.length:Int)<1 then
           none
          else
           if (4000:Int)<(p_2.Code.length:Int) then
            none
           else
            if p_2.Kind≠4 then
             none
            else
             if p_2.Kind=3 then
              none
             else
              (conf_i p_2.Locals (fun x_=>vf_head1 x_ (some p_1))).bind fun r32 =>
              if r32=true then
               none
              else
               some 0
        else
         none
  else
   none
 else
  none
def vf_form_l3 (p_1:TVerifyChecker) (i143:Int) (i144:Int) (x214:TUnit) (k_vf_form_l2:Int→Int→Option TWhere):Nat→Int→Option TWhere
 | 0,_=>none
 | n+1,i247 =>
  if i247<(x214.Code.length:Int) then
   (at_ x214.Code i247).bind fun x265 =>
   (vf_instr p_1 x214 x265).bind fun r275 =>
   if r275≠0 then
    none
   else
    (i64 (i247+1)).bind fun i279 =>
    vf_form_l3 p_1 i143 i144 x214 k_vf_form_l2 n i279
  else
   if x214.Kind=4 then
    (i64 (i143+1)).bind fun i282 =>
    (i64 (i144+1)).bind fun i284 =>
    k_vf_form_l2 i282 i284
   else
    none
def vf_form_l2 (p_1:TVerifyChecker) (x8:TModule):Nat→Int→Int→Option TWhere
 | 0,_,_=>none
 | n+1,i143,i144 =>
  if i144<(x8.Units.length:Int) then
   (at_ x8.Units i144).bind fun x214 =>
   (vf_head p_1 x214).bind fun r228 =>
   if r228≠0 then
    none
   else
    vf_form_l3 p_1 i143 i144 x214 (vf_form_l2 p_1 x8 n) (x214.Code.length+1) 0
  else
   if i143=0 then
    none
   else
    some (TWhere.mk 0 0 0)
def vf_form_l1 (p_1:TVerifyChecker) (x8:TModule):Nat→Int→Option TWhere
 | 0,_=>none
 | n+1,i39 =>
  if i39<(x8.Boxes.length:Int) then
   (at_ x8.Boxes i39).bind fun x58 =>
   (vf_plain x58.Typ).bind fun r68 =>
   if r68=true then
    if x58.Cap<1 then
     none
    else
     if (20:Int)<x58.Cap then
      none
     else
      (i64 (i39+1)).bind fun i74 =>
      vf_form_l1 p_1 x8 n i74
   else
    none
  else
   vf_form_l2 p_1 x8 (x8.Units.length+1) 0 0
def vf_form  (p_1:TVerifyChecker):Option TWhere :=
 (p_1.m).bind fun x8 =>
 if (30:Int)<(x8.Boxes.length:Int) then
  none
 else
  if (30:Int)<(x8.Units.length:Int) then
   none
  else
   vf_form_l1 p_1 x8 (x8.Boxes.length+1) 0
end Go.Y
namespace Go.Y
open Go.Wk Go.Xt
def vf_copied_j1  (l19:List Int) (l23:List Bool):Option TVerifyShape :=
 some (TVerifyShape.mk l19 l23)
def vf_copied  (p_1:TVerifyShape):Option TVerifyShape :=
 (small p_1.stack).bind fun u25 =>
 (small p_1.has).bind fun u29 =>
 vf_copied_j1 p_1.stack p_1.has
def vf_copiedr_j1  (l19:List Int) (l23:List Bool):Option TVerifyShape :=
 some (TVerifyShape.mk l19 l23)
def vf_copiedr  (p_1:TVerifyShape):Option TVerifyShape :=
 (small p_1.stack).bind fun u25 =>
 (small p_1.has).bind fun u29 =>
 vf_copiedr_j1 p_1.stack p_1.has
def sl_equal_l1 (p_1:List Int):Nat→Option Bool
 | 0=>none
 | n+1 =>
  if (0:Int)<(p_1.length:Int) then
   none
  else
   some true
def sl_equal  (p_1:List Int) (p_2:List Int):Option Bool :=
 if (p_1.length:Int)≠(p_2.length:Int) then
  none
 else
  sl_equal_l1 p_1 (p_1.length+1)
def vf_push  (chec_2:TVerifyChecker) (u_8:TUnit) (at_18:List (Int×TVerifyShape)) (todo_23:List Int) (stac_27:List Int) (has_31:List Bool) (err_35:Int) (p_2:Int):Option (List (Int×TVerifyShape)×List Int×List Int×List Bool×Int) :=
 (app stac_27 [p_2]).bind fun l52 =>
 if (300:Int)<(l52.length:Int) then
  none
 else
  some (at_18,todo_23,l52,has_31,err_35)
def vf_pop  (chec_2:TVerifyChecker) (u_8:TUnit) (at_18:List (Int×TVerifyShape)) (todo_23:List Int) (stac_27:List Int) (has_31:List Bool) (err_35:Int):Option (Int×List (Int×TVerifyShape)×List Int×List Int×List Bool×Int) :=
 if (stac_27.length:Int)=0 then
  none
 else
  (i64 ((stac_27.length:Int) - 1)).bind fun i49 =>
  (at_ stac_27 i49).bind fun x51 =>
  (i64 ((stac_27.length:Int) - 1)).bind fun i65 =>
  (cut stac_27 0 i65).bind fun l67 =>
  some (x51,at_18,todo_23,l67,has_31,err_35)
def vf_want_l1 (chec_2:TVerifyChecker) (p_2:List Int) (u_8:TUnit):Nat→Int→Int→(List (Int×TVerifyShape))→(List Int)→(List Int)→(List Bool)→Option (List (Int×TVerifyShape)×List Int×List Int×List Bool×Int)
 | 0,_,_,_,_,_,_=>none
 | n+1,i78,i79,l82,l86,l90,l94 =>
  if (0:Int)≤i78 then
   (vf_pop chec_2 u_8 l82 l86 l90 l94 i79).bind fun r127 =>
   (at_ p_2 i78).bind fun x142 =>
   if r127.1≠x142 then
    none
   else
    (i64 (i78 - 1)).bind fun i151 =>
    vf_want_l1 chec_2 p_2 u_8 n i151 r127.2.2.2.2.2 r127.2.1 r127.2.2.1 r127.2.2.2.1 r127.2.2.2.2.1
  else
   some (l82,l86,l90,l94,i79)
def vf_want (fu:Nat)  (chec_2:TVerifyChecker) (u_8:TUnit) (at_18:List (Int×TVerifyShape)) (todo_23:List Int) (stac_27:List Int) (has_31:List Bool) (err_35:Int) (p_2:List Int):Option (List (Int×TVerifyShape)×List Int×List Int×List Bool×Int) :=
 (i64 ((p_2.length:Int) - 1)).bind fun i51 =>
 vf_want_l1 chec_2 p_2 u_8 fu i51 err_35 at_18 todo_23 stac_27 has_31
def vf_to_j1 (p_2:Int) (todo_23:List Int) (stac_27:List Int) (has_31:List Bool) (err_35:Int) (l65:List (Int×TVerifyShape)):Option (List (Int×TVerifyShape)×List Int×List Int×List Bool×Int) :=
 (app todo_23 [p_2]).bind fun l95 =>
 some (l65,l95,stac_27,has_31,err_35)
def vf_to_j2 (i128:Int) (k_vf_to_l1:Int→Option (List (Int×TVerifyShape)×List Int×List Int×List Bool×Int)) (b157:Bool):Option (List (Int×TVerifyShape)×List Int×List Int×List Bool×Int) :=
 if b157=true then
  none
 else
  (i64 (i128+1)).bind fun i183 =>
  k_vf_to_l1 i183
def vf_to_l1 (p_2:Int) (at_18:List (Int×TVerifyShape)) (todo_23:List Int) (stac_27:List Int) (has_31:List Bool) (err_35:Int):Nat→Int→Option (List (Int×TVerifyShape)×List Int×List Int×List Bool×Int)
 | 0,_=>none
 | n+1,i128 =>
  if i128<((((mget at_18 p_2).getD (TVerifyShape.mk ([]:List Int) ([]:List Bool))).has).length:Int) then
   (at_ (((mget at_18 p_2).getD (TVerifyShape.mk ([]:List Int) ([]:List Bool))).has) i128).bind fun x158 =>
   if x158=true then
    (at_ has_31 i128).bind fun x167 =>
    vf_to_j2 i128 (vf_to_l1 p_2 at_18 todo_23 stac_27 has_31 err_35 n) (!x167)
   else
    vf_to_j2 i128 (vf_to_l1 p_2 at_18 todo_23 stac_27 has_31 err_35 n) false
  else
   some (at_18,todo_23,stac_27,has_31,err_35)
def vf_to  (chec_2:TVerifyChecker) (u_8:TUnit) (at_18:List (Int×TVerifyShape)) (todo_23:List Int) (stac_27:List Int) (has_31:List Bool) (err_35:Int) (p_2:Int):Option (List (Int×TVerifyShape)×List Int×List Int×List Bool×Int) :=
 if err_35≠0 then
  none
 else
  if p_2=(u_8.Code.length:Int) then
   none
  else
   if (mget at_18 p_2).isSome=true then
    (sl_equal (((mget at_18 p_2).getD (TVerifyShape.mk ([]:List Int) ([]:List Bool))).stack) stac_27).bind fun r98 =>
    if r98=true then
     vf_to_l1 p_2 at_18 todo_23 stac_27 has_31 err_35 ((((mget at_18 p_2).getD (TVerifyShape.mk ([]:List Int) ([]:List Bool))).has).length+1) 0
    else
     none
   else
    (vf_copiedr (TVerifyShape.mk stac_27 has_31)).bind fun r67 =>
    vf_to_j1 p_2 todo_23 stac_27 has_31 err_35 (mput at_18 p_2 r67)
def vf_done  (chec_2:TVerifyChecker) (u_8:TUnit) (at_18:List (Int×TVerifyShape)) (todo_23:List Int) (stac_27:List Int) (has_31:List Bool) (err_35:Int):Option (Bool×List (Int×TVerifyShape)×List Int×List Int×List Bool×Int) :=
 if (0:Int)<(stac_27.length:Int) then
  none
 else
  some (false,at_18,todo_23,stac_27,has_31,err_35)
def vf_special_j1  (i50:Int) (l53:List (Int×TVerifyShape)) (l57:List Int) (l61:List Int) (l65:List Bool):Option (Bool×List (Int×TVerifyShape)×List Int×List Int×List Bool×Int) :=
 some (true,l53,l57,l61,l65,i50)
def vf_special  (chec_2:TVerifyChecker) (u_8:TUnit) (at_18:List (Int×TVerifyShape)) (todo_23:List Int) (stac_27:List Int) (has_31:List Bool) (err_35:Int) (p_2:TInstr):Option (Bool×List (Int×TVerifyShape)×List Int×List Int×List Bool×Int) :=
 if p_2.Op=23 then
  none
 else
  if p_2.Op=29 then
   none
  else
   if p_2.Op=24 then
    none
   else
    if p_2.Op=25 then
     if u_8.Kind=2 then
      none
     else
      (vf_done chec_2 u_8 at_18 todo_23 stac_27 has_31 err_35).bind fun r72 =>
      some (r72.1,r72.2.1,r72.2.2.1,r72.2.2.2.1,r72.2.2.2.2.1,r72.2.2.2.2.2)
    else
     if p_2.Op=26 then
      none
     else
      if p_2.Op=27 then
       (chec_2.m).bind fun x89 =>
       (at_ x89.Boxes p_2.A).bind fun x102 =>
       (vf_push chec_2 u_8 at_18 todo_23 stac_27 has_31 err_35 x102.Typ).bind fun r110 =>
       vf_special_j1 r110.2.2.2.2 r110.1 r110.2.1 r110.2.2.1 r110.2.2.2.1
      else
       if p_2.Op=28 then
        (vf_pop chec_2 u_8 at_18 todo_23 stac_27 has_31 err_35).bind fun r126 =>
        if r126.2.2.2.2.2=0 then
         (vf_plain r126.1).bind fun r142 =>
         if r142=true then
          vf_special_j1 r126.2.2.2.2.2 r126.2.1 r126.2.2.1 r126.2.2.2.1 r126.2.2.2.2.1
         else
          none
        else
         none
       else
        none
def vf_step_j1  (i50:Int) (l53:List (Int×TVerifyShape)) (l57:List Int) (l61:List Int) (l65:List Bool):Option (Bool×List (Int×TVerifyShape)×List Int×List Int×List Bool×Int) :=
 some (true,l53,l57,l61,l65,i50)
def vf_step_j2 (fu:Nat) (chec_2:TVerifyChecker) (p_2:TInstr) (u_8:TUnit) (at_18:List (Int×TVerifyShape)) (todo_23:List Int) (stac_27:List Int) (has_31:List Bool) (err_35:Int) (b220:Bool):Option (Bool×List (Int×TVerifyShape)×List Int×List Int×List Bool×Int) :=
 if b220=true then
  (vf_pop chec_2 u_8 at_18 todo_23 stac_27 has_31 err_35).bind fun r224 =>
  if r224.1≠1 then
   none
  else
   (vf_want fu chec_2 u_8 r224.2.1 r224.2.2.1 r224.2.2.2.1 r224.2.2.2.2.1 r224.2.2.2.2.2 [r224.1]).bind fun r244 =>
   (vf_push chec_2 u_8 r244.1 r244.2.1 r244.2.2.1 r244.2.2.2.1 r244.2.2.2.2 2).bind fun r259 =>
   vf_step_j1 r259.2.2.2.2 r259.1 r259.2.1 r259.2.2.1 r259.2.2.2.1
 else
  if (15:Int)≤p_2.Op then
   if p_2.Op≤18 then
    (vf_want fu chec_2 u_8 at_18 todo_23 stac_27 has_31 err_35 [1,1]).bind fun r280 =>
    (vf_push chec_2 u_8 r280.1 r280.2.1 r280.2.2.1 r280.2.2.2.1 r280.2.2.2.2 2).bind fun r295 =>
    vf_step_j1 r295.2.2.2.2 r295.1 r295.2.1 r295.2.2.1 r295.2.2.2.1
   else
    if p_2.Op=19 then
     none
    else
     if p_2.Op=20 then
      none
     else
      if p_2.Op=21 then
       (vf_to chec_2 u_8 at_18 todo_23 stac_27 has_31 err_35 p_2.A).bind fun r313 =>
       some (false,r313.1,r313.2.1,r313.2.2.1,r313.2.2.2.1,r313.2.2.2.2)
      else
       if p_2.Op=22 then
        (vf_want fu chec_2 u_8 at_18 todo_23 stac_27 has_31 err_35 [2]).bind fun r333 =>
        (vf_to chec_2 u_8 r333.1 r333.2.1 r333.2.2.1 r333.2.2.2.1 r333.2.2.2.2 p_2.A).bind fun r348 =>
        vf_step_j1 r348.2.2.2.2 r348.1 r348.2.1 r348.2.2.1 r348.2.2.2.1
       else
        (vf_special chec_2 u_8 at_18 todo_23 stac_27 has_31 err_35 p_2).bind fun r363 =>
        some (r363.1,r363.2.1,r363.2.2.1,r363.2.2.2.1,r363.2.2.2.2.1,r363.2.2.2.2.2)
  else
   none
def vf_step (fu:Nat)  (chec_2:TVerifyChecker) (u_8:TUnit) (at_18:List (Int×TVerifyShape)) (todo_23:List Int) (stac_27:List Int) (has_31:List Bool) (err_35:Int) (p_2:TInstr):Option (Bool×List (Int×TVerifyShape)×List Int×List Int×List Bool×Int) :=
 if p_2.Op=1 then
  (vf_push chec_2 u_8 at_18 todo_23 stac_27 has_31 err_35 1).bind fun r68 =>
  vf_step_j1 r68.2.2.2.2 r68.1 r68.2.1 r68.2.2.1 r68.2.2.2.1
 else
  if p_2.Op=2 then
   (vf_push chec_2 u_8 at_18 todo_23 stac_27 has_31 err_35 2).bind fun r84 =>
   vf_step_j1 r84.2.2.2.2 r84.1 r84.2.1 r84.2.2.1 r84.2.2.2.1
  else
   if p_2.Op=3 then
    (at_ has_31 p_2.A).bind fun x100 =>
    if x100=true then
     (at_ u_8.Locals p_2.A).bind fun x115 =>
     (vf_push chec_2 u_8 at_18 todo_23 stac_27 has_31 err_35 x115).bind fun r123 =>
     vf_step_j1 r123.2.2.2.2 r123.1 r123.2.1 r123.2.2.1 r123.2.2.2.1
    else
     none
   else
    if p_2.Op=4 then
     (at_ u_8.Locals p_2.A).bind fun x139 =>
     (vf_want fu chec_2 u_8 at_18 todo_23 stac_27 has_31 err_35 [x139]).bind fun r151 =>
     (at_ r151.2.2.2.1 p_2.A).bind fun x166 =>
     vf_step_j1 r151.2.2.2.2 r151.1 r151.2.1 r151.2.2.1 (r151.2.2.2.1.set p_2.A.toNat true)
    else
     if p_2.Op=5 then
      none
     else
      if p_2.Op=6 then
       none
      else
       if p_2.Op=7 then
        none
       else
        if (8:Int)≤p_2.Op then
         if p_2.Op≤12 then
          (vf_want fu chec_2 u_8 at_18 todo_23 stac_27 has_31 err_35 [1,1]).bind fun r190 =>
          (vf_push chec_2 u_8 r190.1 r190.2.1 r190.2.2.1 r190.2.2.2.1 r190.2.2.2.2 1).bind fun r205 =>
          vf_step_j1 r205.2.2.2.2 r205.1 r205.2.1 r205.2.2.1 r205.2.2.2.1
         else
          if p_2.Op=13 then
           vf_step_j2 fu chec_2 p_2 u_8 at_18 todo_23 stac_27 has_31 err_35 true
          else
           vf_step_j2 fu chec_2 p_2 u_8 at_18 todo_23 stac_27 has_31 err_35 (decide (p_2.Op=14))
        else
         none
def vf_code_j1 (k_vf_code_l2:(List (Int×TVerifyShape))→Int→(List Bool)→(List Int)→(List Int)→Option TWhere) (l350:List (Int×TVerifyShape)) (i352:Int) (l355:List Bool) (l359:List Int) (l363:List Int):Option TWhere :=
 if i352≠0 then
  none
 else
  k_vf_code_l2 l350 i352 l355 l359 l363
def vf_code_l2 (fu:Nat) (p_1:TVerifyChecker) (x21:TUnit):Nat→(List (Int×TVerifyShape))→Int→(List Bool)→(List Int)→(List Int)→Option TWhere
 | 0,_,_,_,_,_=>none
 | n+1,l163,i165,l168,l172,l176 =>
  if (0:Int)<(l172.length:Int) then
   (at_ l172 0).bind fun x283 =>
   (cut l172 1 l172.length).bind fun l297 =>
   (vf_copied ((mget l163 x283).getD (TVerifyShape.mk ([]:List Int) ([]:List Bool)))).bind fun r316 =>
   (at_ x21.Code x283).bind fun x325 =>
   (vf_step fu p_1 x21 l163 l297 r316.stack r316.has i165 x325).bind fun r333 =>
   if r333.1=true then
    (i64 (x283+1)).bind fun i366 =>
    (vf_to p_1 x21 r333.2.1 r333.2.2.1 r333.2.2.2.1 r333.2.2.2.2.1 r333.2.2.2.2.2 i366).bind fun r368 =>
    vf_code_j1 (vf_code_l2 fu p_1 x21 n) r368.1 r368.2.2.2.2 r368.2.2.2.1 r368.2.1 r368.2.2.1
   else
    vf_code_j1 (vf_code_l2 fu p_1 x21 n) r333.2.1 r333.2.2.2.2.2 r333.2.2.2.2.1 r333.2.2.1 r333.2.2.2.1
  else
   some (TWhere.mk 0 0 0)
def vf_code_l1 (fu:Nat) (p_1:TVerifyChecker) (x21:TUnit) (k39:Nat):Nat→Option TWhere
 | 0=>none
 | n+1 =>
  if (0:Int)<x21.Params then
   none
  else
   (vf_to p_1 x21 ([]:List (Int×TVerifyShape)) ([]:List Int) ([]:List Int) (List.replicate k39 (false:Bool)) 0 0).bind fun r47 =>
   vf_code_l2 fu p_1 x21 fu r47.1 r47.2.2.2.2 r47.2.2.2.1 r47.2.1 r47.2.2.1
def vf_code (fu:Nat)  (p_1:TVerifyChecker) (p_2:Int):Option TWhere :=
 (p_1.m).bind fun x8 =>
 (at_ x8.Units p_2).bind fun x21 =>
 (mks (x21.Locals.length:Int)).bind fun k39 =>
 vf_code_l1 fu p_1 x21 k39 ((x21.Params - 0).toNat+1)
def vf_reach_l2 (i98:Int) (x214:TUnit) (k_vf_reach_l1:Int→Option (List Int)):Nat→Int→Option (List Int)
 | 0,_=>none
 | n+1,i242 =>
  if i242<(x214.Code.length:Int) then
   (at_ x214.Code i242).bind fun x259 =>
   if x259.Op=23 then
    none
   else
    if x259.Op=29 then
     none
    else
     (i64 (i242+1)).bind fun i271 =>
     vf_reach_l2 i98 x214 k_vf_reach_l1 n i271
  else
   (i64 (i98+1)).bind fun i273 =>
   k_vf_reach_l1 i273
def vf_reach_l1 (p_1:TVerifyChecker) (p_2:Int):Nat→Int→Option (List Int)
 | 0,_=>none
 | n+1,i98 =>
  if i98<(([p_2]:List Int).length:Int) then
   (at_ ([p_2]:List Int) i98).bind fun x187 =>
   (p_1.m).bind fun x201 =>
   (at_ x201.Units x187).bind fun x214 =>
   vf_reach_l2 i98 x214 (vf_reach_l1 p_1 p_2 n) (x214.Code.length+1) 0
  else
   some ([p_2]:List Int)
def vf_reach (fu:Nat)  (p_1:TVerifyChecker) (p_2:Int):Option (List Int) :=
 vf_reach_l1 p_1 p_2 fu 0
def vf_owned11  (p_1:TInstr) (p_2:Int) (p_3:Int):Option Bool :=
 if p_1.Op=p_2 then
  some (decide (p_1.A=p_3))
 else
  some false
def vf_owned1  (p_1:Int) (p_2:Option TVerifyChecker) (p_3:Int) (p_4:Int):Option Bool :=
 (p_2).bind fun x12 =>
 (x12.m).bind fun x21 =>
 (at_ x21.Units p_1).bind fun x34 =>
 (conf_n x34.Code (fun x_=>vf_owned11 x_ p_3 p_4)).bind fun r48 =>
 some r48
def vf_owned_l3 (fu:Nat) (p_1:TVerifyChecker) (x10:TModule) (i363:Int) (i821:Int) (x933:Int) (k_vf_owned_l2:Int→Option TWhere):Nat→Int→Int→Option TWhere
 | 0,_,_=>none
 | n+1,i976,i977 =>
  if i977<(x10.Units.length:Int) then
   (at_ x10.Units i977).bind fun x1011 =>
   if x1011.Kind=4 then
    (vf_reach fu p_1 i977).bind fun r1028 =>
    (conf_i r1028 (fun x_=>vf_owned1 x_ (some p_1) x933 i363)).bind fun r1034 =>
    if r1034=true then
     (i64 (i976+1)).bind fun i1038 =>
     (i64 (i977+1)).bind fun i1040 =>
     vf_owned_l3 fu p_1 x10 i363 i821 x933 k_vf_owned_l2 n i1038 i1040
    else
     (i64 (i977+1)).bind fun i1042 =>
     vf_owned_l3 fu p_1 x10 i363 i821 x933 k_vf_owned_l2 n i976 i1042
   else
    none
  else
   if (1:Int)<i976 then
    none
   else
    (i64 (i821+1)).bind fun i1045 =>
    k_vf_owned_l2 i1045
def vf_owned_l2 (fu:Nat) (p_1:TVerifyChecker) (x10:TModule) (i363:Int) (k_vf_owned_l1:Int→Option TWhere):Nat→Int→Option TWhere
 | 0,_=>none
 | n+1,i821 =>
  if i821<2 then
   (at_ [26,27] i821).bind fun x933 =>
   vf_owned_l3 fu p_1 x10 i363 i821 x933 (vf_owned_l2 fu p_1 x10 i363 k_vf_owned_l1 n) (x10.Units.length+1) 0 0
  else
   (i64 (i363+1)).bind fun i1047 =>
   k_vf_owned_l1 i1047
def vf_owned_l1 (fu:Nat) (p_1:TVerifyChecker) (x10:TModule):Nat→Int→Option TWhere
 | 0,_=>none
 | n+1,i363 =>
  if i363<(x10.Boxes.length:Int) then
   vf_owned_l2 fu p_1 x10 i363 (vf_owned_l1 fu p_1 x10 n) 3 0
  else
   some (TWhere.mk 0 0 0)
def vf_owned (fu:Nat)  (p_1:TVerifyChecker):Option TWhere :=
 (p_1.m).bind fun x10 =>
 vf_owned_l1 fu p_1 x10 (x10.Boxes.length+1) 0
def vf_verify_l1 (fu:Nat) (p_1:TModule):Nat→Int→Option TWhere
 | 0,_=>none
 | n+1,i30 =>
  if i30<(p_1.Units.length:Int) then
   (vf_code fu (TVerifyChecker.mk (some p_1)) i30).bind fun r40 =>
   if r40.Err≠0 then
    none
   else
    (i64 (i30+1)).bind fun i46 =>
    vf_verify_l1 fu p_1 n i46
  else
   (vf_owned fu (TVerifyChecker.mk (some p_1))).bind fun r48 =>
   some r48
def vf_verify (fu:Nat)  (p_1:TModule):Option TWhere :=
 (vf_form (TVerifyChecker.mk (some p_1))).bind fun r17 =>
 if r17.Err≠0 then
  none
 else
  vf_verify_l1 fu p_1 (p_1.Units.length+1) 0
end Go.Y
namespace Go.Y
open Go.Wk Go.Xt
def st_new  (p_1:Int) (p_2:Int):Option (List Int×Int×Int×Int) :=
 (mks p_1).bind fun k5 =>
 some ((List.replicate k5 (0:Int)),0,p_1,p_2)
def st_live  (live_3:Int):Option Int :=
 some live_3
def st_sized  (l_2:List Int) (live_6:Int) (min_7:Int) (most_8:Int) (p_2:Int):Option (List Int×Int×Int×Int) :=
 (mks p_2).bind fun k12 =>
 (cut l_2 0 live_6).bind fun l21 =>
 some ((cpy (List.replicate k12 (0:Int)) l21),live_6,min_7,most_8)
def st_push_j2 (p_2:Int) (i14:Int) (i15:Int) (i16:Int) (l19:List Int):Option (Bool×List Int×Int×Int×Int) :=
 (at_ l19 i14).bind fun x41 =>
 (i64 (i14+1)).bind fun i56 =>
 some (true,(l19.set i14.toNat p_2),i56,i15,i16)
def st_push_j3 (p_2:Int) (i22:Int) (i23:Int) (i24:Int) (l27:List Int):Option (Bool×List Int×Int×Int×Int) :=
 st_push_j2 p_2 i22 i23 i24 l27
def st_push_j1 (l_2:List Int) (p_2:Int) (live_6:Int) (min_7:Int) (most_8:Int) :Option (Bool×List Int×Int×Int×Int) :=
 if live_6=(l_2.length:Int) then
  (i64 (2*(l_2.length:Int))).bind fun i29 =>
  (st_sized l_2 live_6 min_7 most_8 (min i29 most_8)).bind fun r31 =>
  st_push_j3 p_2 r31.2.1 r31.2.2.1 r31.2.2.2 r31.1
 else
  st_push_j2 p_2 live_6 min_7 most_8 l_2
def st_push  (l_2:List Int) (live_6:Int) (min_7:Int) (most_8:Int) (p_2:Int):Option (Bool×List Int×Int×Int×Int) :=
 if live_6=most_8 then
  none
 else
  st_push_j1 l_2 p_2 live_6 min_7 most_8
def st_pop_j2  (i20:Int) (i21:Int) (i22:Int) (l25:List Int):Option (List Int×Int×Int×Int) :=
 some (l25,i20,i21,i22)
def st_pop_j1 (l_2:List Int) (min_7:Int) (most_8:Int) (i12:Int) (b14:Bool):Option (List Int×Int×Int×Int) :=
 if b14=true then
  (quo (l_2.length:Int) 2).bind fun i27 =>
  (st_sized l_2 i12 min_7 most_8 (max i27 min_7)).bind fun r29 =>
  st_pop_j2 r29.2.1 r29.2.2.1 r29.2.2.2 r29.1
 else
  some (l_2,i12,min_7,most_8)
def st_pop  (l_2:List Int) (live_6:Int) (min_7:Int) (most_8:Int) (p_2:Int):Option (List Int×Int×Int×Int) :=
 (i64 (live_6 - p_2)).bind fun i12 =>
 (quo (l_2.length:Int) 4).bind fun i15 =>
 if i12≤i15 then
  st_pop_j1 l_2 min_7 most_8 i12 (decide (min_7<(l_2.length:Int)))
 else
  st_pop_j1 l_2 min_7 most_8 i12 false
def vm_tell  (p_2:Int) (p_3:Int) (p_4:Int):Option Unit :=
 some ()
def vm_truth  (p_1:Bool):Option Int :=
 if p_1=true then
  some 1
 else
  some 0
def vm_two_j2 (p_1:Int) (p_2:Int) (p_3:Int) (b8:Bool):Option Int :=
 if b8=true then
  (vm_truth (decide (p_1=11))).bind fun r12 =>
  some (w64 (r12*p_2))
 else
  if p_1=11 then
   (quo p_2 p_3).bind fun i16 =>
   some i16
  else
   (remt p_2 p_3).bind fun i18 =>
   some i18
def vm_two_j1 (p_1:Int) (p_2:Int) (p_3:Int) (b4:Bool):Option Int :=
 if b4=true then
  if p_2=(-9223372036854775808) then
   vm_two_j2 p_1 p_2 p_3 (decide (p_3=(-1)))
  else
   vm_two_j2 p_1 p_2 p_3 false
 else
  if p_1=13 then
   (vm_truth (decide (p_2=p_3))).bind fun r21 =>
   some r21
  else
   if p_1=14 then
    (vm_truth (decide (p_2≠p_3))).bind fun r25 =>
    some r25
   else
    if p_1=15 then
     (vm_truth (decide (p_2<p_3))).bind fun r29 =>
     some r29
    else
     if p_1=16 then
      (vm_truth (decide (p_2≤p_3))).bind fun r33 =>
      some r33
     else
      if p_1=17 then
       (vm_truth (decide (p_3<p_2))).bind fun r37 =>
       some r37
      else
       none
def vm_two  (p_1:Int) (p_2:Int) (p_3:Int):Option Int :=
 if p_1=8 then
  some (w64 (p_2+p_3))
 else
  if p_1=9 then
   some (w64 (p_2 - p_3))
  else
   if p_1=10 then
    some (w64 (p_2*p_3))
   else
    if p_1=11 then
     vm_two_j1 p_1 p_2 p_3 (decide (p_1=11))
    else
     vm_two_j1 p_1 p_2 p_3 (decide (p_1=12))
def vm_tasks_l1 (p_1:TModule):Nat→Int→(List Int)→Option (List Int)
 | 0,_,_=>none
 | n+1,i43,l46 =>
  if i43<(p_1.Units.length:Int) then
   (at_ p_1.Units i43).bind fun x80 =>
   if x80.Kind=4 then
    (app l46 [i43]).bind fun l101 =>
    (i64 (i43+1)).bind fun i104 =>
    vm_tasks_l1 p_1 n i104 l101
   else
    (i64 (i43+1)).bind fun i106 =>
    vm_tasks_l1 p_1 n i106 l46
  else
   some l46
def vm_tasks  (p_1:TModule):Option (List Int) :=
 vm_tasks_l1 p_1 (p_1.Units.length+1) 0 []
end Go.Y
namespace Go.Y
open Go.Wk Go.Xt
structure TVmFrame where
 unit:Int
 pc:Int
 base:Int
 deriving DecidableEq,Inhabited,Repr
instance:Mo TVmFrame where
 sz:=3
 pos:=by decide
 cs μ l x:=l=[.int .i64 x.unit,.int .i64 x.pc,.int .i64 x.base]
 ln h:=by obtain rfl:=h; rfl
 up le h:=by exact h
 cv h:=by obtain rfl:=h; rfl
def ls_empty  (feed_2:List (List Int)) (took_6:List Int) (sent_10:List (List Int)) (p_2:Int):Option (Bool×List (List Int)×List Int×List (List Int)) :=
 (at_ feed_2 p_2).bind fun x23 =>
 (at_ took_6 p_2).bind fun x34 =>
 some (decide (x34=(x23.length:Int)),feed_2,took_6,sent_10)
def ls_take  (feed_2:List (List Int)) (took_6:List Int) (sent_10:List (List Int)) (p_2:Int):Option (Int×List (List Int)×List Int×List (List Int)) :=
 (at_ took_6 p_2).bind fun x23 =>
 (i64 (x23+1)).bind fun i37 =>
 (at_ took_6 p_2).bind fun x39 =>
 (at_ (took_6.set p_2.toNat i37) p_2).bind fun x54 =>
 (i64 (x54 - 1)).bind fun i68 =>
 (at_ feed_2 p_2).bind fun x70 =>
 (at_ x70 i68).bind fun x81 =>
 some (x81,feed_2,(took_6.set p_2.toNat i37),sent_10)
def vm_push  (stat_5:Int) (box_6:Int) (trap_7:Int) (l_14:List Int) (live_18:Int) (min_19:Int) (most_20:Int) (p_2:Int):Option (Int×Int×Int×List Int×Int×Int×Int) :=
 (st_push l_14 live_18 min_19 most_20 p_2).bind fun r24 =>
 if r24.1=true then
  some (stat_5,box_6,trap_7,r24.2.1,r24.2.2.1,r24.2.2.2.1,r24.2.2.2.2)
 else
  none
def vm_pop  (stat_5:Int) (box_6:Int) (trap_7:Int) (l_14:List Int) (live_18:Int) (min_19:Int) (most_20:Int):Option (Int×Int×Int×Int×List Int×Int×Int×Int) :=
 (st_live live_18).bind fun r24 =>
 (i64 (r24 - 1)).bind fun i27 =>
 (at_ l_14 i27).bind fun x29 =>
 (st_pop l_14 live_18 min_19 most_20 1).bind fun r44 =>
 some (x29,stat_5,box_6,trap_7,r44.1,r44.2.1,r44.2.2.1,r44.2.2.2)
def vm_waits_j1 (trap_7:Int) (i33:Int) (i34:Int) (l37:List (List Int)) (l41:List (List Int)) (l45:List Int):Option (Bool×Int×Int×Int×List (List Int)×List Int×List (List Int)) :=
 some (decide (i33≠1),i33,i34,trap_7,l37,l45,l41)
def vm_waits_j3 (p_2:TInstr) (trap_7:Int) (l51:List (List Int)) (l55:List (List Int)) (l59:List Int) :Option (Bool×Int×Int×Int×List (List Int)×List Int×List (List Int)) :=
 vm_waits_j1 trap_7 3 p_2.A l51 l55 l59
def vm_waits_j2 (p_2:TInstr) (trap_7:Int) (b48:Bool) (l51:List (List Int)) (l55:List (List Int)) (l59:List Int):Option (Bool×Int×Int×Int×List (List Int)×List Int×List (List Int)) :=
 if b48=true then
  vm_waits_j3 p_2 trap_7 l51 l55 l59
 else
  vm_waits_j1 trap_7 1 0 l51 l55 l59
def vm_waits  (stat_5:Int) (box_6:Int) (trap_7:Int) (feed_10:List (List Int)) (took_14:List Int) (sent_18:List (List Int)) (p_2:TInstr):Option (Bool×Int×Int×Int×List (List Int)×List Int×List (List Int)) :=
 if p_2.Op=26 then
  none
 else
  if p_2.Op=27 then
   (ls_empty feed_10 took_14 sent_18 p_2.A).bind fun r62 =>
   vm_waits_j2 p_2 trap_7 r62.1 r62.2.1 r62.2.2.2 r62.2.2.1
  else
   vm_waits_j2 p_2 trap_7 false feed_10 sent_18 took_14
def vm_look_j1 (m_2:TModule) (stat_13:Int) (box_14:Int) (trap_15:Int) (feed_18:List (List Int)) (took_22:List Int) (sent_26:List (List Int)) (fram_33:List TVmFrame) (i53:Int):Option (Int×Int×Int×List (List Int)×List Int×List (List Int)×List TVmFrame) :=
 (at_ fram_33 i53).bind fun x73 =>
 (at_ m_2.Units x73.unit).bind fun x87 =>
 (at_ x87.Code x73.pc).bind fun x101 =>
 (vm_waits stat_13 box_14 trap_15 feed_18 took_22 sent_26 x101).bind fun r109 =>
 some (r109.2.1,r109.2.2.1,r109.2.2.2.1,r109.2.2.2.2.1,r109.2.2.2.2.2.1,r109.2.2.2.2.2.2,fram_33)
def vm_look  (m_2:TModule) (stat_13:Int) (box_14:Int) (trap_15:Int) (feed_18:List (List Int)) (took_22:List Int) (sent_26:List (List Int)) (fram_33:List TVmFrame):Option (Int×Int×Int×List (List Int)×List Int×List (List Int)×List TVmFrame) :=
 if stat_13≤3 then
  (i64 ((fram_33.length:Int) - 1)).bind fun i55 =>
  (at_ fram_33 i55).bind fun x57 =>
  vm_look_j1 m_2 stat_13 box_14 trap_15 feed_18 took_22 sent_26 fram_33 i55
 else
  some (stat_13,box_14,trap_15,feed_18,took_22,sent_26,fram_33)
def vm_call_l1 (l65:List TVmFrame) (i68:Int):Nat→Int→Int→Int→Int→Int→Int→Int→(List Int)→Option (Int×Int×Int×List TVmFrame×List Int×Int×Int×Int)
 | 0,_,_,_,_,_,_,_,_=>none
 | n+1,i78,i79,i80,i81,i82,i83,i84,l87 =>
  if i78<i68 then
   (vm_push i79 i80 i81 l87 i82 i83 i84 0).bind fun r100 =>
   (i64 (i78+1)).bind fun i106 =>
   vm_call_l1 l65 i68 n i106 r100.1 r100.2.1 r100.2.2.1 r100.2.2.2.2.1 r100.2.2.2.2.2.1 r100.2.2.2.2.2.2 r100.2.2.2.1
  else
   some (i79,i80,i81,l65,l87,i82,i83,i84)
def vm_call_j1 (p_2:Int) (stat_14:Int) (box_15:Int) (trap_16:Int) (fram_21:List TVmFrame) (l_26:List Int) (live_30:Int) (min_31:Int) (most_32:Int) (x39:TUnit) (i53:Int):Option (Int×Int×Int×List TVmFrame×List Int×Int×Int×Int) :=
 if (fram_21.length:Int)=40 then
  none
 else
  (app fram_21 [(TVmFrame.mk p_2 0 i53)]).bind fun l65 =>
  (i64 ((x39.Locals.length:Int) - x39.Params)).bind fun i68 =>
  vm_call_l1 l65 i68 ((i68 - 0).toNat+1) 0 stat_14 box_15 trap_16 live_30 min_31 most_32 l_26
def vm_call  (m_2:TModule) (stat_14:Int) (box_15:Int) (trap_16:Int) (fram_21:List TVmFrame) (l_26:List Int) (live_30:Int) (min_31:Int) (most_32:Int) (p_2:Int):Option (Int×Int×Int×List TVmFrame×List Int×Int×Int×Int) :=
 (at_ m_2.Units p_2).bind fun x39 =>
 (st_live live_30).bind fun r54 =>
 (i64 (r54 - x39.Params)).bind fun i57 =>
 vm_call_j1 p_2 stat_14 box_15 trap_16 fram_21 l_26 live_30 min_31 most_32 x39 i57
def vm_end  (stat_5:Int) (box_6:Int) (trap_7:Int) (stat_10:Int) (l_13:List Int) (live_17:Int) (min_18:Int) (most_19:Int):Option (Int×Int×Int×Int×List Int×Int×Int×Int) :=
 (vm_tell 4 0 0).bind fun r23 =>
 some (4,box_6,trap_7,3,l_13,live_17,min_18,most_19)
def vm_units_j3 (stat_19:Int) (r51:Int×Int×Int×Int×List Int×Int×Int×Int) (l96:List TVmFrame) (i110:Int) (i111:Int) (i112:Int) (l115:List Int):Option (Int×Int×Int×Int×List TVmFrame×List Int×Int×Int×Int) :=
 (vm_push r51.2.1 r51.2.2.1 r51.2.2.2.1 l115 i110 i111 i112 r51.1).bind fun r130 =>
 some (r130.1,r130.2.1,r130.2.2.1,stat_19,l96,r130.2.2.2.1,r130.2.2.2.2.1,r130.2.2.2.2.2.1,r130.2.2.2.2.2.2)
def vm_units_j2 (stat_19:Int) (r51:Int×Int×Int×Int×List Int×Int×Int×Int) (i60:Int) (l96:List TVmFrame):Option (Int×Int×Int×Int×List TVmFrame×List Int×Int×Int×Int) :=
 (st_live r51.2.2.2.2.2.1).bind fun r117 =>
 (i64 (r117 - i60)).bind fun i120 =>
 (st_pop r51.2.2.2.2.1 r51.2.2.2.2.2.1 r51.2.2.2.2.2.2.1 r51.2.2.2.2.2.2.2 i120).bind fun r122 =>
 vm_units_j3 stat_19 r51 l96 r122.2.1 r122.2.2.1 r122.2.2.2 r122.1
def vm_units_j1 (stat_19:Int) (fram_20:List TVmFrame) (r51:Int×Int×Int×Int×List Int×Int×Int×Int) (i58:Int) (i59:Int) (i60:Int):Option (Int×Int×Int×Int×List TVmFrame×List Int×Int×Int×Int) :=
 (i64 ((fram_20.length:Int) - 1)).bind fun i98 =>
 (cut fram_20 0 i98).bind fun l100 =>
 vm_units_j2 stat_19 r51 i60 l100
def vm_units  (m_2:TModule) (stat_14:Int) (box_15:Int) (trap_16:Int) (stat_19:Int) (fram_20:List TVmFrame) (l_25:List Int) (live_29:Int) (min_30:Int) (most_31:Int) (p_2:TInstr):Option (Int×Int×Int×Int×List TVmFrame×List Int×Int×Int×Int) :=
 if p_2.Op=23 then
  (vm_call m_2 stat_14 box_15 trap_16 fram_20 l_25 live_29 min_30 most_31 p_2.A).bind fun r41 =>
  some (r41.1,r41.2.1,r41.2.2.1,stat_19,r41.2.2.2.1,r41.2.2.2.2.1,r41.2.2.2.2.2.1,r41.2.2.2.2.2.2.1,r41.2.2.2.2.2.2.2)
 else
  if p_2.Op=24 then
   (vm_pop stat_14 box_15 trap_16 l_25 live_29 min_30 most_31).bind fun r51 =>
   (i64 ((fram_20.length:Int) - 1)).bind fun i61 =>
   (at_ fram_20 i61).bind fun x63 =>
   vm_units_j1 stat_19 fram_20 r51 x63.unit x63.pc x63.base
  else
   if p_2.Op=25 then
    (vm_end stat_14 box_15 trap_16 stat_19 l_25 live_29 min_30 most_31).bind fun r137 =>
    some (r137.1,r137.2.1,r137.2.2.1,r137.2.2.2.1,fram_20,r137.2.2.2.2.1,r137.2.2.2.2.2.1,r137.2.2.2.2.2.2.1,r137.2.2.2.2.2.2.2)
   else
    none
end Go.Y
namespace Go.Y
open Go.Wk Go.Xt
def vm_step_j2 (m_2:TModule) (i144:Int) (i145:Int) (i146:Int) (l149:List Int) (l153:List (List Int)) (l157:List (List Int)) (l161:List Int) (i163:Int) (l166:List TVmFrame) (i168:Int) (i169:Int) (i170:Int) (l173:List Int):Option (Bool×Int×Int×Int×List Int×List (List Int)×List Int×List (List Int)×Int×List TVmFrame×List Int×Int×Int×Int) :=
 (vm_look m_2 i144 i145 i146 l153 l161 l157 l166).bind fun r354 =>
 some (true,r354.1,r354.2.1,r354.2.2.1,l149,r354.2.2.2.1,r354.2.2.2.2.1,r354.2.2.2.2.2.1,i163,r354.2.2.2.2.2.2,l173,i168,i169,i170)
def vm_step_j3 (m_2:TModule) (out_16:List Int) (stat_34:Int) (r65:Int×Int×Int×List (List Int)×List Int×List (List Int)×List TVmFrame) (i83:Int) (x103:TVmFrame) (i141:Int) (i190:Int) (i191:Int) (i192:Int) (i193:Int) (i194:Int) (i195:Int) (l198:List Int):Option (Bool×Int×Int×Int×List Int×List (List Int)×List Int×List (List Int)×Int×List TVmFrame×List Int×Int×Int×Int) :=
 vm_step_j2 m_2 i190 i191 i192 out_16 r65.2.2.2.1 r65.2.2.2.2.2.1 r65.2.2.2.2.1 stat_34 (r65.2.2.2.2.2.2.set i83.toNat (TVmFrame.mk x103.unit i141 x103.base)) i193 i194 i195 l198
def vm_step_j4 (m_2:TModule) (out_16:List Int) (stat_34:Int) (r65:Int×Int×Int×List (List Int)×List Int×List (List Int)×List TVmFrame) (i83:Int) (x103:TVmFrame) (i141:Int) (r226:Int×Int×Int×Int×List Int×Int×Int×Int) (l234:List Int):Option (Bool×Int×Int×Int×List Int×List (List Int)×List Int×List (List Int)×Int×List TVmFrame×List Int×Int×Int×Int) :=
 vm_step_j2 m_2 r226.2.1 r226.2.2.1 r226.2.2.2.1 out_16 r65.2.2.2.1 r65.2.2.2.2.2.1 r65.2.2.2.2.1 stat_34 (r65.2.2.2.2.2.2.set i83.toNat (TVmFrame.mk x103.unit i141 x103.base)) r226.2.2.2.2.2.1 r226.2.2.2.2.2.2.1 r226.2.2.2.2.2.2.2 l234
def vm_step_j5 (m_2:TModule) (out_16:List Int) (stat_34:Int) (r65:Int×Int×Int×List (List Int)×List Int×List (List Int)×List TVmFrame) (i83:Int) (x103:TVmFrame) (x131:TInstr) (i141:Int) (r261:Int×Int×Int×Int×List Int×Int×Int×Int) (r267:Int×Int×Int×Int×List Int×Int×Int×Int) (b273:Bool):Option (Bool×Int×Int×Int×List Int×List (List Int)×List Int×List (List Int)×Int×List TVmFrame×List Int×Int×Int×Int) :=
 if b273=true then
  none
 else
  (vm_two x131.Op r267.1 r261.1).bind fun r278 =>
  (vm_push r267.2.1 r267.2.2.1 r267.2.2.2.1 r267.2.2.2.2.1 r267.2.2.2.2.2.1 r267.2.2.2.2.2.2.1 r267.2.2.2.2.2.2.2 r278).bind fun r281 =>
  vm_step_j2 m_2 r281.1 r281.2.1 r281.2.2.1 out_16 r65.2.2.2.1 r65.2.2.2.2.2.1 r65.2.2.2.2.1 stat_34 (r65.2.2.2.2.2.2.set i83.toNat (TVmFrame.mk x103.unit i141 x103.base)) r281.2.2.2.2.1 r281.2.2.2.2.2.1 r281.2.2.2.2.2.2 r281.2.2.2.1
def vm_step_j1 (m_2:TModule) (out_16:List Int) (stat_34:Int) (l_40:List Int) (live_44:Int) (min_45:Int) (most_46:Int) (r65:Int×Int×Int×List (List Int)×List Int×List (List Int)×List TVmFrame) (i83:Int):Option (Bool×Int×Int×Int×List Int×List (List Int)×List Int×List (List Int)×Int×List TVmFrame×List Int×Int×Int×Int) :=
 (at_ r65.2.2.2.2.2.2 i83).bind fun x103 =>
 (at_ m_2.Units x103.unit).bind fun x117 =>
 (at_ x117.Code x103.pc).bind fun x131 =>
 (i64 (x103.pc+1)).bind fun i141 =>
 if x131.Op=1 then
  (vm_push r65.1 r65.2.1 r65.2.2.1 l_40 live_44 min_45 most_46 x131.N).bind fun r176 =>
  vm_step_j2 m_2 r176.1 r176.2.1 r176.2.2.1 out_16 r65.2.2.2.1 r65.2.2.2.2.2.1 r65.2.2.2.2.1 stat_34 (r65.2.2.2.2.2.2.set i83.toNat (TVmFrame.mk x103.unit i141 x103.base)) r176.2.2.2.2.1 r176.2.2.2.2.2.1 r176.2.2.2.2.2.2 r176.2.2.2.1
 else
  if x131.Op=2 then
   (vm_push r65.1 r65.2.1 r65.2.2.1 l_40 live_44 min_45 most_46 x131.A).bind fun r183 =>
   vm_step_j2 m_2 r183.1 r183.2.1 r183.2.2.1 out_16 r65.2.2.2.1 r65.2.2.2.2.2.1 r65.2.2.2.2.1 stat_34 (r65.2.2.2.2.2.2.set i83.toNat (TVmFrame.mk x103.unit i141 x103.base)) r183.2.2.2.2.1 r183.2.2.2.2.2.1 r183.2.2.2.2.2.2 r183.2.2.2.1
  else
   if x131.Op=3 then
    (i64 (x103.base+x131.A)).bind fun i200 =>
    (at_ l_40 i200).bind fun x202 =>
    (vm_push r65.1 r65.2.1 r65.2.2.1 l_40 live_44 min_45 most_46 x202).bind fun r217 =>
    vm_step_j3 m_2 out_16 stat_34 r65 i83 x103 i141 r217.1 r217.2.1 r217.2.2.1 r217.2.2.2.2.1 r217.2.2.2.2.2.1 r217.2.2.2.2.2.2 r217.2.2.2.1
   else
    if x131.Op=4 then
     (vm_pop r65.1 r65.2.1 r65.2.2.1 l_40 live_44 min_45 most_46).bind fun r226 =>
     (i64 (x103.base+x131.A)).bind fun i236 =>
     (at_ r226.2.2.2.2.1 i236).bind fun x238 =>
     vm_step_j4 m_2 out_16 stat_34 r65 i83 x103 i141 r226 (r226.2.2.2.2.1.set i236.toNat r226.1)
    else
     if x131.Op=5 then
      none
     else
      if x131.Op=6 then
       none
      else
       if x131.Op=7 then
        none
       else
        if (8:Int)≤x131.Op then
         if x131.Op≤20 then
          (vm_pop r65.1 r65.2.1 r65.2.2.1 l_40 live_44 min_45 most_46).bind fun r261 =>
          (vm_pop r261.2.1 r261.2.2.1 r261.2.2.2.1 r261.2.2.2.2.1 r261.2.2.2.2.2.1 r261.2.2.2.2.2.2.1 r261.2.2.2.2.2.2.2).bind fun r267 =>
          if x131.Op=11 then
           vm_step_j5 m_2 out_16 stat_34 r65 i83 x103 x131 i141 r261 r267 (decide (r261.1=0))
          else
           if x131.Op=12 then
            vm_step_j5 m_2 out_16 stat_34 r65 i83 x103 x131 i141 r261 r267 (decide (r261.1=0))
           else
            vm_step_j5 m_2 out_16 stat_34 r65 i83 x103 x131 i141 r261 r267 false
         else
          if x131.Op=21 then
           vm_step_j2 m_2 r65.1 r65.2.1 r65.2.2.1 out_16 r65.2.2.2.1 r65.2.2.2.2.2.1 r65.2.2.2.2.1 stat_34 (r65.2.2.2.2.2.2.set i83.toNat (TVmFrame.mk x103.unit x131.A x103.base)) live_44 min_45 most_46 l_40
          else
           if x131.Op=22 then
            (vm_pop r65.1 r65.2.1 r65.2.2.1 l_40 live_44 min_45 most_46).bind fun r290 =>
            if r290.1=0 then
             vm_step_j2 m_2 r290.2.1 r290.2.2.1 r290.2.2.2.1 out_16 r65.2.2.2.1 r65.2.2.2.2.2.1 r65.2.2.2.2.1 stat_34 (r65.2.2.2.2.2.2.set i83.toNat (TVmFrame.mk x103.unit x131.A x103.base)) r290.2.2.2.2.2.1 r290.2.2.2.2.2.2.1 r290.2.2.2.2.2.2.2 r290.2.2.2.2.1
            else
             vm_step_j2 m_2 r290.2.1 r290.2.2.1 r290.2.2.2.1 out_16 r65.2.2.2.1 r65.2.2.2.2.2.1 r65.2.2.2.2.1 stat_34 (r65.2.2.2.2.2.2.set i83.toNat (TVmFrame.mk x103.unit i141 x103.base)) r290.2.2.2.2.2.1 r290.2.2.2.2.2.2.1 r290.2.2.2.2.2.2.2 r290.2.2.2.2.1
           else
            if x131.Op=26 then
             none
            else
             if x131.Op=27 then
              (ls_take r65.2.2.2.1 r65.2.2.2.2.1 r65.2.2.2.2.2.1 x131.A).bind fun r300 =>
              (vm_tell 3 x131.A r300.1).bind fun r312 =>
              (vm_push r65.1 r65.2.1 r65.2.2.1 l_40 live_44 min_45 most_46 r300.1).bind fun r315 =>
              vm_step_j2 m_2 r315.1 r315.2.1 r315.2.2.1 out_16 r300.2.1 r300.2.2.2 r300.2.2.1 stat_34 (r65.2.2.2.2.2.2.set i83.toNat (TVmFrame.mk x103.unit i141 x103.base)) r315.2.2.2.2.1 r315.2.2.2.2.2.1 r315.2.2.2.2.2.2 r315.2.2.2.1
             else
              if x131.Op=28 then
               (vm_pop r65.1 r65.2.1 r65.2.2.1 l_40 live_44 min_45 most_46).bind fun r322 =>
               (app out_16 [r322.1]).bind fun l332 =>
               (vm_tell 1 0 r322.1).bind fun r335 =>
               vm_step_j2 m_2 r322.2.1 r322.2.2.1 r322.2.2.2.1 l332 r65.2.2.2.1 r65.2.2.2.2.2.1 r65.2.2.2.2.1 stat_34 (r65.2.2.2.2.2.2.set i83.toNat (TVmFrame.mk x103.unit i141 x103.base)) r322.2.2.2.2.2.1 r322.2.2.2.2.2.2.1 r322.2.2.2.2.2.2.2 r322.2.2.2.2.1
              else
               (vm_units m_2 r65.1 r65.2.1 r65.2.2.1 stat_34 (r65.2.2.2.2.2.2.set i83.toNat (TVmFrame.mk x103.unit i141 x103.base)) l_40 live_44 min_45 most_46 x131).bind fun r338 =>
               vm_step_j2 m_2 r338.1 r338.2.1 r338.2.2.1 out_16 r65.2.2.2.1 r65.2.2.2.2.2.1 r65.2.2.2.2.1 r338.2.2.2.1 r338.2.2.2.2.1 r338.2.2.2.2.2.2.1 r338.2.2.2.2.2.2.2.1 r338.2.2.2.2.2.2.2.2 r338.2.2.2.2.2.1
        else
         none
def vm_step  (m_2:TModule) (stat_13:Int) (box_14:Int) (trap_15:Int) (out_16:List Int) (feed_21:List (List Int)) (took_25:List Int) (sent_29:List (List Int)) (stat_34:Int) (fram_35:List TVmFrame) (l_40:List Int) (live_44:Int) (min_45:Int) (most_46:Int):Option (Bool×Int×Int×Int×List Int×List (List Int)×List Int×List (List Int)×Int×List TVmFrame×List Int×Int×Int×Int) :=
 (vm_look m_2 stat_13 box_14 trap_15 feed_21 took_25 sent_29 fram_35).bind fun r65 =>
 if r65.1≠1 then
  some (false,r65.1,r65.2.1,r65.2.2.1,out_16,r65.2.2.2.1,r65.2.2.2.2.1,r65.2.2.2.2.2.1,stat_34,r65.2.2.2.2.2.2,l_40,live_44,min_45,most_46)
 else
  (i64 ((r65.2.2.2.2.2.2.length:Int) - 1)).bind fun i85 =>
  (at_ r65.2.2.2.2.2.2 i85).bind fun x87 =>
  vm_step_j1 m_2 out_16 stat_34 l_40 live_44 min_45 most_46 r65 i85
end Go.Y
namespace Go.Y
open Go.Wk Go.Xt
def vm_begin_l1 (p_2:Int) (p_3:List Int) (x42:TUnit):Nat→Int→Int→Int→Int→(List Int)→Option (Int×List TVmFrame×List Int×Int×Int×Int)
 | 0,_,_,_,_,_=>none
 | n+1,i65,i66,i67,i68,l71 =>
  if i65<(x42.Locals.length:Int) then
   if i65<(p_3.length:Int) then
    none
   else
    (st_push l71 i66 i67 i68 0).bind fun r85 =>
    (i64 (i65+1)).bind fun i91 =>
    vm_begin_l1 p_2 p_3 x42 n i91 r85.2.2.1 r85.2.2.2.1 r85.2.2.2.2 r85.2.1
  else
   some (0,([(TVmFrame.mk p_2 0 0)]:List TVmFrame),l71,i66,i67,i68)
def vm_begin  (m_2:TModule) (p_2:Int) (p_3:List Int):Option (Int×List TVmFrame×List Int×Int×Int×Int) :=
 (st_new 8 400).bind fun r31 =>
 (at_ m_2.Units p_2).bind fun x42 =>
 vm_begin_l1 p_2 p_3 x42 (x42.Locals.length+1) 0 r31.2.1 r31.2.2.1 r31.2.2.2 r31.1
def vm_new  (p_1:TModule) (p_2:Int):Option (Int×Int×Int×List Int×Int×List TVmFrame×List Int×Int×Int×Int) :=
 (vm_begin p_1 p_2 ([]:List Int)).bind fun r26 =>
 some (1,0,0,([]:List Int),2,r26.2.1,r26.2.2.1,r26.2.2.2.1,r26.2.2.2.2.1,r26.2.2.2.2.2)
def vm_solo_l3 (p_1:TModule) (p_4:Int):Nat→Int→Int→Int→Int→(List Int)→Int→(List TVmFrame)→Int→Int→Int→(List Int)→(List Int)→(List (List Int))→(List (List Int))→Option (TReport×Int)
 | 0,_,_,_,_,_,_,_,_,_,_,_,_,_,_=>none
 | n+1,i376,i377,i378,i379,l382,i384,l387,i389,i390,i391,l394,l398,l402,l406 =>
  if i376<p_4 then
   (vm_step p_1 i377 i378 i379 l382 l402 l398 l406 i384 l387 l394 i389 i390 i391).bind fun r440 =>
   if r440.1=true then
    (i64 (i376+1)).bind fun i462 =>
    vm_solo_l3 p_1 p_4 n i462 r440.2.1 r440.2.2.1 r440.2.2.2.1 r440.2.2.2.2.1 r440.2.2.2.2.2.2.2.2.1 r440.2.2.2.2.2.2.2.2.2.1 r440.2.2.2.2.2.2.2.2.2.2.2.1 r440.2.2.2.2.2.2.2.2.2.2.2.2.1 r440.2.2.2.2.2.2.2.2.2.2.2.2.2 r440.2.2.2.2.2.2.2.2.2.2.1 r440.2.2.2.2.2.2.1 r440.2.2.2.2.2.1 r440.2.2.2.2.2.2.2.1
   else
    some ((TReport.mk r440.2.1 r440.2.2.1 r440.2.2.2.1 r440.2.2.2.2.1 r440.2.2.2.2.2.2.2.1 r440.2.2.2.2.2.2.1 i376),0)
  else
   none
def vm_solo_j2 (fu:Nat) (p_1:TModule) (p_2:Int) (p_3:List (List Int)) (p_4:Int) (r31:List Int) (l282:List Int) (l286:List (List Int)):Option (TReport×Int) :=
 (at_ r31 p_2).bind fun x308 =>
 (vm_new p_1 x308).bind fun r316 =>
 (vm_look p_1 r316.1 r316.2.1 r316.2.2.1 p_3 l282 l286 r316.2.2.2.2.2.1).bind fun r337 =>
 vm_solo_l3 p_1 p_4 fu 0 r337.1 r337.2.1 r337.2.2.1 r316.2.2.2.1 r316.2.2.2.2.1 r337.2.2.2.2.2.2 r316.2.2.2.2.2.2.2.1 r316.2.2.2.2.2.2.2.2.1 r316.2.2.2.2.2.2.2.2.2 r316.2.2.2.2.2.2.1 r337.2.2.2.2.1 r337.2.2.2.1 r337.2.2.2.2.2.1
def vm_solo_j1 (i231:Int) (k_vm_solo_l2:Int→Option (TReport×Int)) (b263:Bool):Option (TReport×Int) :=
 if b263=true then
  none
 else
  (i64 (i231+1)).bind fun i276 =>
  k_vm_solo_l2 i276
def vm_solo_l2 (p_1:TModule) (i119:Int) (x199:List Int) (k_vm_solo_l1:Int→Option (TReport×Int)):Nat→Int→Option (TReport×Int)
 | 0,_=>none
 | n+1,i231 =>
  if i231<(x199.length:Int) then
   (at_ x199 i231).bind fun x255 =>
   (at_ p_1.Boxes i119).bind fun x264 =>
   if x264.Typ=2 then
    if x255≠0 then
     vm_solo_j1 i231 (vm_solo_l2 p_1 i119 x199 k_vm_solo_l1 n) (decide (x255≠1))
    else
     vm_solo_j1 i231 (vm_solo_l2 p_1 i119 x199 k_vm_solo_l1 n) false
   else
    vm_solo_j1 i231 (vm_solo_l2 p_1 i119 x199 k_vm_solo_l1 n) false
  else
   (i64 (i119+1)).bind fun i278 =>
   k_vm_solo_l1 i278
def vm_solo_l1 (fu:Nat) (p_1:TModule) (p_2:Int) (p_3:List (List Int)) (p_4:Int) (r31:List Int):Nat→Int→Option (TReport×Int)
 | 0,_=>none
 | n+1,i119 =>
  if i119<(p_3.length:Int) then
   (at_ p_3 i119).bind fun x199 =>
   vm_solo_l2 p_1 i119 x199 (vm_solo_l1 fu p_1 p_2 p_3 p_4 r31 n) (x199.length+1) 0
  else
   (mks (p_3.length:Int)).bind fun k289 =>
   (mks (p_3.length:Int)).bind fun k293 =>
   vm_solo_j2 fu p_1 p_2 p_3 p_4 r31 (List.replicate k289 (0:Int)) (List.replicate k293 (([]:List Int):List Int))
def vm_solo (fu:Nat)  (p_1:TModule) (p_2:Int) (p_3:List (List Int)) (p_4:Int):Option (TReport×Int) :=
 (vf_verify fu p_1).bind fun r23 =>
 if r23.Err≠0 then
  none
 else
  (vm_tasks p_1).bind fun r31 =>
  if p_2<0 then
   none
  else
   if (r31.length:Int)≤p_2 then
    none
   else
    if p_4<0 then
     none
    else
     if (5000:Int)<p_4 then
      none
     else
      if (p_3.length:Int)≠(p_1.Boxes.length:Int) then
       none
      else
       vm_solo_l1 fu p_1 p_2 p_3 p_4 r31 (p_3.length+1) 0
end Go.Y
namespace Go.Y
open Go.Wk Go.Xt
def tx_0:List UInt8:=[98,111,120,32,105,110,32,110,117,109,32,50,48,32,59,10,103,101,110,32,109,101,97,110,40,41,32,116,97,107,101,115,32,110,117,109,32,121,105,101,108,100,115,32,110,117,109,32,123,10,32,32,108,101,116,32,115,32,61,32,48,32,59,10,32,32,108,101,116,32,110,32,61,32,48,32,59,10,32,32,108,101,116,32,120,32,61,32,121,105,101,108,100,40,48,41,32,59,10,32,32,119,104,105,108,101,32,116,114,117,101,32,123,32,115,32,61,32,115,32,43,32,120,32,59,32,110,32,61,32,110,32,43,32,49,32,59,32,120,32,61,32,121,105,101,108,100,40,115,32,47,32,110,41,32,59,32,125,10,125,10,116,97,115,107,32,109,97,105,110,32,123,10,32,32,108,101,116,32,109,32,61,32,115,116,97,114,116,32,109,101,97,110,40,41,32,59,10,32,32,100,111,32,114,101,115,117,109,101,40,109,44,32,48,41,32,59,10,32,32,119,104,105,108,101,32,116,114,117,101,32,123,32,111,117,116,32,114,101,115,117,109,101,40,109,44,32,114,101,99,118,40,105,110,41,41,32,59,32,125,10,125,10]
def tx_1:List UInt8:=[98,111,120,32,105,110,32,110,117,109,32,50,48,32,59,10,116,97,115,107,32,109,97,105,110,32,123,10,32,32,119,104,105,108,101,32,116,114,117,101,32,123,10,32,32,32,32,108,101,116,32,120,32,61,32,114,101,99,118,40,105,110,41,32,59,10,32,32,32,32,108,101,116,32,110,32,61,32,48,32,59,10,32,32,32,32,119,104,105,108,101,32,120,32,62,32,48,32,123,32,110,32,61,32,110,32,43,32,120,32,37,32,50,32,59,32,120,32,61,32,120,32,47,32,50,32,59,32,125,10,32,32,32,32,111,117,116,32,110,32,59,10,32,32,125,10,125,10]
def tx_2:List UInt8:=[98,111,120,32,105,110,32,110,117,109,32,50,48,32,59,10,116,97,115,107,32,109,97,105,110,32,123,10,32,32,108,101,116,32,108,97,115,116,32,61,32,114,101,99,118,40,105,110,41,32,59,10,32,32,108,101,116,32,110,32,61,32,49,32,59,10,32,32,119,104,105,108,101,32,116,114,117,101,32,123,10,32,32,32,32,108,101,116,32,120,32,61,32,114,101,99,118,40,105,110,41,32,59,10,32,32,32,32,105,102,32,120,32,61,61,32,108,97,115,116,32,123,32,110,32,61,32,110,32,43,32,49,32,59,32,125,32,101,108,115,101,32,123,32,111,117,116,32,108,97,115,116,32,59,32,111,117,116,32,110,32,59,32,108,97,115,116,32,61,32,120,32,59,32,110,32,61,32,49,32,59,32,125,10,32,32,125,10,125,10]
def tx_3:List UInt8:=[98,111,120,32,105,110,32,110,117,109,32,50,48,32,59,10,116,97,115,107,32,109,97,105,110,32,123,10,32,32,119,104,105,108,101,32,116,114,117,101,32,123,10,32,32,32,32,108,101,116,32,110,32,61,32,114,101,99,118,40,105,110,41,32,59,10,32,32,32,32,108,101,116,32,107,32,61,32,48,32,59,10,32,32,32,32,119,104,105,108,101,32,110,32,62,32,49,32,123,10,32,32,32,32,32,32,105,102,32,110,32,37,32,50,32,61,61,32,48,32,123,32,110,32,61,32,110,32,47,32,50,32,59,32,125,32,101,108,115,101,32,123,32,110,32,61,32,51,32,42,32,110,32,43,32,49,32,59,32,125,10,32,32,32,32,32,32,107,32,61,32,107,32,43,32,49,32,59,10,32,32,32,32,125,10,32,32,32,32,111,117,116,32,107,32,59,10,32,32,125,10,125,10]
def tx_4:List UInt8:=[98,111,120,32,105,110,32,110,117,109,32,50,48,32,59,10,116,97,115,107,32,109,97,105,110,32,123,10,32,32,108,101,116,32,108,97,115,116,32,61,32,114,101,99,118,40,105,110,41,32,59,10,32,32,111,117,116,32,108,97,115,116,32,59,10,32,32,119,104,105,108,101,32,116,114,117,101,32,123,10,32,32,32,32,108,101,116,32,120,32,61,32,114,101,99,118,40,105,110,41,32,59,10,32,32,32,32,105,102,32,120,32,33,61,32,108,97,115,116,32,123,32,111,117,116,32,120,32,59,32,108,97,115,116,32,61,32,120,32,59,32,125,10,32,32,125,10,125,10]
def tx_5:List UInt8:=[98,111,120,32,105,110,32,110,117,109,32,50,48,32,59,10,116,97,115,107,32,109,97,105,110,32,123,10,32,32,119,104,105,108,101,32,116,114,117,101,32,123,10,32,32,32,32,108,101,116,32,120,32,61,32,114,101,99,118,40,105,110,41,32,59,10,32,32,32,32,108,101,116,32,115,32,61,32,48,32,59,10,32,32,32,32,119,104,105,108,101,32,120,32,62,32,48,32,123,32,115,32,61,32,115,32,43,32,120,32,37,32,49,48,32,59,32,120,32,61,32,120,32,47,32,49,48,32,59,32,125,10,32,32,32,32,111,117,116,32,115,32,59,10,32,32,125,10,125,10]
def tx_6:List UInt8:=[98,111,120,32,105,110,32,110,117,109,32,50,48,32,59,10,116,97,115,107,32,109,97,105,110,32,123,10,32,32,119,104,105,108,101,32,116,114,117,101,32,123,32,111,117,116,32,114,101,99,118,40,105,110,41,32,42,32,50,32,59,32,125,10,125,10]
def tx_7:List UInt8:=[98,111,120,32,105,110,32,110,117,109,32,50,48,32,59,10,116,97,115,107,32,109,97,105,110,32,123,10,32,32,119,104,105,108,101,32,116,114,117,101,32,123,10,32,32,32,32,108,101,116,32,120,32,61,32,114,101,99,118,40,105,110,41,32,59,10,32,32,32,32,105,102,32,120,32,37,32,50,32,61,61,32,48,32,123,32,111,117,116,32,120,32,59,32,125,10,32,32,125,10,125,10]
def tx_8:List UInt8:=[98,111,120,32,105,110,32,110,117,109,32,50,48,32,59,10,102,110,32,102,97,99,116,40,110,32,110,117,109,41,32,110,117,109,32,123,10,32,32,105,102,32,110,32,60,32,50,32,123,32,114,101,116,117,114,110,32,49,32,59,32,125,10,32,32,114,101,116,117,114,110,32,110,32,42,32,102,97,99,116,40,110,32,45,32,49,41,32,59,10,125,10,116,97,115,107,32,109,97,105,110,32,123,10,32,32,119,104,105,108,101,32,116,114,117,101,32,123,32,111,117,116,32,102,97,99,116,40,114,101,99,118,40,105,110,41,41,32,59,32,125,10,125,10]
def tx_9:List UInt8:=[98,111,120,32,105,110,32,110,117,109,32,50,48,32,59,10,35,32,101,97,99,104,32,110,117,109,98,101,114,32,97,115,107,115,32,102,111,114,32,97,115,32,109,97,110,121,10,103,101,110,32,102,105,98,115,40,41,32,116,97,107,101,115,32,98,111,111,108,32,121,105,101,108,100,115,32,110,117,109,32,123,10,32,32,108,101,116,32,97,32,61,32,48,32,59,10,32,32,108,101,116,32,98,32,61,32,49,32,59,10,32,32,119,104,105,108,101,32,121,105,101,108,100,40,97,41,32,123,32,108,101,116,32,99,32,61,32,97,32,43,32,98,32,59,32,97,32,61,32,98,32,59,32,98,32,61,32,99,32,59,32,125,10,125,10,116,97,115,107,32,109,97,105,110,32,123,10,32,32,108,101,116,32,102,32,61,32,115,116,97,114,116,32,102,105,98,115,40,41,32,59,10,32,32,119,104,105,108,101,32,116,114,117,101,32,123,10,32,32,32,32,108,101,116,32,110,32,61,32,114,101,99,118,40,105,110,41,32,59,10,32,32,32,32,119,104,105,108,101,32,110,32,62,32,48,32,123,32,111,117,116,32,114,101,115,117,109,101,40,102,44,32,116,114,117,101,41,32,59,32,110,32,61,32,110,32,45,32,49,32,59,32,125,10,32,32,125,10,125,10]
def tx_10:List UInt8:=[98,111,120,32,105,110,32,110,117,109,32,50,48,32,59,10,98,111,120,32,111,112,101,110,32,98,111,111,108,32,50,48,32,59,10,116,97,115,107,32,109,97,105,110,32,123,10,32,32,119,104,105,108,101,32,116,114,117,101,32,123,10,32,32,32,32,108,101,116,32,120,32,61,32,114,101,99,118,40,105,110,41,32,59,10,32,32,32,32,105,102,32,114,101,99,118,40,111,112,101,110,41,32,123,32,111,117,116,32,120,32,59,32,125,10,32,32,125,10,125,10]
def tx_11:List UInt8:=[98,111,120,32,105,110,32,110,117,109,32,50,48,32,59,10,102,110,32,103,99,100,40,97,32,110,117,109,44,32,98,32,110,117,109,41,32,110,117,109,32,123,10,32,32,105,102,32,98,32,61,61,32,48,32,123,32,114,101,116,117,114,110,32,97,32,59,32,125,10,32,32,114,101,116,117,114,110,32,103,99,100,40,98,44,32,97,32,37,32,98,41,32,59,10,125,10,116,97,115,107,32,109,97,105,110,32,123,10,32,32,119,104,105,108,101,32,116,114,117,101,32,123,32,111,117,116,32,103,99,100,40,114,101,99,118,40,105,110,41,44,32,114,101,99,118,40,105,110,41,41,32,59,32,125,10,125,10]
def tx_12:List UInt8:=[98,111,120,32,105,110,32,110,117,109,32,50,48,32,59,10,102,110,32,109,97,120,40,97,32,110,117,109,44,32,98,32,110,117,109,41,32,110,117,109,32,123,10,32,32,105,102,32,97,32,60,32,98,32,123,32,114,101,116,117,114,110,32,98,32,59,32,125,10,32,32,114,101,116,117,114,110,32,97,32,59,10,125,10,116,97,115,107,32,109,97,105,110,32,123,10,32,32,108,101,116,32,109,32,61,32,114,101,99,118,40,105,110,41,32,59,10,32,32,119,104,105,108,101,32,116,114,117,101,32,123,32,111,117,116,32,109,32,59,32,109,32,61,32,109,97,120,40,109,44,32,114,101,99,118,40,105,110,41,41,32,59,32,125,10,125,10]
def tx_13:List UInt8:=[98,111,120,32,97,32,110,117,109,32,50,48,32,59,10,98,111,120,32,98,32,110,117,109,32,50,48,32,59,10,116,97,115,107,32,109,97,105,110,32,123,10,32,32,108,101,116,32,120,32,61,32,114,101,99,118,40,97,41,32,59,10,32,32,108,101,116,32,121,32,61,32,114,101,99,118,40,98,41,32,59,10,32,32,119,104,105,108,101,32,116,114,117,101,32,123,10,32,32,32,32,105,102,32,120,32,60,61,32,121,32,123,32,111,117,116,32,120,32,59,32,120,32,61,32,114,101,99,118,40,97,41,32,59,32,125,32,101,108,115,101,32,123,32,111,117,116,32,121,32,59,32,121,32,61,32,114,101,99,118,40,98,41,32,59,32,125,10,32,32,125,10,125,10]
def tx_14:List UInt8:=[98,111,120,32,105,110,32,110,117,109,32,50,48,32,59,10,116,97,115,107,32,109,97,105,110,32,123,10,32,32,119,104,105,108,101,32,116,114,117,101,32,123,32,111,117,116,32,114,101,99,118,40,105,110,41,32,45,32,114,101,99,118,40,105,110,41,32,59,32,125,10,125,10]
def tx_15:List UInt8:=[98,111,120,32,112,105,110,103,32,110,117,109,32,49,32,59,10,98,111,120,32,112,111,110,103,32,110,117,109,32,49,32,59,10,116,97,115,107,32,111,110,101,32,123,10,32,32,108,101,116,32,120,32,61,32,49,32,59,10,32,32,119,104,105,108,101,32,120,32,60,32,49,48,48,32,123,32,115,101,110,100,32,112,105,110,103,32,120,32,59,32,120,32,61,32,114,101,99,118,40,112,111,110,103,41,32,59,32,111,117,116,32,120,32,59,32,125,10,125,10,116,97,115,107,32,111,116,104,101,114,32,123,10,32,32,119,104,105,108,101,32,116,114,117,101,32,123,32,115,101,110,100,32,112,111,110,103,32,114,101,99,118,40,112,105,110,103,41,32,42,32,50,32,59,32,125,10,125,10]
def tx_16:List UInt8:=[98,111,120,32,105,110,32,110,117,109,32,50,48,32,59,10,116,97,115,107,32,109,97,105,110,32,123,10,32,32,119,104,105,108,101,32,116,114,117,101,32,123,10,32,32,32,32,108,101,116,32,120,32,61,32,114,101,99,118,40,105,110,41,32,59,10,32,32,32,32,108,101,116,32,110,32,61,32,114,101,99,118,40,105,110,41,32,59,10,32,32,32,32,108,101,116,32,112,32,61,32,49,32,59,10,32,32,32,32,119,104,105,108,101,32,110,32,62,32,48,32,123,10,32,32,32,32,32,32,105,102,32,110,32,37,32,50,32,61,61,32,49,32,123,32,112,32,61,32,112,32,42,32,120,32,59,32,125,10,32,32,32,32,32,32,120,32,61,32,120,32,42,32,120,32,59,10,32,32,32,32,32,32,110,32,61,32,110,32,47,32,50,32,59,10,32,32,32,32,125,10,32,32,32,32,111,117,116,32,112,32,59,10,32,32,125,10,125,10]
def tx_17:List UInt8:=[98,111,120,32,105,110,32,110,117,109,32,50,48,32,59,10,102,110,32,112,114,105,109,101,40,110,32,110,117,109,41,32,98,111,111,108,32,123,10,32,32,105,102,32,110,32,60,32,50,32,123,32,114,101,116,117,114,110,32,102,97,108,115,101,32,59,32,125,10,32,32,108,101,116,32,100,32,61,32,50,32,59,10,32,32,119,104,105,108,101,32,100,32,42,32,100,32,60,61,32,110,32,123,10,32,32,32,32,105,102,32,110,32,37,32,100,32,61,61,32,48,32,123,32,114,101,116,117,114,110,32,102,97,108,115,101,32,59,32,125,10,32,32,32,32,100,32,61,32,100,32,43,32,49,32,59,10,32,32,125,10,32,32,114,101,116,117,114,110,32,116,114,117,101,32,59,10,125,10,116,97,115,107,32,109,97,105,110,32,123,10,32,32,119,104,105,108,101,32,116,114,117,101,32,123,32,111,117,116,32,112,114,105,109,101,40,114,101,99,118,40,105,110,41,41,32,59,32,125,10,125,10]
def tx_18:List UInt8:=[98,111,120,32,105,110,32,110,117,109,32,50,48,32,59,10,35,32,97,32,103,101,110,101,114,97,116,111,114,32,119,105,116,104,105,110,32,97,32,103,101,110,101,114,97,116,111,114,10,103,101,110,32,105,110,110,101,114,40,110,32,110,117,109,41,32,116,97,107,101,115,32,98,111,111,108,32,121,105,101,108,100,115,32,110,117,109,32,123,10,32,32,108,101,116,32,105,32,61,32,48,32,59,10,32,32,119,104,105,108,101,32,105,32,60,32,110,32,123,32,100,111,32,121,105,101,108,100,40,105,41,32,59,32,105,32,61,32,105,32,43,32,49,32,59,32,125,10,125,10,103,101,110,32,111,117,116,101,114,40,41,32,116,97,107,101,115,32,110,117,109,32,121,105,101,108,100,115,32,110,117,109,32,123,10,32,32,108,101,116,32,110,32,61,32,121,105,101,108,100,40,48,41,32,59,10,32,32,119,104,105,108,101,32,116,114,117,101,32,123,10,32,32,32,32,108,101,116,32,103,32,61,32,115,116,97,114,116,32,105,110,110,101,114,40,110,41,32,59,10,32,32,32,32,108,101,116,32,115,32,61,32,48,32,59,10,32,32,32,32,119,104,105,108,101,32,97,108,105,118,101,40,103,41,32,123,32,115,32,61,32,115,32,43,32,114,101,115,117,109,101,40,103,44,32,116,114,117,101,41,32,59,32,125,10,32,32,32,32,110,32,61,32,121,105,101,108,100,40,115,41,32,59,10,32,32,125,10,125,10,116,97,115,107,32,109,97,105,110,32,123,10,32,32,108,101,116,32,111,32,61,32,115,116,97,114,116,32,111,117,116,101,114,40,41,32,59,10,32,32,100,111,32,114,101,115,117,109,101,40,111,44,32,48,41,32,59,10,32,32,119,104,105,108,101,32,116,114,117,101,32,123,32,111,117,116,32,114,101,115,117,109,101,40,111,44,32,114,101,99,118,40,105,110,41,41,32,59,32,125,10,125,10]
def tx_19:List UInt8:=[98,111,120,32,105,110,116,115,32,110,117,109,32,49,32,59,10,98,111,120,32,111,100,100,32,110,117,109,32,49,32,59,10,98,111,120,32,114,101,115,116,32,110,117,109,32,49,32,59,10,116,97,115,107,32,110,117,109,98,101,114,115,32,123,10,32,32,108,101,116,32,105,32,61,32,50,32,59,10,32,32,119,104,105,108,101,32,105,32,60,32,50,54,32,123,32,115,101,110,100,32,105,110,116,115,32,105,32,59,32,105,32,61,32,105,32,43,32,49,32,59,32,125,10,125,10,116,97,115,107,32,116,119,111,32,123,10,32,32,111,117,116,32,50,32,59,10,32,32,119,104,105,108,101,32,116,114,117,101,32,123,32,108,101,116,32,120,32,61,32,114,101,99,118,40,105,110,116,115,41,32,59,32,105,102,32,120,32,37,32,50,32,33,61,32,48,32,123,32,115,101,110,100,32,111,100,100,32,120,32,59,32,125,32,125,10,125,10,116,97,115,107,32,116,104,114,101,101,32,123,10,32,32,111,117,116,32,51,32,59,10,32,32,119,104,105,108,101,32,116,114,117,101,32,123,32,108,101,116,32,120,32,61,32,114,101,99,118,40,111,100,100,41,32,59,32,105,102,32,120,32,37,32,51,32,33,61,32,48,32,123,32,115,101,110,100,32,114,101,115,116,32,120,32,59,32,125,32,125,10,125,10,116,97,115,107,32,111,116,104,101,114,115,32,123,10,32,32,119,104,105,108,101,32,116,114,117,101,32,123,32,108,101,116,32,120,32,61,32,114,101,99,118,40,114,101,115,116,41,32,59,32,105,102,32,120,32,37,32,53,32,33,61,32,48,32,123,32,111,117,116,32,120,32,59,32,125,32,101,108,115,101,32,123,32,105,102,32,120,32,61,61,32,53,32,123,32,111,117,116,32,120,32,59,32,125,32,125,32,125,10,125,10]
def tx_20:List UInt8:=[98,111,120,32,105,110,32,110,117,109,32,50,48,32,59,10,116,97,115,107,32,109,97,105,110,32,123,10,32,32,108,101,116,32,115,32,61,32,48,32,59,10,32,32,119,104,105,108,101,32,116,114,117,101,32,123,32,115,32,61,32,115,32,43,32,114,101,99,118,40,105,110,41,32,59,32,111,117,116,32,115,32,59,32,125,10,125,10]
def tx_21:List UInt8:=[98,111,120,32,105,110,32,110,117,109,32,50,48,32,59,10,35,32,116,119,111,32,116,104,97,116,32,116,97,107,101,32,116,117,114,110,115,10,103,101,110,32,112,108,117,115,40,107,32,110,117,109,41,32,116,97,107,101,115,32,110,117,109,32,121,105,101,108,100,115,32,110,117,109,32,123,10,32,32,108,101,116,32,120,32,61,32,121,105,101,108,100,40,48,41,32,59,10,32,32,119,104,105,108,101,32,116,114,117,101,32,123,32,120,32,61,32,121,105,101,108,100,40,120,32,43,32,107,41,32,59,32,125,10,125,10,116,97,115,107,32,109,97,105,110,32,123,10,32,32,108,101,116,32,97,32,61,32,115,116,97,114,116,32,112,108,117,115,40,49,41,32,59,10,32,32,108,101,116,32,98,32,61,32,115,116,97,114,116,32,112,108,117,115,40,45,49,41,32,59,10,32,32,100,111,32,114,101,115,117,109,101,40,97,44,32,48,41,32,59,10,32,32,100,111,32,114,101,115,117,109,101,40,98,44,32,48,41,32,59,10,32,32,119,104,105,108,101,32,116,114,117,101,32,123,32,111,117,116,32,114,101,115,117,109,101,40,97,44,32,114,101,99,118,40,105,110,41,41,32,59,32,111,117,116,32,114,101,115,117,109,101,40,98,44,32,114,101,99,118,40,105,110,41,41,32,59,32,125,10,125,10]
def tx_22:List UInt8:=[98,111,120,32,105,110,32,110,117,109,32,50,48,32,59,10,116,97,115,107,32,109,97,105,110,32,123,10,32,32,108,101,116,32,120,32,61,32,114,101,99,118,40,105,110,41,32,59,10,32,32,119,104,105,108,101,32,120,32,33,61,32,48,32,123,32,111,117,116,32,120,32,59,32,120,32,61,32,114,101,99,118,40,105,110,41,32,59,32,125,10,125,10]
def tx_23:List UInt8:=[98,111,120,32,105,110,32,110,117,109,32,50,48,32,59,10,116,97,115,107,32,109,97,105,110,32,123,10,32,32,108,101,116,32,97,32,61,32,114,101,99,118,40,105,110,41,32,59,10,32,32,108,101,116,32,98,32,61,32,114,101,99,118,40,105,110,41,32,59,10,32,32,119,104,105,108,101,32,116,114,117,101,32,123,10,32,32,32,32,108,101,116,32,99,32,61,32,114,101,99,118,40,105,110,41,32,59,10,32,32,32,32,111,117,116,32,97,32,43,32,98,32,43,32,99,32,59,10,32,32,32,32,97,32,61,32,98,32,59,10,32,32,32,32,98,32,61,32,99,32,59,10,32,32,125,10,125,10]
def tx_24:List UInt8:=[98,111,120,32,97,32,110,117,109,32,50,48,32,59,10,98,111,120,32,98,32,110,117,109,32,50,48,32,59,10,116,97,115,107,32,109,97,105,110,32,123,10,32,32,119,104,105,108,101,32,116,114,117,101,32,123,32,111,117,116,32,114,101,99,118,40,97,41,32,43,32,114,101,99,118,40,98,41,32,59,32,125,10,125,10]
def sh_early  :Option (List TShelfOne) :=
 some [(TShelfOne.mk [97,118,101,114,97,103,101] tx_0),(TShelfOne.mk [98,105,116,115] tx_1),(TShelfOne.mk [99,104,97,110,103,101,115] tx_2),(TShelfOne.mk [99,111,108,108,97,116,122] tx_3),(TShelfOne.mk [100,101,100,117,112,101] tx_4),(TShelfOne.mk [100,105,103,105,116,115] tx_5),(TShelfOne.mk [100,111,117,98,108,101] tx_6),(TShelfOne.mk [101,118,101,110,115] tx_7),(TShelfOne.mk [102,97,99,116] tx_8)]
def sh_middle  :Option (List TShelfOne) :=
 some [(TShelfOne.mk [102,105,98] tx_9),(TShelfOne.mk [103,97,116,101] tx_10),(TShelfOne.mk [103,99,100] tx_11),(TShelfOne.mk [103,114,101,97,116,101,115,116] tx_12),(TShelfOne.mk [109,101,114,103,101] tx_13),(TShelfOne.mk [112,97,105,114,115] tx_14),(TShelfOne.mk [112,105,110,103,112,111,110,103] tx_15),(TShelfOne.mk [112,111,119,101,114] tx_16),(TShelfOne.mk [112,114,105,109,101] tx_17)]
def sh_late  :Option (List TShelfOne) :=
 some [(TShelfOne.mk [114,111,117,110,100,115] tx_18),(TShelfOne.mk [115,105,101,118,101] tx_19),(TShelfOne.mk [115,117,109,115] tx_20),(TShelfOne.mk [116,117,114,110,115] tx_21),(TShelfOne.mk [117,110,116,105,108] tx_22),(TShelfOne.mk [119,105,110,100,111,119] tx_23),(TShelfOne.mk [122,105,112] tx_24)]
def sh_text1  (p_1:TShelfOne) (p_2:List UInt8):Option Bool :=
 some (decide (p_1.name=p_2))
def sl_indexfunc_one_l1 (p_1:List TShelfOne) (p_2:TShelfOne→Option Bool):Nat→Int→Option Int
 | 0,_=>none
 | n+1,i20 =>
  if i20<(p_1.length:Int) then
   (at_ p_1 i20).bind fun x37 =>
   (p_2 x37).bind fun b45 =>
   if b45=true then
    some i20
   else
    (i64 (i20+1)).bind fun i49 =>
    sl_indexfunc_one_l1 p_1 p_2 n i49
  else
   none
def sl_indexfunc_one  (p_1:List TShelfOne) (p_2:TShelfOne→Option Bool):Option Int :=
 sl_indexfunc_one_l1 p_1 p_2 (p_1.length+1) 0
end Go.Y
namespace Go.Y
open Go.Wk Go.Xt
def sl_grow_one  (p_2:Int):Option (List TShelfOne) :=
 if p_2<0 then
  none
 else
  (i64 (0 - 0)).bind fun i5 =>
  (i64 (p_2 - i5)).bind fun i7 =>
  if (0:Int)<i7 then
   (mksp i7).bind fun k10 =>
   (cut (List.replicate k10 ((TShelfOne.mk [] []):TShelfOne)) 0 0).bind fun l15 =>
   some l15
  else
   none
def sl_concat_one_l2 (p_1:List (List TShelfOne)):Nat→Int→(List TShelfOne)→Option (List TShelfOne)
 | 0,_,_=>none
 | n+1,i83,l86 =>
  if i83<(p_1.length:Int) then
   (at_ p_1 i83).bind fun x111 =>
   (app l86 x111).bind fun l124 =>
   (i64 (i83+1)).bind fun i129 =>
   sl_concat_one_l2 p_1 n i129 l124
  else
   some l86
def sl_concat_one_l1 (p_1:List (List TShelfOne)):Nat→Int→Int→Option (List TShelfOne)
 | 0,_,_=>none
 | n+1,i22,i23 =>
  if i23<(p_1.length:Int) then
   (at_ p_1 i23).bind fun x41 =>
   (i64 (i22+(x41.length:Int))).bind fun i52 =>
   if i52<0 then
    none
   else
    (i64 (i23+1)).bind fun i55 =>
    sl_concat_one_l1 p_1 n i52 i55
  else
   (sl_grow_one i22).bind fun r57 =>
   sl_concat_one_l2 p_1 (p_1.length+1) 0 r57
def sl_concat_one  (p_1:List (List TShelfOne)):Option (List TShelfOne) :=
 sl_concat_one_l1 p_1 (p_1.length+1) 0 0
def sh_all  :Option (List TShelfOne) :=
 (sh_early ).bind fun r4 =>
 (sh_middle ).bind fun r10 =>
 (sh_late ).bind fun r16 =>
 (sl_concat_one [r4,r10,r16]).bind fun r26 =>
 some r26
def sh_text  (p_1:List UInt8):Option (List UInt8×Int) :=
 (sh_all ).bind fun r3 =>
 (sl_indexfunc_one r3 (fun x_=>sh_text1 x_ p_1)).bind fun r11 =>
 if r11<0 then
  none
 else
  (at_ r3 r11).bind fun x15 =>
  some (x15.text,0)
def sh_module_j1 (r22:TModule×TFault) :Option (TModule×Int) :=
 some (r22.1,r22.2.Err)
def sh_module (fu:Nat)  (p_1:List UInt8):Option (TModule×Int) :=
 (sh_text p_1).bind fun r9 =>
 if r9.2≠0 then
  none
 else
  (syn_read fu r9.1).bind fun r13 =>
  if r13.2.Err≠0 then
   none
  else
   (gen_compile fu r13.1).bind fun r22 =>
   sh_module_j1 r22
def sh_ask (fu:Nat)  (p_1:List UInt8) (p_2:List (List Int)):Option (TReport×Int) :=
 (sh_module fu p_1).bind fun r15 =>
 if r15.2≠0 then
  none
 else
  (vm_solo fu r15.1 0 p_2 5000).bind fun r27 =>
  some (r27.1,r27.2)
end Go.Y
