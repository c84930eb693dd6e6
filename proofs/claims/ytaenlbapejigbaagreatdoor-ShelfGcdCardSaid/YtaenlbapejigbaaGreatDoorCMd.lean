/- The shelf: texts of Md. -/
import Derived.Test.YtaenlbapejigbaaGreatDoorCXu
set_option linter.unusedSimpArgs false
set_option linter.unusedVariables false
set_option linter.unusedSectionVars false
namespace Go.Y
open Go.Wk Go.Xt
structure TExpr where
 Kind:Int
 N:Int
 Name:List UInt8
 Kids:List TExpr
 deriving Inhabited,Repr
structure TStat where
 Kind:Int
 Name:List UInt8
 X:TExpr
 Body:List TStat
 Else:List TStat
 deriving Inhabited,Repr
def Els {α:Type} (sz:Nat) (μ:M) (a:Option Addr) (c:Nat) (xs:List α) (g:Nat→List Value):Prop :=
 xs.length≤c∧c≤maxLen∧(xs=[]∨∃ b o,a=some ⟨b,o,none⟩∧∀ (i:Nat) (y:α),xs[i]?=some y→At μ b (o+i*sz) (g i))
inductive ExprCs (μ:M):List Value→TExpr→Prop where
 | mk (x:TExpr) (a:Option Addr) (c:Nat) (g:Nat→List Value) (h:Els 4 μ a c x.Kids g) (k:∀ (i:Nat) (y:TExpr),x.Kids[i]?=some y→ExprCs μ (g i) y) :
  ExprCs μ [.int .i64 x.Kind,.int .i64 x.N,S x.Name,.slice a x.Kids.length c] x
theorem Els.sl {α:Type} {sz:Nat} {μ:M} {a:Option Addr} {c:Nat} {xs:List α} {g:Nat→List Value} {R:List Value→α→Prop} (h:Els sz μ a c xs g) (k:∀ (i:Nat) (y:α),xs[i]?=some y→R (g i) y):SlR sz R μ a c xs:=by
 refine ⟨h.1,h.2.1,?_⟩
 rcases h.2.2 with h | ⟨b,o,ha,hg⟩
 ·exact .inl h
 ·exact .inr ⟨b,o,ha,g,fun i x hx=>⟨hg i x hx,k i x hx⟩⟩
theorem Els.of {α:Type} {sz:Nat} {μ:M} {a:Option Addr} {c:Nat} {xs:List α} {R:List Value→α→Prop} (h:SlR sz R μ a c xs):∃ g,Els sz μ a c xs g∧∀ (i:Nat) (y:α),xs[i]?=some y→R (g i) y:=by
 rcases h.el with h1 | ⟨b,o,ha,g,hg⟩
 ·exact ⟨fun _=>[],⟨h.le,h.cap,.inl h1⟩,fun i y hy=>by simp [h1] at hy⟩
 ·exact ⟨g,⟨h.le,h.cap,.inr ⟨b,o,ha,fun i y hy=>(hg i y hy).1⟩⟩,fun i y hy=>(hg i y hy).2⟩
theorem Els.up {α:Type} {sz:Nat} {μ μ':M} {a:Option Addr} {c:Nat} {xs:List α} {g:Nat→List Value} (h:Els sz μ a c xs g) (l:Le μ μ'):Els sz μ' a c xs g:=by
 refine ⟨h.1,h.2.1,?_⟩
 rcases h.2.2 with h | ⟨b,o,ha,hg⟩
 ·exact .inl h
 ·exact .inr ⟨b,o,ha,fun i y hy=>(hg i y hy).up l⟩
theorem ExprCs.up {μ μ':M} (l:Le μ μ') {cs:List Value} {x:TExpr} (h:ExprCs μ cs x):ExprCs μ' cs x:=by
 induction h with
 | mk x a c g h k ih=>exact .mk x a c g (h.up l) ih
instance:Mo TExpr where
 sz:=4
 pos:=by decide
 cs:=ExprCs
 ln h:=by cases h; rfl
 up l h:=ExprCs.up l h
 cv h:=by cases h; rfl
theorem TExpr.o {μ:M} {l:List Value} {x:TExpr} (h:Mo.cs μ l x):∃ a c,l=[.int .i64 x.Kind,.int .i64 x.N,S x.Name,.slice a x.Kids.length c]∧Sl μ a c x.Kids:=by
 have hh:ExprCs μ l x:=h
 cases hh with
 | mk _ a c g h1 k1=>exact ⟨a,c,rfl,h1.sl k1⟩
theorem TExpr.i {μ:M} {l:List Value} {x:TExpr} (h:∃ a c,l=[.int .i64 x.Kind,.int .i64 x.N,S x.Name,.slice a x.Kids.length c]∧Sl μ a c x.Kids):Mo.cs μ l x:=by
 obtain ⟨a,c,rfl,h⟩:=h
 obtain ⟨g,h,k⟩:=Els.of h
 exact ExprCs.mk x a c g h k
inductive StatCs (μ:M):List Value→TStat→Prop where
 | mk (x:TStat) (a1:Option Addr) (c1:Nat) (a2:Option Addr) (c2:Nat) (a3:Option Addr) (c3:Nat) (g2 g3:Nat→List Value) (h1:Sl μ a1 c1 x.X.Kids)
   (h2:Els 8 μ a2 c2 x.Body g2) (k2:∀ (i:Nat) (y:TStat),x.Body[i]?=some y→StatCs μ (g2 i) y)
   (h3:Els 8 μ a3 c3 x.Else g3) (k3:∀ (i:Nat) (y:TStat),x.Else[i]?=some y→StatCs μ (g3 i) y) :
  StatCs μ [.int .i64 x.Kind,S x.Name,.int .i64 x.X.Kind,.int .i64 x.X.N,S x.X.Name,.slice a1 x.X.Kids.length c1,.slice a2 x.Body.length c2,.slice a3 x.Else.length c3] x
theorem StatCs.up {μ μ':M} (l:Le μ μ') {cs:List Value} {x:TStat} (h:StatCs μ cs x):StatCs μ' cs x:=by
 induction h with
 | mk x a1 c1 a2 c2 a3 c3 g2 g3 h1 h2 k2 h3 k3 ih2 ih3=>exact .mk x a1 c1 a2 c2 a3 c3 g2 g3 (h1.up l) (h2.up l) ih2 (h3.up l) ih3
instance:Mo TStat where
 sz:=8
 pos:=by decide
 cs:=StatCs
 ln h:=by cases h; rfl
 up l h:=StatCs.up l h
 cv h:=by cases h; rfl
theorem TStat.o {μ:M} {l:List Value} {x:TStat} (h:Mo.cs μ l x):∃ a1 c1 a2 c2 a3 c3,l=[.int .i64 x.Kind,S x.Name,.int .i64 x.X.Kind,.int .i64 x.X.N,S x.X.Name,.slice a1 x.X.Kids.length c1,.slice a2 x.Body.length c2,.slice a3 x.Else.length c3]∧Sl μ a1 c1 x.X.Kids∧Sl μ a2 c2 x.Body∧Sl μ a3 c3 x.Else:=by
 have hh:StatCs μ l x:=h
 cases hh with
 | mk _ a1 c1 a2 c2 a3 c3 g2 g3 h1 h2 k2 h3 k3=>exact ⟨a1,c1,a2,c2,a3,c3,rfl,h1,h2.sl k2,h3.sl k3⟩
theorem TStat.i {μ:M} {l:List Value} {x:TStat} (h:∃ a1 c1 a2 c2 a3 c3,l=[.int .i64 x.Kind,S x.Name,.int .i64 x.X.Kind,.int .i64 x.X.N,S x.X.Name,.slice a1 x.X.Kids.length c1,.slice a2 x.Body.length c2,.slice a3 x.Else.length c3]∧Sl μ a1 c1 x.X.Kids∧Sl μ a2 c2 x.Body∧Sl μ a3 c3 x.Else):Mo.cs μ l x:=by
 obtain ⟨a1,c1,a2,c2,a3,c3,rfl,h1,h2,h3⟩:=h
 obtain ⟨g2,h2,k2⟩:=Els.of h2
 obtain ⟨g3,h3,k3⟩:=Els.of h3
 exact StatCs.mk x a1 c1 a2 c2 a3 c3 g2 g3 h1 h2 k2 h3 k3
structure TToken where
 Kind:Int
 Text:List UInt8
 Num:Int
 At:Int
 deriving DecidableEq,Inhabited,Repr
instance:Mo TToken where
 sz:=4
 pos:=by decide
 cs μ l x:=l=[.int .i64 x.Kind,S x.Text,.int .i64 x.Num,.int .i64 x.At]
 ln h:=by obtain rfl:=h; rfl
 up le h:=by exact h
 cv h:=by obtain rfl:=h; rfl
structure TFault where
 Err:Int
 At:Int
 deriving DecidableEq,Inhabited,Repr
structure TType where
 Kind:Int
 Gen:List UInt8
 deriving DecidableEq,Inhabited,Repr
instance:Mo TType where
 sz:=2
 pos:=by decide
 cs μ l x:=l=[.int .i64 x.Kind,S x.Gen]
 ln h:=by obtain rfl:=h; rfl
 up le h:=by exact h
 cv h:=by obtain rfl:=h; rfl
structure TParam where
 Name:List UInt8
 Typ:TType
 deriving DecidableEq,Inhabited,Repr
instance:Mo TParam where
 sz:=3
 pos:=by decide
 cs μ l x:=l=[S x.Name,.int .i64 x.Typ.Kind,S x.Typ.Gen]
 ln h:=by obtain rfl:=h; rfl
 up le h:=by exact h
 cv h:=by obtain rfl:=h; rfl
structure TDef where
 Kind:Int
 Name:List UInt8
 Typ:TType
 Takes:TType
 Cap:Int
 Params:List TParam
 Body:List TStat
 deriving Inhabited,Repr
instance:Mo TDef where
 sz:=9
 pos:=by decide
 cs μ l x:=∃ a1 c1 a2 c2,l=[.int .i64 x.Kind,S x.Name,.int .i64 x.Typ.Kind,S x.Typ.Gen,.int .i64 x.Takes.Kind,S x.Takes.Gen,.int .i64 x.Cap,.slice a1 x.Params.length c1,.slice a2 x.Body.length c2]∧Sl μ a1 c1 x.Params∧Sl μ a2 c2 x.Body
 ln h:=by obtain ⟨a1,c1,a2,c2,rfl,m1,m2⟩:=h; rfl
 up le h:=by obtain ⟨a1,c1,a2,c2,rfl,m1,m2⟩:=h; exact ⟨a1,c1,a2,c2,rfl,m1.up le,m2.up le⟩
 cv h:=by obtain ⟨a1,c1,a2,c2,rfl,m1,m2⟩:=h; rfl
theorem TDef.i {μ:M} {l:List Value} {x:TDef} (h:∃ a1 c1 a2 c2,l=[.int .i64 x.Kind,S x.Name,.int .i64 x.Typ.Kind,S x.Typ.Gen,.int .i64 x.Takes.Kind,S x.Takes.Gen,.int .i64 x.Cap,.slice a1 x.Params.length c1,.slice a2 x.Body.length c2]∧Sl μ a1 c1 x.Params∧Sl μ a2 c2 x.Body):Mo.cs μ l x:=h
structure TOwner where
 Box:List UInt8
 Writer:List UInt8
 Reader:List UInt8
 deriving DecidableEq,Inhabited,Repr
instance:Mo TOwner where
 sz:=3
 pos:=by decide
 cs μ l x:=l=[S x.Box,S x.Writer,S x.Reader]
 ln h:=by obtain rfl:=h; rfl
 up le h:=by exact h
 cv h:=by obtain rfl:=h; rfl
instance:MV TType:=⟨Av,Av.up⟩
instance:MV TDef:=⟨Pv,Pv.up⟩
structure TSp where
 defs:List TDef
 named:List (List UInt8×TDef)
 deriving Inhabited,Repr
structure TSemaUses where
 calls:List (List UInt8)
 sends:List (List UInt8)
 recvs:List (List UInt8)
 deriving DecidableEq,Inhabited,Repr
instance:Mo TSemaUses where
 sz:=3
 pos:=by decide
 cs μ l x:=∃ a1 c1 a2 c2 a3 c3,l=[.slice a1 x.calls.length c1,.slice a2 x.sends.length c2,.slice a3 x.recvs.length c3]∧Sl μ a1 c1 x.calls∧Sl μ a2 c2 x.sends∧Sl μ a3 c3 x.recvs
 ln h:=by obtain ⟨a1,c1,a2,c2,a3,c3,rfl,m1,m2,m3⟩:=h; rfl
 up le h:=by obtain ⟨a1,c1,a2,c2,a3,c3,rfl,m1,m2,m3⟩:=h; exact ⟨a1,c1,a2,c2,a3,c3,rfl,m1.up le,m2.up le,m3.up le⟩
 cv h:=by obtain ⟨a1,c1,a2,c2,a3,c3,rfl,m1,m2,m3⟩:=h; rfl
theorem TSemaUses.i {μ:M} {l:List Value} {x:TSemaUses} (h:∃ a1 c1 a2 c2 a3 c3,l=[.slice a1 x.calls.length c1,.slice a2 x.sends.length c2,.slice a3 x.recvs.length c3]∧Sl μ a1 c1 x.calls∧Sl μ a2 c2 x.sends∧Sl μ a3 c3 x.recvs):Mo.cs μ l x:=h
structure TSynLevel where
 signs:List (List UInt8×Int)
 once:Bool
 deriving DecidableEq,Inhabited,Repr
instance:Mo TSynLevel where
 sz:=2
 pos:=by decide
 cs μ l x:=∃ b1,l=[.map (some b1),.bool x.once]∧Mr μ b1 x.signs
 ln h:=by obtain ⟨b1,rfl,m1⟩:=h; rfl
 up le h:=by obtain ⟨b1,rfl,m1⟩:=h; exact ⟨b1,rfl,m1.up le⟩
 cv h:=by obtain ⟨b1,rfl,m1⟩:=h; rfl
theorem TSynLevel.i {μ:M} {l:List Value} {x:TSynLevel} (h:∃ b1,l=[.map (some b1),.bool x.once]∧Mr μ b1 x.signs):Mo.cs μ l x:=h
structure TGt where
 boxes:List (List UInt8×Int)
 units:List (List UInt8×Int)
 defs:List (List UInt8×TDef)
 deriving Inhabited,Repr
instance:MV TSemaUses:=⟨Av,Av.up⟩
structure TBi where
 Typ:Int
 Cap:Int
 deriving DecidableEq,Inhabited,Repr
instance:Mo TBi where
 sz:=2
 pos:=by decide
 cs μ l x:=l=[.int .i64 x.Typ,.int .i64 x.Cap]
 ln h:=by obtain rfl:=h; rfl
 up le h:=by exact h
 cv h:=by obtain rfl:=h; rfl
structure TInstr where
 Op:Int
 A:Int
 N:Int
 deriving DecidableEq,Inhabited,Repr
instance:Mo TInstr where
 sz:=3
 pos:=by decide
 cs μ l x:=l=[.int .i64 x.Op,.int .i64 x.A,.int .i64 x.N]
 ln h:=by obtain rfl:=h; rfl
 up le h:=by exact h
 cv h:=by obtain rfl:=h; rfl
structure TUnit where
 Kind:Int
 Params:Int
 Locals:List Int
 Result:Int
 Takes:Int
 Code:List TInstr
 deriving DecidableEq,Inhabited,Repr
instance:Mo TUnit where
 sz:=6
 pos:=by decide
 cs μ l x:=∃ a1 c1 a2 c2,l=[.int .i64 x.Kind,.int .i64 x.Params,.slice a1 x.Locals.length c1,.int .i64 x.Result,.int .i64 x.Takes,.slice a2 x.Code.length c2]∧Sl μ a1 c1 x.Locals∧Sl μ a2 c2 x.Code
 ln h:=by obtain ⟨a1,c1,a2,c2,rfl,m1,m2⟩:=h; rfl
 up le h:=by obtain ⟨a1,c1,a2,c2,rfl,m1,m2⟩:=h; exact ⟨a1,c1,a2,c2,rfl,m1.up le,m2.up le⟩
 cv h:=by obtain ⟨a1,c1,a2,c2,rfl,m1,m2⟩:=h; rfl
theorem TUnit.i {μ:M} {l:List Value} {x:TUnit} (h:∃ a1 c1 a2 c2,l=[.int .i64 x.Kind,.int .i64 x.Params,.slice a1 x.Locals.length c1,.int .i64 x.Result,.int .i64 x.Takes,.slice a2 x.Code.length c2]∧Sl μ a1 c1 x.Locals∧Sl μ a2 c2 x.Code):Mo.cs μ l x:=h
structure TModule where
 Boxes:List TBi
 Units:List TUnit
 deriving DecidableEq,Inhabited,Repr
instance:Mo TModule where
 sz:=2
 pos:=by decide
 cs μ l x:=∃ a1 c1 a2 c2,l=[.slice a1 x.Boxes.length c1,.slice a2 x.Units.length c2]∧Sl μ a1 c1 x.Boxes∧Sl μ a2 c2 x.Units
 ln h:=by obtain ⟨a1,c1,a2,c2,rfl,m1,m2⟩:=h; rfl
 up le h:=by obtain ⟨a1,c1,a2,c2,rfl,m1,m2⟩:=h; exact ⟨a1,c1,a2,c2,rfl,m1.up le,m2.up le⟩
 cv h:=by obtain ⟨a1,c1,a2,c2,rfl,m1,m2⟩:=h; rfl
theorem TModule.i {μ:M} {l:List Value} {x:TModule} (h:∃ a1 c1 a2 c2,l=[.slice a1 x.Boxes.length c1,.slice a2 x.Units.length c2]∧Sl μ a1 c1 x.Boxes∧Sl μ a2 c2 x.Units):Mo.cs μ l x:=h
structure TWhere where
 Err:Int
 Unit:Int
 At:Int
 deriving DecidableEq,Inhabited,Repr
structure TReport where
 State:Int
 Box:Int
 Trap:Int
 Out:List Int
 Sent:List (List Int)
 Took:List Int
 Steps:Int
 deriving DecidableEq,Inhabited,Repr
structure TSo where
 name:List UInt8
 text:List UInt8
 deriving DecidableEq,Inhabited,Repr
instance:Mo TSo where
 sz:=2
 pos:=by decide
 cs μ l x:=l=[S x.name,S x.text]
 ln h:=by obtain rfl:=h; rfl
 up le h:=by exact h
 cv h:=by obtain rfl:=h; rfl
structure TVs where
 stack:List Int
 has:List Bool
 deriving DecidableEq,Inhabited,Repr
instance:Mo TVs where
 sz:=2
 pos:=by decide
 cs μ l x:=∃ a1 c1 a2 c2,l=[.slice a1 x.stack.length c1,.slice a2 x.has.length c2]∧Sl μ a1 c1 x.stack∧Sl μ a2 c2 x.has
 ln h:=by obtain ⟨a1,c1,a2,c2,rfl,m1,m2⟩:=h; rfl
 up le h:=by obtain ⟨a1,c1,a2,c2,rfl,m1,m2⟩:=h; exact ⟨a1,c1,a2,c2,rfl,m1.up le,m2.up le⟩
 cv h:=by obtain ⟨a1,c1,a2,c2,rfl,m1,m2⟩:=h; rfl
theorem TVs.i {μ:M} {l:List Value} {x:TVs} (h:∃ a1 c1 a2 c2,l=[.slice a1 x.stack.length c1,.slice a2 x.has.length c2]∧Sl μ a1 c1 x.stack∧Sl μ a2 c2 x.has):Mo.cs μ l x:=h
structure TVc where
 m:Option TModule
 deriving DecidableEq,Inhabited,Repr
instance:Mo TVc where
 sz:=1
 pos:=by decide
 cs μ l x:=∃ v1,l=[v1]∧Np μ v1 x.m
 ln h:=by obtain ⟨v1,rfl,m1⟩:=h; rfl
 up le h:=by obtain ⟨v1,rfl,m1⟩:=h; exact ⟨v1,rfl,m1.up le⟩
 cv h:=by obtain ⟨v1,rfl,m1⟩:=h; simp [m1.cellV]
theorem TVc.i {μ:M} {l:List Value} {x:TVc} (h:∃ v1,l=[v1]∧Np μ v1 x.m):Mo.cs μ l x:=h
instance:MV TVs:=⟨Av,Av.up⟩
end Go.Y
namespace Go.Y
open Go.Wk Go.Xt
def tx_0:List UInt8:=[32,98,111,120,32,102,110,32,103,101,110,32,116,97,115,107,32,116,97,107,101,115,32,121,105,101,108,100,115,32,108,101,116,32,105,102,32,101,108,115,101,32,119,104,105,108,101,32,114,101,116,117,114,110,32,115,116,111,112,32,115,101,110,100,32,111,117,116,32,100,111,32,114,101,99,118,32,121,105,101,108,100,32,115,116,97,114,116,32,114,101,115,117,109,101,32,97,108,105,118,101,32,110,117,109,32,98,111,111,108,32,116,114,117,101,32,102,97,108,115,101,32,97,110,100,32,111,114,32,110,111,116,32]
def lx_letter  (p_1:UInt8):Option Bool :=
 if (97:Int)≤(p_1.toNat:Int) then
  if (p_1.toNat:Int)≤122 then
   some true
  else
   some (decide ((p_1.toNat:Int)=95))
 else
  some (decide ((p_1.toNat:Int)=95))
def lx_digit  (p_1:UInt8):Option Bool :=
 if (48:Int)≤(p_1.toNat:Int) then
  some (decide ((p_1.toNat:Int)≤57))
 else
  some false
def lx_while_j1 (i13:Int) (k_lx_while_l1:Int→Option Int) (b24:Bool):Option Int :=
 if b24=true then
  (i64 (i13+1)).bind fun i33 =>
  k_lx_while_l1 i33
 else
  some i13
def lx_while_l1 (p_1:List UInt8) (p_2:UInt8→Option Bool):Nat→Int→Option Int
 | 0,_=>none
 | n+1,i13 =>
  if i13<(p_1.length:Int) then
   (at_ p_1 i13).bind fun u26 =>
   (p_2 u26).bind fun b28 =>
   lx_while_j1 i13 (lx_while_l1 p_1 p_2 n) b28
  else
   lx_while_j1 i13 (lx_while_l1 p_1 p_2 n) false
def lx_while (fu:Nat)  (p_1:List UInt8) (p_2:UInt8→Option Bool):Option Int :=
 lx_while_l1 p_1 p_2 fu 0
def lx_t1  (p_1:UInt8):Option Bool :=
 (lx_letter p_1).bind fun r1 =>
 if r1=true then
  some true
 else
  (lx_digit p_1).bind fun r5 =>
  some r5
def lx_n1  (p_1:UInt8):Option Bool :=
 (lx_letter p_1).bind fun r1 =>
 if r1=true then
  some true
 else
  none
def lx_hp0  (p_1:List UInt8) (p_2:List UInt8):Option Bool :=
 if (p_2.length:Int)≤(p_1.length:Int) then
  (cut p_1 0 (p_2.length:Int)).bind fun s2 =>
  some (decide (s2=p_2))
 else
  none
def lx_hp  (p_1:List UInt8) (p_2:List UInt8):Option Bool :=
 (lx_hp0 p_1 p_2).bind fun r1 =>
 some r1
def lx_sign_l1 (p_1:List UInt8):Nat→Int→Option (List UInt8)
 | 0,_=>none
 | n+1,i18 =>
  if i18<18 then
   (at_ [[61,61],[33,61],[60,61],[62,61],[60],[62],[61],[43],[45],[42],[47],[37],[40],[41],[123],[125],[44],[59]] i18).bind fun x34 =>
   (lx_hp p_1 x34).bind fun r42 =>
   if r42=true then
    some x34
   else
    (i64 (i18+1)).bind fun i46 =>
    lx_sign_l1 p_1 n i46
  else
   none
def lx_sign  (p_1:List UInt8):Option (List UInt8) :=
 lx_sign_l1 p_1 19 0
def lx_space_j1 (i6:Int) (u14:UInt8) (k_lx_space_l1:Int→Option Int) (b16:Bool):Option Int :=
 if b16=true then
  (i64 (i6+1)).bind fun i21 =>
  k_lx_space_l1 i21
 else
  if (u14.toNat:Int)=35 then
   none
  else
   some i6
def lx_space_l1 (p_1:List UInt8):Nat→Int→Option Int
 | 0,_=>none
 | n+1,i6 =>
  if i6<(p_1.length:Int) then
   (at_ p_1 i6).bind fun u14 =>
   if (u14.toNat:Int)=32 then
    lx_space_j1 i6 u14 (lx_space_l1 p_1 n) (decide ((u14.toNat:Int)=32))
   else
    if (u14.toNat:Int)=9 then
     none
    else
     lx_space_j1 i6 u14 (lx_space_l1 p_1 n) (decide ((u14.toNat:Int)=10))
  else
   some i6
def lx_space (fu:Nat)  (p_1:List UInt8):Option Int :=
 lx_space_l1 p_1 fu 0
def lex_named (fu:Nat)  (p_1:List UInt8):Option Bool :=
 if (p_1.length:Int)<1 then
  none
 else
  if (12:Int)<(p_1.length:Int) then
   none
  else
   (at_ p_1 0).bind fun u3 =>
   (lx_letter u3).bind fun r5 =>
   if r5=true then
    (cat [32] p_1).bind fun s9 =>
    (cat s9 [32]).bind fun s11 =>
    (scont tx_0 s11).bind fun b13 =>
    if b13=true then
     none
    else
     (lx_while fu p_1 lx_n1).bind fun r16 =>
     some (decide (r16=(p_1.length:Int)))
   else
    none
def lex_tokens_j1 (fu:Nat) (p_1:List UInt8) (i58:Int) (l61:List TToken) (k_lex_tokens_l1:Int→(List TToken)→Option (List TToken×TFault)) (i118:Int) (s119:List UInt8) (i120:Int):Option (List TToken×TFault) :=
 (app l61 [(TToken.mk i118 s119 i120 i58)]).bind fun l151 =>
 (i64 (i58+(s119.length:Int))).bind fun i154 =>
 (cut p_1 i154 p_1.length).bind fun s156 =>
 (lx_space fu s156).bind fun r158 =>
 (i64 (i154+r158)).bind fun i161 =>
 k_lex_tokens_l1 i161 l151
def lex_tokens_l1 (fu:Nat) (p_1:List UInt8):Nat→Int→(List TToken)→Option (List TToken×TFault)
 | 0,_,_=>none
 | n+1,i58,l61 =>
  if i58<(p_1.length:Int) then
   (cut p_1 i58 p_1.length).bind fun s112 =>
   (at_ s112 0).bind fun u116 =>
   (lx_letter u116).bind fun r121 =>
   if r121=true then
    (lx_while fu s112 lx_t1).bind fun r125 =>
    (cut s112 0 r125).bind fun s128 =>
    lex_tokens_j1 fu p_1 i58 l61 (lex_tokens_l1 fu p_1 n) 1 s128 0
   else
    (lx_digit u116).bind fun r130 =>
    if r130=true then
     (lx_while fu s112 lx_digit).bind fun r134 =>
     (cut s112 0 r134).bind fun s137 =>
     if (15:Int)<(s137.length:Int) then
      none
     else
      (pint s137).bind fun i140 =>
      lex_tokens_j1 fu p_1 i58 l61 (lex_tokens_l1 fu p_1 n) 2 s137 i140
    else
     (lx_sign s112).bind fun r142 =>
     if r142=[] then
      none
     else
      lex_tokens_j1 fu p_1 i58 l61 (lex_tokens_l1 fu p_1 n) 3 r142 0
  else
   some (l61,(TFault.mk 0 0))
def lex_tokens (fu:Nat)  (p_1:List UInt8):Option (List TToken×TFault) :=
 if (6000:Int)<(p_1.length:Int) then
  none
 else
  (lx_space fu p_1).bind fun r7 =>
  lex_tokens_l1 fu p_1 fu r7 []
end Go.Y
namespace Go.Y
open Go.Wk Go.Xt
def syn_kids_j2  (b8:Bool):Option Int :=
 if b8=true then
  some 2
 else
  some (-1)
def syn_kids_j1 (p_1:Int) (b1:Bool):Option Int :=
 if b1=true then
  some 0
 else
  if p_1≤5 then
   none
  else
   if p_1=21 then
    none
   else
    if p_1=24 then
     none
    else
     if p_1≤18 then
      syn_kids_j2 true
     else
      syn_kids_j2 (decide (p_1=23))
def syn_kids  (p_1:Int):Option Int :=
 if p_1≤3 then
  syn_kids_j1 p_1 true
 else
  syn_kids_j1 p_1 (decide (p_1=20))
def syn_node  (node_2:Int) (p_2:Int):Option (Int×Int) :=
 (i64 (node_2+1)).bind fun i3 =>
 if (2000:Int)<i3 then
  none
 else
  if (40:Int)<p_2 then
   none
  else
   some (0,i3)
def syn_typ  (p_1:TType):Option Int :=
 if p_1.Kind<1 then
  none
 else
  if (3:Int)<p_1.Kind then
   none
  else
   if p_1.Kind=3 then
    none
   else
    some 0
structure SynExpr where
 syn_expr:Int→TExpr→Int→Option (Int×Int)
def syn_expr_l1 (self:SynExpr) (p_2:TExpr) (p_3:Int):Nat→Int→Int→Option (Int×Int)
 | 0,_,_=>none
 | n+1,i69,i70 =>
  if i69<(p_2.Kids.length:Int) then
   (at_ p_2.Kids i69).bind fun x91 =>
   (i64 (p_3+1)).bind fun i102 =>
   (self.syn_expr i70 x91 i102).bind fun r104 =>
   if r104.1≠0 then
    none
   else
    (i64 (i69+1)).bind fun i108 =>
    syn_expr_l1 self p_2 p_3 n i108 r104.2
  else
   some (0,i70)
def syn_expr_j5 (self:SynExpr) (p_2:TExpr) (p_3:Int) (r9:Int×Int) (b46:Bool):Option (Int×Int) :=
 if b46=true then
  none
 else
  syn_expr_l1 self p_2 p_3 (p_2.Kids.length+1) 0 r9.2
def syn_expr_j4 (self:SynExpr) (p_2:TExpr) (p_3:Int) (r9:Int×Int) (r15:Int) (b43:Bool):Option (Int×Int) :=
 if b43=true then
  none
 else
  if r15<0 then
   syn_expr_j5 self p_2 p_3 r9 (decide ((6:Int)<(p_2.Kids.length:Int)))
  else
   syn_expr_j5 self p_2 p_3 r9 false
def syn_expr_j3 (self:SynExpr) (p_2:TExpr) (p_3:Int) (r9:Int×Int) (r15:Int) (b28:Bool):Option (Int×Int) :=
 if b28=true then
  none
 else
  if (0:Int)≤r15 then
   syn_expr_j4 self p_2 p_3 r9 r15 (decide ((p_2.Kids.length:Int)≠r15))
  else
   syn_expr_j4 self p_2 p_3 r9 r15 false
def syn_expr_j2 (fu:Nat) (self:SynExpr) (p_2:TExpr) (p_3:Int) (r9:Int×Int) (r15:Int) (b22:Bool):Option (Int×Int) :=
 if b22=true then
  none
 else
  if p_2.Kind=3 then
   (lex_named fu p_2.Name).bind fun r30 =>
   syn_expr_j3 self p_2 p_3 r9 r15 (!r30)
  else
   if p_2.Kind=20 then
    (lex_named fu p_2.Name).bind fun r34 =>
    syn_expr_j3 self p_2 p_3 r9 r15 (!r34)
   else
    if r15<0 then
     (lex_named fu p_2.Name).bind fun r38 =>
     syn_expr_j3 self p_2 p_3 r9 r15 (!r38)
    else
     syn_expr_j3 self p_2 p_3 r9 r15 false
def syn_expr_j1 (fu:Nat) (self:SynExpr) (p_2:TExpr) (p_3:Int) (r9:Int×Int) (r15:Int) (b18:Bool):Option (Int×Int) :=
 if b18=true then
  none
 else
  if p_2.Kind=2 then
   if p_2.N≠0 then
    syn_expr_j2 fu self p_2 p_3 r9 r15 (decide (p_2.N≠1))
   else
    syn_expr_j2 fu self p_2 p_3 r9 r15 false
  else
   syn_expr_j2 fu self p_2 p_3 r9 r15 false
def syn_expr (fu:Nat) (self:SynExpr) (node_2:Int) (p_2:TExpr) (p_3:Int):Option (Int×Int) :=
 (syn_node node_2 p_3).bind fun r9 =>
 if r9.1≠0 then
  none
 else
  if p_2.Kind<1 then
   none
  else
   if (24:Int)<p_2.Kind then
    none
   else
    (syn_kids p_2.Kind).bind fun r15 =>
    if p_2.Kind=1 then
     if p_2.N<0 then
      none
     else
      syn_expr_j1 fu self p_2 p_3 r9 r15 (decide ((999999999999999:Int)<p_2.N))
    else
     syn_expr_j1 fu self p_2 p_3 r9 r15 false
def SynExpr_run:Nat→SynExpr
 | 0=>⟨fun _ _ _=>none⟩
 | n+1=>⟨syn_expr n (SynExpr_run n)⟩
structure SynStat where
 syn_stats:Int→(List TStat)→Int→Option (Int×Int)
 syn_stat:Int→TStat→Int→Option (Int×Int)
def syn_stats_l1 (self:SynStat) (p_2:List TStat) (p_3:Int):Nat→Int→Int→Option (Int×Int)
 | 0,_,_=>none
 | n+1,i29,i30 =>
  if i29<(p_2.length:Int) then
   (at_ p_2 i29).bind fun x55 =>
   (self.syn_stat i30 x55 p_3).bind fun r72 =>
   if r72.1≠0 then
    none
   else
    (i64 (i29+1)).bind fun i76 =>
    syn_stats_l1 self p_2 p_3 n i76 r72.2
  else
   some (0,i30)
def syn_stats (self:SynStat) (node_2:Int) (p_2:List TStat) (p_3:Int):Option (Int×Int) :=
 if (50:Int)<(p_2.length:Int) then
  none
 else
  syn_stats_l1 self p_2 p_3 (p_2.length+1) 0 node_2
def syn_stat_j3 (self:SynStat) (p_2:TStat) (p_3:Int) (i43:Int):Option (Int×Int) :=
 if p_2.Kind=3 then
  (i64 (p_3+1)).bind fun i53 =>
  (self.syn_stats i43 p_2.Else i53).bind fun r55 =>
  some (r55.1,r55.2)
 else
  some (0,i43)
def syn_stat_j2 (self:SynStat) (p_2:TStat) (p_3:Int) (r36:Int×Int) (b40:Bool):Option (Int×Int) :=
 if b40=true then
  (i64 (p_3+1)).bind fun i45 =>
  (self.syn_stats r36.2 p_2.Body i45).bind fun r47 =>
  if r47.1≠0 then
   none
  else
   syn_stat_j3 self p_2 p_3 r47.2
 else
  syn_stat_j3 self p_2 p_3 r36.2
def syn_stat_j1 (fu:Nat) (self:SynStat) (p_2:TStat) (p_3:Int) (r15:Int×Int) (b21:Bool):Option (Int×Int) :=
 if b21=true then
  none
 else
  if p_2.Kind=6 then
   none
  else
   (i64 (p_3+1)).bind fun i34 =>
   ((SynExpr_run fu).syn_expr r15.2 p_2.X i34).bind fun r36 =>
   if r36.1≠0 then
    none
   else
    if p_2.Kind=3 then
     syn_stat_j2 self p_2 p_3 r36 true
    else
     syn_stat_j2 self p_2 p_3 r36 (decide (p_2.Kind=4))
def syn_stat (fu:Nat) (self:SynStat) (node_2:Int) (p_2:TStat) (p_3:Int):Option (Int×Int) :=
 (syn_node node_2 p_3).bind fun r15 =>
 if r15.1≠0 then
  none
 else
  if p_2.Kind<1 then
   none
  else
   if (9:Int)<p_2.Kind then
    none
   else
    if p_2.Kind=1 then
     (lex_named fu p_2.Name).bind fun r23 =>
     syn_stat_j1 fu self p_2 p_3 r15 (!r23)
    else
     if p_2.Kind=2 then
      (lex_named fu p_2.Name).bind fun r27 =>
      syn_stat_j1 fu self p_2 p_3 r15 (!r27)
     else
      if p_2.Kind=7 then
       none
      else
       syn_stat_j1 fu self p_2 p_3 r15 false
def SynStat_run:Nat→SynStat
 | 0=>⟨fun _ _ _=>none,fun _ _ _=>none⟩
 | n+1=>⟨syn_stats (SynStat_run n),syn_stat n (SynStat_run n)⟩
def syn_def_j3 (fu:Nat) (p_2:TDef) (r12:Int×Int) :Option (Int×Int) :=
 if p_2.Kind≠1 then
  ((SynStat_run fu).syn_stats r12.2 p_2.Body 2).bind fun r95 =>
  some (r95.1,r95.2)
 else
  if p_2.Cap<1 then
   none
  else
   if (20:Int)<p_2.Cap then
    none
   else
    some (0,r12.2)
def syn_def_j2 (fu:Nat) (p_2:TDef) (r12:Int×Int) :Option (Int×Int) :=
 if p_2.Kind=3 then
  none
 else
  if p_2.Kind≠4 then
   (syn_typ p_2.Typ).bind fun r89 =>
   if r89≠0 then
    none
   else
    syn_def_j3 fu p_2 r12
  else
   syn_def_j3 fu p_2 r12
def syn_def_l1 (fu:Nat) (p_2:TDef) (r12:Int×Int):Nat→Int→Option (Int×Int)
 | 0,_=>none
 | n+1,i45 =>
  if i45<(p_2.Params.length:Int) then
   (at_ p_2.Params i45).bind fun x66 =>
   (lex_named fu x66.Name).bind fun r76 =>
   if r76=true then
    (syn_typ x66.Typ).bind fun r80 =>
    if r80≠0 then
     none
    else
     (i64 (i45+1)).bind fun i84 =>
     syn_def_l1 fu p_2 r12 n i84
   else
    none
  else
   syn_def_j2 fu p_2 r12
def syn_def_j1 (fu:Nat) (p_2:TDef) (r12:Int×Int) (b22:Bool):Option (Int×Int) :=
 if b22=true then
  if (6:Int)<(p_2.Params.length:Int) then
   none
  else
   syn_def_l1 fu p_2 r12 (p_2.Params.length+1) 0
 else
  syn_def_j2 fu p_2 r12
def syn_def (fu:Nat)  (node_2:Int) (p_2:TDef):Option (Int×Int) :=
 (syn_node node_2 1).bind fun r12 =>
 if r12.1≠0 then
  none
 else
  if p_2.Kind<1 then
   none
  else
   if (4:Int)<p_2.Kind then
    none
   else
    (lex_named fu p_2.Name).bind fun r18 =>
    if r18=true then
     if p_2.Kind=2 then
      syn_def_j1 fu p_2 r12 true
     else
      syn_def_j1 fu p_2 r12 (decide (p_2.Kind=3))
    else
     none
def syn_wrong_l1 (fu:Nat) (p_1:List TDef):Nat→Int→Int→Option TFault
 | 0,_,_=>none
 | n+1,i28,i29 =>
  if i28<(p_1.length:Int) then
   (at_ p_1 i28).bind fun x51 =>
   (syn_def fu i29 x51).bind fun r65 =>
   if r65.1≠0 then
    none
   else
    (i64 (i28+1)).bind fun i69 =>
    syn_wrong_l1 fu p_1 n i69 r65.2
  else
   some (TFault.mk 0 0)
def syn_wrong (fu:Nat)  (p_1:List TDef):Option TFault :=
 if (30:Int)<(p_1.length:Int) then
  none
 else
  syn_wrong_l1 fu p_1 (p_1.length+1) 0 0
end Go.Y
namespace Go.Y
open Go.Wk Go.Xt
def p_at  (left_2:List TToken) (end_6:Int) (deep_7:Int):Option Int :=
 if (left_2.length:Int)=0 then
  none
 else
  (at_ left_2 0).bind fun x9 =>
  some x9.At
def p_sees  (left_2:List TToken) (end_6:Int) (deep_7:Int) (p_2:List UInt8):Option Bool :=
 if (0:Int)<(left_2.length:Int) then
  (at_ left_2 0).bind fun x9 =>
  some (decide (x9.Text=p_2))
 else
  none
def p_is  (left_2:List TToken) (end_6:Int) (deep_7:Int) (p_2:List UInt8):Option (Bool×List TToken×Int×Int) :=
 (p_sees left_2 end_6 deep_7 p_2).bind fun r11 =>
 if r11=true then
  (cut left_2 1 left_2.length).bind fun l15 =>
  some (true,l15,end_6,deep_7)
 else
  some (false,left_2,end_6,deep_7)
def p_need_l1 (p_2:List (List UInt8)):Nat→Int→(List TToken)→Int→Int→Option (List TToken×Int×Int)
 | 0,_,_,_,_=>none
 | n+1,i30,l33,i35,i36 =>
  if i30<(p_2.length:Int) then
   (at_ p_2 i30).bind fun x56 =>
   (p_is l33 i35 i36 x56).bind fun r64 =>
   if r64.1=true then
    (i64 (i30+1)).bind fun i71 =>
    p_need_l1 p_2 n i71 r64.2.1 r64.2.2.1 r64.2.2.2
   else
    none
  else
   some (l33,i35,i36)
def p_need  (left_2:List TToken) (end_6:Int) (deep_7:Int) (p_2:List (List UInt8)):Option (List TToken×Int×Int) :=
 p_need_l1 p_2 (p_2.length+1) 0 left_2 end_6 deep_7
def p_name (fu:Nat)  (left_2:List TToken) (end_6:Int) (deep_7:Int):Option (List UInt8×List TToken×Int×Int) :=
 if (left_2.length:Int)=0 then
  none
 else
  (at_ left_2 0).bind fun x12 =>
  if x12.Kind≠1 then
   none
  else
   (at_ left_2 0).bind fun x21 =>
   (lex_named fu x21.Text).bind fun r29 =>
   if r29=true then
    (cut left_2 1 left_2.length).bind fun l33 =>
    some (x21.Text,l33,end_6,deep_7)
   else
    none
def p_number  (left_2:List TToken) (end_6:Int) (deep_7:Int):Option (Int×List TToken×Int×Int) :=
 if (left_2.length:Int)=0 then
  none
 else
  (at_ left_2 0).bind fun x12 =>
  if x12.Kind≠2 then
   none
  else
   (at_ left_2 0).bind fun x21 =>
   (cut left_2 1 left_2.length).bind fun l29 =>
   some (x21.Num,l29,end_6,deep_7)
def p_typ  (left_2:List TToken) (end_6:Int) (deep_7:Int):Option (TType×List TToken×Int×Int) :=
 (p_is left_2 end_6 deep_7 [110,117,109]).bind fun r13 =>
 if r13.1=true then
  some ((TType.mk 1 []),r13.2.1,r13.2.2.1,r13.2.2.2)
 else
  (p_is r13.2.1 r13.2.2.1 r13.2.2.2 [98,111,111,108]).bind fun r20 =>
  if r20.1=true then
   some ((TType.mk 2 []),r20.2.1,r20.2.2.1,r20.2.2.2)
  else
   none
def p_params_j1 (fu:Nat) (l74:List TParam) (k_p_params_l1:(List TToken)→Int→Int→(List TParam)→Option (List TParam×List TToken×Int×Int)) (l129:List TToken) (i131:Int) (i132:Int):Option (List TParam×List TToken×Int×Int) :=
 if (l74.length:Int)=6 then
  none
 else
  (p_name fu l129 i131 i132).bind fun r147 =>
  (p_typ r147.2.1 r147.2.2.1 r147.2.2.2).bind fun r153 =>
  (app l74 [(TParam.mk r147.1 (TType.mk r153.1.Kind r153.1.Gen))]).bind fun l163 =>
  k_p_params_l1 r153.2.1 r153.2.2.1 r153.2.2.2 l163
def p_params_l1 (fu:Nat):Nat→(List TToken)→Int→Int→(List TParam)→Option (List TParam×List TToken×Int×Int)
 | 0,_,_,_,_=>none
 | n+1,l68,i70,i71,l74 =>
  (p_is l68 i70 i71 [41]).bind fun r120 =>
  if r120.1=true then
   some (l74,r120.2.1,r120.2.2.1,r120.2.2.2)
  else
   if (0:Int)<(l74.length:Int) then
    (p_need r120.2.1 r120.2.2.1 r120.2.2.2 [[44]]).bind fun r138 =>
    p_params_j1 fu l74 (p_params_l1 fu n) r138.1 r138.2.1 r138.2.2
   else
    p_params_j1 fu l74 (p_params_l1 fu n) r120.2.1 r120.2.2.1 r120.2.2.2
def p_params (fu:Nat)  (left_2:List TToken) (end_6:Int) (deep_7:Int):Option (List TParam×List TToken×Int×Int) :=
 (p_need left_2 end_6 deep_7 [[40]]).bind fun r18 =>
 p_params_l1 fu fu r18.1 r18.2.1 r18.2.2 []
def p_levels  :Option (List TSynLevel) :=
 some [(TSynLevel.mk (mput ([]:List (List UInt8×Int)) [111,114] 18) false),(TSynLevel.mk (mput ([]:List (List UInt8×Int)) [97,110,100] 17) false),(TSynLevel.mk (mput (mput (mput (mput (mput (mput ([]:List (List UInt8×Int)) [61,61] 11) [33,61] 12) [60] 13) [60,61] 14) [62] 15) [62,61] 16) true),(TSynLevel.mk (mput (mput ([]:List (List UInt8×Int)) [43] 6) [45] 7) false),(TSynLevel.mk (mput (mput (mput ([]:List (List UInt8×Int)) [42] 8) [47] 9) [37] 10) false)]
def p_into  (left_2:List TToken) (end_6:Int) (deep_7:Int):Option (List TToken×Int×Int) :=
 (i64 (deep_7+1)).bind fun i14 =>
 if (200:Int)<i14 then
  none
 else
  some (left_2,end_6,i14)
def p_out  (left_3:List TToken) (end_7:Int) (deep_8:Int):Option (List TToken×Int×Int) :=
 (i64 (deep_8 - 1)).bind fun i12 =>
 some (left_3,end_7,i12)
end Go.Y
namespace Go.Y
open Go.Wk Go.Xt
structure ParE where
 p_expr:(List TToken)→Int→Int→Option (TExpr×List TToken×Int×Int)
 p_level:(List TToken)→Int→Int→Int→Option (TExpr×List TToken×Int×Int)
 p_unary:(List TToken)→Int→Int→Option (TExpr×List TToken×Int×Int)
 p_primary:(List TToken)→Int→Int→Option (TExpr×List TToken×Int×Int)
 p_args:(List TToken)→Int→Int→Option (List TExpr×List TToken×Int×Int)
def p_expr (self:ParE) (left_2:List TToken) (end_6:Int) (deep_7:Int):Option (TExpr×List TToken×Int×Int) :=
 (p_into left_2 end_6 deep_7).bind fun r16 =>
 (self.p_level r16.1 r16.2.1 r16.2.2 0).bind fun r23 =>
 (p_out r23.2.1 r23.2.2.1 r23.2.2.2).bind fun r32 =>
 some (r23.1,r32.1,r32.2.1,r32.2.2)
def p_level_j1  (l48:List TToken) (i50:Int) (i51:Int) (i52:Int) (i53:Int) (s54:List UInt8) (l57:List TExpr):Option (TExpr×List TToken×Int×Int) :=
 some ((TExpr.mk i52 i53 s54 l57),l48,i50,i51)
def p_level_j2 (p_2:Int) (r16:List TSynLevel) (x182:TSynLevel) (x192:TToken) (k_p_level_l1:(List TToken)→Int→Int→Int→Int→(List UInt8)→(List TExpr)→Option (TExpr×List TToken×Int×Int)) (l215:List TToken) (i217:Int) (i218:Int) (l221:List TExpr):Option (TExpr×List TToken×Int×Int) :=
 (at_ r16 p_2).bind fun x249 =>
 if x249.once=true then
  p_level_j1 l215 i217 i218 ((mget x182.signs x192.Text).getD 0) 0 [] l221
 else
  k_p_level_l1 l215 i217 i218 ((mget x182.signs x192.Text).getD 0) 0 [] l221
def p_level_l1 (self:ParE) (p_2:Int) (r16:List TSynLevel):Nat→(List TToken)→Int→Int→Int→Int→(List UInt8)→(List TExpr)→Option (TExpr×List TToken×Int×Int)
 | 0,_,_,_,_,_,_,_=>none
 | n+1,l114,i116,i117,i118,i119,s120,l123 =>
  if (0:Int)<(l114.length:Int) then
   (at_ r16 p_2).bind fun x182 =>
   (at_ l114 0).bind fun x192 =>
   if ((mget x182.signs x192.Text).getD 0)=0 then
    p_level_j1 l114 i116 i117 i118 i119 s120 l123
   else
    (cut l114 1 l114.length).bind fun l207 =>
    (i64 (p_2+1)).bind fun i231 =>
    (self.p_level l207 i116 i117 i231).bind fun r233 =>
    p_level_j2 p_2 r16 x182 x192 (p_level_l1 self p_2 r16 n) r233.2.1 r233.2.2.1 r233.2.2.2 [(TExpr.mk i118 i119 s120 l123),r233.1]
  else
   none
def p_level (fu:Nat) (self:ParE) (left_2:List TToken) (end_6:Int) (deep_7:Int) (p_2:Int):Option (TExpr×List TToken×Int×Int) :=
 (p_levels ).bind fun r16 =>
 if p_2=(r16.length:Int) then
  (self.p_unary left_2 end_6 deep_7).bind fun r23 =>
  some (r23.1,r23.2.1,r23.2.2.1,r23.2.2.2)
 else
  (i64 (p_2+1)).bind fun i33 =>
  (self.p_level left_2 end_6 deep_7 i33).bind fun r35 =>
  p_level_l1 self p_2 r16 fu r35.2.1 r35.2.2.1 r35.2.2.2 r35.1.Kind r35.1.N r35.1.Name r35.1.Kids
def p_unary (self:ParE) (left_2:List TToken) (end_6:Int) (deep_7:Int):Option (TExpr×List TToken×Int×Int) :=
 (p_is left_2 end_6 deep_7 [45]).bind fun r31 =>
 if r31.1=true then
  none
 else
  (p_is r31.2.1 r31.2.2.1 r31.2.2.2 [110,111,116]).bind fun r38 =>
  if r38.1=true then
   none
  else
   (self.p_primary r38.2.1 r38.2.2.1 r38.2.2.2).bind fun r45 =>
   some (r45.1,r45.2.1,r45.2.2.1,r45.2.2.2)
def p_primary (fu:Nat) (self:ParE) (left_2:List TToken) (end_6:Int) (deep_7:Int):Option (TExpr×List TToken×Int×Int) :=
 if (0:Int)<(left_2.length:Int) then
  (at_ left_2 0).bind fun x17 =>
  if x17.Kind=2 then
   (p_number left_2 end_6 deep_7).bind fun r26 =>
   some ((TExpr.mk 1 r26.1 [] ([]:List TExpr)),r26.2.1,r26.2.2.1,r26.2.2.2)
  else
   (p_is left_2 end_6 deep_7 [116,114,117,101]).bind fun r32 =>
   if r32.1=true then
    some ((TExpr.mk 2 1 [] ([]:List TExpr)),r32.2.1,r32.2.2.1,r32.2.2.2)
   else
    (p_is r32.2.1 r32.2.2.1 r32.2.2.2 [102,97,108,115,101]).bind fun r39 =>
    if r39.1=true then
     some ((TExpr.mk 2 0 [] ([]:List TExpr)),r39.2.1,r39.2.2.1,r39.2.2.2)
    else
     (p_is r39.2.1 r39.2.2.1 r39.2.2.2 [40]).bind fun r46 =>
     if r46.1=true then
      none
     else
      (p_is r46.2.1 r46.2.2.1 r46.2.2.2 [114,101,99,118]).bind fun r53 =>
      if r53.1=true then
       (p_need r53.2.1 r53.2.2.1 r53.2.2.2 [[40]]).bind fun r64 =>
       (p_name fu r64.1 r64.2.1 r64.2.2).bind fun r70 =>
       (p_need r70.2.1 r70.2.2.1 r70.2.2.2 [[41]]).bind fun r82 =>
       some ((TExpr.mk 20 0 r70.1 ([]:List TExpr)),r82.1,r82.2.1,r82.2.2)
      else
       (p_is r53.2.1 r53.2.2.1 r53.2.2.2 [121,105,101,108,100]).bind fun r88 =>
       if r88.1=true then
        none
       else
        (p_is r88.2.1 r88.2.2.1 r88.2.2.2 [114,101,115,117,109,101]).bind fun r95 =>
        if r95.1=true then
         none
        else
         (p_is r95.2.1 r95.2.2.1 r95.2.2.2 [97,108,105,118,101]).bind fun r102 =>
         if r102.1=true then
          none
         else
          (p_is r102.2.1 r102.2.2.1 r102.2.2.2 [115,116,97,114,116]).bind fun r109 =>
          if r109.1=true then
           none
          else
           (p_name fu r109.2.1 r109.2.2.1 r109.2.2.2).bind fun r116 =>
           (p_sees r116.2.1 r116.2.2.1 r116.2.2.2 [40]).bind fun r122 =>
           if r122=true then
            (self.p_args r116.2.1 r116.2.2.1 r116.2.2.2).bind fun r126 =>
            some ((TExpr.mk 19 0 r116.1 r126.1),r126.2.1,r126.2.2.1,r126.2.2.2)
           else
            some ((TExpr.mk 3 0 r116.1 ([]:List TExpr)),r116.2.1,r116.2.2.1,r116.2.2.2)
 else
  none
def p_args_j1 (self:ParE) (l71:List TExpr) (k_p_args_l1:(List TToken)→Int→Int→(List TExpr)→Option (List TExpr×List TToken×Int×Int)) (l123:List TToken) (i125:Int) (i126:Int):Option (List TExpr×List TToken×Int×Int) :=
 if (l71.length:Int)=6 then
  none
 else
  (self.p_expr l123 i125 i126).bind fun r141 =>
  (app l71 [r141.1]).bind fun l154 =>
  k_p_args_l1 r141.2.1 r141.2.2.1 r141.2.2.2 l154
def p_args_l1 (self:ParE):Nat→(List TToken)→Int→Int→(List TExpr)→Option (List TExpr×List TToken×Int×Int)
 | 0,_,_,_,_=>none
 | n+1,l65,i67,i68,l71 =>
  (p_is l65 i67 i68 [41]).bind fun r114 =>
  if r114.1=true then
   some (l71,r114.2.1,r114.2.2.1,r114.2.2.2)
  else
   if (0:Int)<(l71.length:Int) then
    (p_need r114.2.1 r114.2.2.1 r114.2.2.2 [[44]]).bind fun r132 =>
    p_args_j1 self l71 (p_args_l1 self n) r132.1 r132.2.1 r132.2.2
   else
    p_args_j1 self l71 (p_args_l1 self n) r114.2.1 r114.2.2.1 r114.2.2.2
def p_args (fu:Nat) (self:ParE) (left_2:List TToken) (end_6:Int) (deep_7:Int):Option (List TExpr×List TToken×Int×Int) :=
 (p_need left_2 end_6 deep_7 [[40]]).bind fun r18 =>
 p_args_l1 self fu r18.1 r18.2.1 r18.2.2 []
def ParE_run:Nat→ParE
 | 0=>⟨fun _ _ _=>none,fun _ _ _ _=>none,fun _ _ _=>none,fun _ _ _=>none,fun _ _ _=>none⟩
 | n+1=>⟨p_expr (ParE_run n),p_level n (ParE_run n),p_unary (ParE_run n),p_primary n (ParE_run n),p_args n (ParE_run n)⟩
structure ParS where
 p_body:(List TToken)→Int→Int→Option (List TStat×List TToken×Int×Int)
 p_stat:(List TToken)→Int→Int→Option (TStat×List TToken×Int×Int)
def p_body_l1 (self:ParS):Nat→(List TToken)→Int→Int→(List TStat)→Option (List TStat×List TToken×Int×Int)
 | 0,_,_,_,_=>none
 | n+1,l62,i65,i66,l69 =>
  (p_is l62 i65 i66 [125]).bind fun r102 =>
  if r102.1=true then
   (p_out r102.2.1 r102.2.2.1 r102.2.2.2).bind fun r132 =>
   some (l69,r132.1,r132.2.1,r132.2.2)
  else
   if (l69.length:Int)=50 then
    none
   else
    (self.p_stat r102.2.1 r102.2.2.1 r102.2.2.2).bind fun r110 =>
    (app l69 [r110.1]).bind fun l129 =>
    p_body_l1 self n r110.2.1 r110.2.2.1 r110.2.2.2 l129
def p_body (fu:Nat) (self:ParS) (left_2:List TToken) (end_6:Int) (deep_7:Int):Option (List TStat×List TToken×Int×Int) :=
 (p_into left_2 end_6 deep_7).bind fun r14 =>
 (p_need r14.1 r14.2.1 r14.2.2 [[123]]).bind fun r25 =>
 p_body_l1 self fu r25.1 r25.2.1 r25.2.2 []
def p_stat_j1  (l26:List TToken) (i28:Int) (i29:Int) (i30:Int) (s31:List UInt8) (i33:Int) (i34:Int) (s35:List UInt8) (l38:List TExpr):Option (TStat×List TToken×Int×Int) :=
 (p_need l26 i28 i29 [[59]]).bind fun r236 =>
 some ((TStat.mk i30 s31 (TExpr.mk i33 i34 s35 l38) ([]:List TStat) ([]:List TStat)),r236.1,r236.2.1,r236.2.2)
def p_stat_j2 (r47:TExpr×List TToken×Int×Int) (r56:List TStat×List TToken×Int×Int) (l73:List TToken) (i75:Int) (i76:Int) (l79:List TStat):Option (TStat×List TToken×Int×Int) :=
 some ((TStat.mk 3 [] (TExpr.mk r47.1.Kind r47.1.N r47.1.Name r47.1.Kids) r56.1 l79),l73,i75,i76)
def p_stat (fu:Nat) (self:ParS) (left_2:List TToken) (end_6:Int) (deep_7:Int):Option (TStat×List TToken×Int×Int) :=
 (p_is left_2 end_6 deep_7 [105,102]).bind fun r40 =>
 if r40.1=true then
  ((ParE_run fu).p_expr r40.2.1 r40.2.2.1 r40.2.2.2).bind fun r47 =>
  (self.p_body r47.2.1 r47.2.2.1 r47.2.2.2).bind fun r56 =>
  (p_is r56.2.1 r56.2.2.1 r56.2.2.2 [101,108,115,101]).bind fun r65 =>
  if r65.1=true then
   (self.p_body r65.2.1 r65.2.2.1 r65.2.2.2).bind fun r82 =>
   p_stat_j2 r47 r56 r82.2.1 r82.2.2.1 r82.2.2.2 r82.1
  else
   p_stat_j2 r47 r56 r65.2.1 r65.2.2.1 r65.2.2.2 []
 else
  (p_is r40.2.1 r40.2.2.1 r40.2.2.2 [119,104,105,108,101]).bind fun r94 =>
  if r94.1=true then
   ((ParE_run fu).p_expr r94.2.1 r94.2.2.1 r94.2.2.2).bind fun r101 =>
   (self.p_body r101.2.1 r101.2.2.1 r101.2.2.2).bind fun r110 =>
   some ((TStat.mk 4 [] (TExpr.mk r101.1.Kind r101.1.N r101.1.Name r101.1.Kids) r110.1 ([]:List TStat)),r110.2.1,r110.2.2.1,r110.2.2.2)
  else
   (p_is r94.2.1 r94.2.2.1 r94.2.2.2 [108,101,116]).bind fun r119 =>
   if r119.1=true then
    (p_name fu r119.2.1 r119.2.2.1 r119.2.2.2).bind fun r126 =>
    (p_need r126.2.1 r126.2.2.1 r126.2.2.2 [[61]]).bind fun r136 =>
    ((ParE_run fu).p_expr r136.1 r136.2.1 r136.2.2).bind fun r142 =>
    p_stat_j1 r142.2.1 r142.2.2.1 r142.2.2.2 1 r126.1 r142.1.Kind r142.1.N r142.1.Name r142.1.Kids
   else
    (p_is r119.2.1 r119.2.2.1 r119.2.2.2 [114,101,116,117,114,110]).bind fun r151 =>
    if r151.1=true then
     ((ParE_run fu).p_expr r151.2.1 r151.2.2.1 r151.2.2.2).bind fun r158 =>
     p_stat_j1 r158.2.1 r158.2.2.1 r158.2.2.2 5 [] r158.1.Kind r158.1.N r158.1.Name r158.1.Kids
    else
     (p_is r151.2.1 r151.2.2.1 r151.2.2.2 [115,116,111,112]).bind fun r167 =>
     if r167.1=true then
      none
     else
      (p_is r167.2.1 r167.2.2.1 r167.2.2.2 [115,101,110,100]).bind fun r174 =>
      if r174.1=true then
       none
      else
       (p_is r174.2.1 r174.2.2.1 r174.2.2.2 [111,117,116]).bind fun r181 =>
       if r181.1=true then
        ((ParE_run fu).p_expr r181.2.1 r181.2.2.1 r181.2.2.2).bind fun r188 =>
        p_stat_j1 r188.2.1 r188.2.2.1 r188.2.2.2 8 [] r188.1.Kind r188.1.N r188.1.Name r188.1.Kids
       else
        (p_is r181.2.1 r181.2.2.1 r181.2.2.2 [100,111]).bind fun r197 =>
        if r197.1=true then
         none
        else
         (p_name fu r197.2.1 r197.2.2.1 r197.2.2.2).bind fun r204 =>
         (p_need r204.2.1 r204.2.2.1 r204.2.2.2 [[61]]).bind fun r214 =>
         ((ParE_run fu).p_expr r214.1 r214.2.1 r214.2.2).bind fun r220 =>
         p_stat_j1 r220.2.1 r220.2.2.1 r220.2.2.2 2 r204.1 r220.1.Kind r220.1.N r220.1.Name r220.1.Kids
def ParS_run:Nat→ParS
 | 0=>⟨fun _ _ _=>none,fun _ _ _=>none⟩
 | n+1=>⟨p_body n (ParS_run n),p_stat n (ParS_run n)⟩
def p_def (fu:Nat)  (left_2:List TToken) (end_6:Int) (deep_7:Int):Option (TDef×List TToken×Int×Int) :=
 (p_at left_2 end_6 deep_7).bind fun r19 =>
 (p_is left_2 end_6 deep_7 [98,111,120]).bind fun r22 =>
 if r22.1=true then
  (p_name fu r22.2.1 r22.2.2.1 r22.2.2.2).bind fun r29 =>
  (p_typ r29.2.1 r29.2.2.1 r29.2.2.2).bind fun r35 =>
  (p_at r35.2.1 r35.2.2.1 r35.2.2.2).bind fun r43 =>
  (p_number r35.2.1 r35.2.2.1 r35.2.2.2).bind fun r46 =>
  if r46.1<1 then
   none
  else
   if (20:Int)<r46.1 then
    none
   else
    (p_need r46.2.1 r46.2.2.1 r46.2.2.2 [[59]]).bind fun r58 =>
    some ((TDef.mk 1 r29.1 (TType.mk r35.1.Kind r35.1.Gen) (TType.mk 0 []) r46.1 ([]:List TParam) ([]:List TStat)),r58.1,r58.2.1,r58.2.2)
 else
  (p_is r22.2.1 r22.2.2.1 r22.2.2.2 [102,110]).bind fun r64 =>
  if r64.1=true then
   (p_name fu r64.2.1 r64.2.2.1 r64.2.2.2).bind fun r71 =>
   (p_params fu r71.2.1 r71.2.2.1 r71.2.2.2).bind fun r77 =>
   (p_typ r77.2.1 r77.2.2.1 r77.2.2.2).bind fun r88 =>
   ((ParS_run fu).p_body r88.2.1 r88.2.2.1 r88.2.2.2).bind fun r94 =>
   some ((TDef.mk 2 r71.1 (TType.mk r88.1.Kind r88.1.Gen) (TType.mk 0 []) 0 r77.1 r94.1),r94.2.1,r94.2.2.1,r94.2.2.2)
  else
   (p_is r64.2.1 r64.2.2.1 r64.2.2.2 [103,101,110]).bind fun r103 =>
   if r103.1=true then
    none
   else
    (p_is r103.2.1 r103.2.2.1 r103.2.2.2 [116,97,115,107]).bind fun r110 =>
    if r110.1=true then
     (p_name fu r110.2.1 r110.2.2.1 r110.2.2.2).bind fun r117 =>
     ((ParS_run fu).p_body r117.2.1 r117.2.2.1 r117.2.2.2).bind fun r123 =>
     some ((TDef.mk 4 r117.1 (TType.mk 0 []) (TType.mk 0 []) 0 ([]:List TParam) r123.1),r123.2.1,r123.2.2.1,r123.2.2.2)
    else
     none
end Go.Y
namespace Go.Y
open Go.Wk Go.Xt
theorem is_swap {α:Type} {l:List TToken} {e d:Int} {k1 k2:List UInt8} (hne:¬ k1=k2) {A B C:Bool×List TToken×Int×Int→Option α} {r:α}
  (h:(Option.bind (p_is l e d k1) fun x=>if x.1=true then A x else Option.bind (p_is x.2.1 x.2.2.1 x.2.2.2 k2) fun y=>if y.1=true then B y else C y)=some r) :
  (Option.bind (p_is l e d k2) fun y=>if y.1=true then B y else Option.bind (p_is y.2.1 y.2.2.1 y.2.2.2 k1) fun x=>if x.1=true then A x else C x)=some r:=by
 have key:∀ k,(p_sees l e d k=some false∧p_is l e d k=some (false,l,e,d))∨(∃ t l',l=t::l'∧t.Text=k∧p_is l e d k=some (true,l',e,d)):=by
  intro k
  cases l with
  | nil=>first | (left; simp [p_sees,p_is]; done) | (exfalso; simp [p_sees,p_is] at h)
  | cons t l' =>
   by_cases hk:t.Text=k
   ·right
    refine ⟨t,l',rfl,hk,?_⟩
    have h1:(0:Int)<((l'.length+1:Nat):Int):=by omega
    have h2:(1:Int)≤((l'.length+1:Nat):Int):=by omega
    have hc:cut (t::l') 1 ((t::l').length)=some l':=by
     unfold cut
     rw [if_pos ⟨by omega,by simpa using h2,by simp⟩]
     simp
    have hs:p_sees (t::l') e d k=some true:=by
     unfold p_sees
     rw [if_pos (by simp)]
     simp [at_,hk]
    unfold p_is
    rw [hs,Option.bind_some]
    simp only [if_true]
    rw [hc]
    rfl
   ·left
    have h1:(0:Int)<((l'.length+1:Nat):Int):=by omega
    simp [p_is,p_sees,at_,hk,h1]
 rcases key k1 with ⟨s1,i1⟩ | ⟨t,l',hl,ht,i1⟩
 ·rw [i1,Option.bind_some] at h
  simp only [Bool.false_eq_true,if_false] at h
  rcases key k2 with ⟨s2,i2⟩ | ⟨t,l',hl,ht,i2⟩
  ·rw [i2,Option.bind_some] at h ⊢
   simp only [Bool.false_eq_true,if_false] at h ⊢
   rw [i1,Option.bind_some]
   simpa using h
  ·rw [i2,Option.bind_some] at h ⊢
   simp only [if_true] at h ⊢
   exact h
 ·rw [i1,Option.bind_some] at h
  simp only [if_true] at h
  rcases key k2 with ⟨s2,i2⟩ | ⟨t2,l2,hl2,ht2,i2⟩
  ·rw [i2,Option.bind_some]
   simp only [Bool.false_eq_true,if_false]
   rw [i1,Option.bind_some]
   simpa using h
  ·rw [hl] at hl2
   obtain ⟨rfl,rfl⟩:=List.cons.inj hl2
   exact absurd (ht.symm.trans ht2) hne
end Go.Y
namespace Go.Y
open Go.Wk Go.Xt
def p_done:Option Unit:=some ()
def syn_read_j1 (k_syn_read_l1:(List TToken)→Int→Int→(List TDef)→Option (List TDef×TFault)) (l73:List TToken) (i75:Int) (i76:Int) (l79:List TDef):Option (List TDef×TFault) :=
 k_syn_read_l1 l73 i75 i76 l79
def syn_read_j2 (r8:List TToken×TFault) (l45:List TDef) :Option (List TDef×TFault) :=
 (p_done ).bind fun r115 =>
 some (l45,r8.2)
def syn_read_l1 (fu:Nat) (r8:List TToken×TFault):Nat→(List TToken)→Int→Int→(List TDef)→Option (List TDef×TFault)
 | 0,_,_,_,_=>none
 | n+1,l39,i41,i42,l45 =>
  if (0:Int)<(l39.length:Int) then
   if (l45.length:Int)=30 then
    none
   else
    (p_def fu l39 i41 i42).bind fun r81 =>
    (app l45 [r81.1]).bind fun l97 =>
    syn_read_j1 (syn_read_l1 fu r8 n) r81.2.1 r81.2.2.1 r81.2.2.2 l97
  else
   (syn_wrong fu l45).bind fun r108 =>
   if r108.Err≠0 then
    none
   else
    syn_read_j2 r8 l45
def syn_read (fu:Nat)  (p_1:List UInt8):Option (List TDef×TFault) :=
 (lex_tokens fu p_1).bind fun r8 =>
 if r8.2.Err≠0 then
  none
 else
  syn_read_l1 fu r8 fu r8.1 (p_1.length:Int) 0 []
end Go.Y
namespace Go.Y
open Go.Wk Go.Xt
def sema_plain  (p_1:TType):Option Bool :=
 some (decide (p_1.Kind≠3))
def sema_find  (p_1:TSp) (p_2:Int) (p_3:List UInt8):Option (Option TDef×Bool) :=
 if (mget p_1.named p_3).isSome=true then
  ((mget p_1.named p_3)).bind fun x18 =>
  some ((mget p_1.named p_3),decide (x18.Kind=p_2))
 else
  none
def sema_typ  (p_1:TSp) (p_2:TType):Option Int :=
 (sema_plain p_2).bind fun r11 =>
 if r11=true then
  some 0
 else
  none
def sema_bare  (p_1:TType):Option TType :=
 (sema_plain p_1).bind fun r5 =>
 if r5=true then
  some (TType.mk p_1.Kind [])
 else
  none
def sema_num  :Option TType :=
 some (TType.mk 1 [])
def sema_boolean  :Option TType :=
 some (TType.mk 2 [])
def sema_look_l1 (p_2:List UInt8) (bloc_21:List (List (List UInt8×TType))):Nat→Int→Option (TType×Bool)
 | 0,_=>none
 | n+1,i48 =>
  if (0:Int)≤i48 then
   (at_ bloc_21 i48).bind fun x70 =>
   if (mget x70 p_2).isSome=true then
    some (((mget x70 p_2).getD (TType.mk 0 [])),true)
   else
    (i64 (i48 - 1)).bind fun i88 =>
    sema_look_l1 p_2 bloc_21 n i88
  else
   some ((TType.mk 0 []),false)
def sema_look (fu:Nat)  (prog_2:TSp) (def_11:TDef) (bloc_21:List (List (List UInt8×TType))) (p_2:List UInt8):Option (TType×Bool) :=
 (i64 ((bloc_21.length:Int) - 1)).bind fun i27 =>
 sema_look_l1 p_2 bloc_21 fu i27
structure SemaE where
 sema_typed:TSp→TDef→(List (List (List UInt8×TType)))→TExpr→TType→Option Int
 sema_args:TSp→TDef→(List (List (List UInt8×TType)))→TExpr→Int→Option (Option TDef×Int)
 sema_both:TSp→TDef→(List (List (List UInt8×TType)))→TExpr→Option (TType×Int)
 sema_expr:TSp→TDef→(List (List (List UInt8×TType)))→TExpr→Option (TType×Int)
def sema_typed (self:SemaE) (prog_2:TSp) (def_11:TDef) (bloc_21:List (List (List UInt8×TType))) (p_2:TExpr) (p_3:TType):Option Int :=
 (self.sema_expr prog_2 def_11 bloc_21 p_2).bind fun r33 =>
 if r33.2=0 then
  (sema_bare p_3).bind fun r39 =>
  if (andL [(decide (r33.1.Kind=r39.Kind)),(decide (r33.1.Gen=r39.Gen))])=true then
   some r33.2
  else
   none
 else
  none
def sema_args_l1 (self:SemaE) (p_2:TExpr) (prog_2:TSp) (def_11:TDef) (bloc_21:List (List (List UInt8×TType))) (r33:Option TDef×Bool) (x65:TDef):Nat→Int→Option (Option TDef×Int)
 | 0,_=>none
 | n+1,i104 =>
  if i104<(x65.Params.length:Int) then
   (at_ x65.Params i104).bind fun x133 =>
   (at_ p_2.Kids i104).bind fun x143 =>
   (self.sema_typed prog_2 def_11 bloc_21 x143 x133.Typ).bind fun r154 =>
   if r154≠0 then
    none
   else
    (i64 (i104+1)).bind fun i158 =>
    sema_args_l1 self p_2 prog_2 def_11 bloc_21 r33 x65 n i158
  else
   some (r33.1,0)
def sema_args_j1 (self:SemaE) (p_2:TExpr) (prog_2:TSp) (def_11:TDef) (bloc_21:List (List (List UInt8×TType))) (r33:Option TDef×Bool) (b49:Bool):Option (Option TDef×Int) :=
 if b49=true then
  none
 else
  (r33.1).bind fun x65 =>
  sema_args_l1 self p_2 prog_2 def_11 bloc_21 r33 x65 (x65.Params.length+1) 0
def sema_args (self:SemaE) (prog_2:TSp) (def_11:TDef) (bloc_21:List (List (List UInt8×TType))) (p_2:TExpr) (p_3:Int):Option (Option TDef×Int) :=
 (sema_find prog_2 p_3 p_2.Name).bind fun r33 =>
 if r33.2=true then
  (r33.1).bind fun x50 =>
  sema_args_j1 self p_2 prog_2 def_11 bloc_21 r33 (decide ((x50.Params.length:Int)≠(p_2.Kids.length:Int)))
 else
  none
def sema_both (self:SemaE) (prog_2:TSp) (def_11:TDef) (bloc_21:List (List (List UInt8×TType))) (p_2:TExpr):Option (TType×Int) :=
 (at_ p_2.Kids 0).bind fun x33 =>
 (self.sema_expr prog_2 def_11 bloc_21 x33).bind fun r44 =>
 if r44.2≠0 then
  none
 else
  (at_ p_2.Kids 1).bind fun x50 =>
  (self.sema_expr prog_2 def_11 bloc_21 x50).bind fun r61 =>
  if r61.2=0 then
   if (andL [(decide (r44.1.Kind=r61.1.Kind)),(decide (r44.1.Gen=r61.1.Gen))])=true then
    (sema_plain r44.1).bind fun r68 =>
    if r68=true then
     some (r44.1,r61.2)
    else
     none
   else
    none
  else
   none
def sema_expr_l1 (self:SemaE) (p_2:TExpr) (prog_2:TSp) (def_11:TDef) (bloc_21:List (List (List UInt8×TType))) (r112:TType) (i122:Int) (s123:List UInt8):Nat→Int→Option (TType×Int)
 | 0,_=>none
 | n+1,i146 =>
  if i146<(p_2.Kids.length:Int) then
   (at_ p_2.Kids i146).bind fun x165 =>
   (self.sema_typed prog_2 def_11 bloc_21 x165 r112).bind fun r176 =>
   if r176≠0 then
    none
   else
    (i64 (i146+1)).bind fun i180 =>
    sema_expr_l1 self p_2 prog_2 def_11 bloc_21 r112 i122 s123 n i180
  else
   some ((TType.mk i122 s123),0)
def sema_expr_j2 (self:SemaE) (p_2:TExpr) (prog_2:TSp) (def_11:TDef) (bloc_21:List (List (List UInt8×TType))) (r112:TType) (i122:Int) (s123:List UInt8):Option (TType×Int) :=
 sema_expr_l1 self p_2 prog_2 def_11 bloc_21 r112 i122 s123 (p_2.Kids.length+1) 0
def sema_expr_j1 (self:SemaE) (p_2:TExpr) (prog_2:TSp) (def_11:TDef) (bloc_21:List (List (List UInt8×TType))) (b50:Bool):Option (TType×Int) :=
 if b50=true then
  (self.sema_both prog_2 def_11 bloc_21 p_2).bind fun r54 =>
  (sema_boolean ).bind fun r59 =>
  some (r59,r54.2)
 else
  if p_2.Kind=19 then
   (self.sema_args prog_2 def_11 bloc_21 p_2 2).bind fun r63 =>
   if r63.2≠0 then
    none
   else
    (r63.1).bind fun x69 =>
    (sema_bare x69.Typ).bind fun r82 =>
    some (r82,0)
  else
   if p_2.Kind=20 then
    (sema_find prog_2 1 p_2.Name).bind fun r86 =>
    if r86.2=true then
     (r86.1).bind fun x92 =>
     (sema_bare x92.Typ).bind fun r105 =>
     some (r105,0)
    else
     none
   else
    if p_2.Kind=21 then
     none
    else
     if p_2.Kind=22 then
      none
     else
      if p_2.Kind=23 then
       none
      else
       if p_2.Kind=24 then
        none
       else
        (sema_num ).bind fun r112 =>
        (sema_num ).bind fun r115 =>
        if (17:Int)≤p_2.Kind then
         none
        else
         if (13:Int)≤p_2.Kind then
          (sema_boolean ).bind fun r126 =>
          sema_expr_j2 self p_2 prog_2 def_11 bloc_21 r112 r126.Kind r126.Gen
         else
          sema_expr_j2 self p_2 prog_2 def_11 bloc_21 r112 r115.Kind r115.Gen
def sema_expr (fu:Nat) (self:SemaE) (prog_2:TSp) (def_11:TDef) (bloc_21:List (List (List UInt8×TType))) (p_2:TExpr):Option (TType×Int) :=
 if p_2.Kind=1 then
  (sema_num ).bind fun r34 =>
  some (r34,0)
 else
  if p_2.Kind=2 then
   (sema_boolean ).bind fun r38 =>
   some (r38,0)
  else
   if p_2.Kind=3 then
    (sema_look fu prog_2 def_11 bloc_21 p_2.Name).bind fun r42 =>
    if r42.2=true then
     some (r42.1,0)
    else
     none
   else
    if p_2.Kind=4 then
     none
    else
     if p_2.Kind=5 then
      none
     else
      if p_2.Kind=11 then
       sema_expr_j1 self p_2 prog_2 def_11 bloc_21 (decide (p_2.Kind=11))
      else
       sema_expr_j1 self p_2 prog_2 def_11 bloc_21 (decide (p_2.Kind=12))
def SemaE_run:Nat→SemaE
 | 0=>⟨fun _ _ _ _ _=>none,fun _ _ _ _ _=>none,fun _ _ _ _=>none,fun _ _ _ _=>none⟩
 | n+1=>⟨sema_typed (SemaE_run n),sema_args (SemaE_run n),sema_both (SemaE_run n),sema_expr n (SemaE_run n)⟩
end Go.Y
namespace Go.Y
open Go.Wk Go.Xt
def sema_pop_j1  (l31:List (List (List UInt8×TType))):Option (List (List (List UInt8×TType))) :=
 some l31
def sema_pop  (prog_3:TSp) (def_12:TDef) (bloc_22:List (List (List UInt8×TType))):Option (List (List (List UInt8×TType))) :=
 (i64 ((bloc_22.length:Int) - 1)).bind fun i33 =>
 (cut bloc_22 0 i33).bind fun l35 =>
 sema_pop_j1 l35
structure SemaS where
 sema_stats:TSp→TDef→(List (List (List UInt8×TType)))→(List TStat)→Option (Int×List (List (List UInt8×TType)))
 sema_stat:TSp→TDef→(List (List (List UInt8×TType)))→TStat→Option (Int×List (List (List UInt8×TType)))
def sema_stats_l1 (self:SemaS) (p_2:List TStat) (prog_2:TSp) (def_11:TDef):Nat→Int→(List (List (List UInt8×TType)))→Option (Int×List (List (List UInt8×TType)))
 | 0,_,_=>none
 | n+1,i74,l77 =>
  if i74<(p_2.length:Int) then
   (at_ p_2 i74).bind fun x107 =>
   (self.sema_stat prog_2 def_11 l77 x107).bind fun r124 =>
   if r124.1≠0 then
    none
   else
    (i64 (i74+1)).bind fun i131 =>
    sema_stats_l1 self p_2 prog_2 def_11 n i131 r124.2
  else
   (sema_pop prog_2 def_11 l77).bind fun r133 =>
   some (0,r133)
def sema_stats_j1 (self:SemaS) (p_2:List TStat) (prog_2:TSp) (def_11:TDef) (l35:List (List (List UInt8×TType))):Option (Int×List (List (List UInt8×TType))) :=
 sema_stats_l1 self p_2 prog_2 def_11 (p_2.length+1) 0 l35
def sema_stats (self:SemaS) (prog_2:TSp) (def_11:TDef) (bloc_21:List (List (List UInt8×TType))) (p_2:List TStat):Option (Int×List (List (List UInt8×TType))) :=
 (app bloc_21 [[]]).bind fun l41 =>
 sema_stats_j1 self p_2 prog_2 def_11 l41
def sema_stat_j1 (fu:Nat) (self:SemaS) (p_2:TStat) (prog_2:TSp) (def_11:TDef) (bloc_21:List (List (List UInt8×TType))) (b80:Bool):Option (Int×List (List (List UInt8×TType))) :=
 if b80=true then
  (sema_boolean ).bind fun r84 =>
  ((SemaE_run fu).sema_typed prog_2 def_11 bloc_21 p_2.X r84).bind fun r87 =>
  if r87≠0 then
   none
  else
   (self.sema_stats prog_2 def_11 bloc_21 p_2.Body).bind fun r91 =>
   if r91.1≠0 then
    none
   else
    if p_2.Kind=4 then
     some (r91.1,r91.2)
    else
     (self.sema_stats prog_2 def_11 r91.2 p_2.Else).bind fun r99 =>
     some (r99.1,r99.2)
 else
  if p_2.Kind=5 then
   if def_11.Kind≠2 then
    none
   else
    ((SemaE_run fu).sema_typed prog_2 def_11 bloc_21 p_2.X def_11.Typ).bind fun r107 =>
    some (r107,bloc_21)
  else
   if p_2.Kind=6 then
    none
   else
    if p_2.Kind=7 then
     none
    else
     if p_2.Kind=8 then
      ((SemaE_run fu).sema_expr prog_2 def_11 bloc_21 p_2.X).bind fun r113 =>
      if r113.2=0 then
       (sema_plain r113.1).bind fun r119 =>
       if r119=true then
        some (r113.2,bloc_21)
       else
        none
      else
       none
     else
      none
def sema_stat (fu:Nat) (self:SemaS) (prog_2:TSp) (def_11:TDef) (bloc_21:List (List (List UInt8×TType))) (p_2:TStat):Option (Int×List (List (List UInt8×TType))) :=
 if p_2.Kind=1 then
  ((SemaE_run fu).sema_expr prog_2 def_11 bloc_21 p_2.X).bind fun r41 =>
  if r41.2≠0 then
   none
  else
   (sema_look fu prog_2 def_11 bloc_21 p_2.Name).bind fun r47 =>
   if r47.2=true then
    none
   else
    (i64 ((bloc_21.length:Int) - 1)).bind fun i53 =>
    (at_ bloc_21 i53).bind fun x55 =>
    some (0,(bloc_21.set i53.toNat (mput x55 p_2.Name r41.1)))
 else
  if p_2.Kind=2 then
   (sema_look fu prog_2 def_11 bloc_21 p_2.Name).bind fun r71 =>
   if r71.2=true then
    ((SemaE_run fu).sema_typed prog_2 def_11 bloc_21 p_2.X r71.1).bind fun r77 =>
    some (r77,bloc_21)
   else
    none
  else
   if p_2.Kind=3 then
    sema_stat_j1 fu self p_2 prog_2 def_11 bloc_21 (decide (p_2.Kind=3))
   else
    sema_stat_j1 fu self p_2 prog_2 def_11 bloc_21 (decide (p_2.Kind=4))
def SemaS_run:Nat→SemaS
 | 0=>⟨fun _ _ _ _=>none,fun _ _ _ _=>none⟩
 | n+1=>⟨sema_stats (SemaS_run n),sema_stat n (SemaS_run n)⟩
def sema_head_j3  (b107:Bool):Option Int :=
 if b107=true then
  none
 else
  some 0
def sema_head_j2 (p_2:TDef) :Option Int :=
 if p_2.Kind=3 then
  none
 else
  if p_2.Kind≠4 then
   (sema_plain p_2.Typ).bind fun r110 =>
   sema_head_j3 (!r110)
  else
   sema_head_j3 false
def sema_head_l1 (p_1:TSp) (p_2:TDef):Nat→Int→(List (List UInt8×Int))→Option Int
 | 0,_,_=>none
 | n+1,i48,l51 =>
  if i48<(p_2.Params.length:Int) then
   (at_ p_2.Params i48).bind fun x80 =>
   (i64 (((mget l51 x80.Name).getD 0)+1)).bind fun i92 =>
   if (1:Int)<((mget (mput l51 x80.Name i92) x80.Name).getD 0) then
    none
   else
    (sema_typ p_1 x80.Typ).bind fun r100 =>
    if r100≠0 then
     none
    else
     (i64 (i48+1)).bind fun i104 =>
     sema_head_l1 p_1 p_2 n i104 (mput l51 x80.Name i92)
  else
   sema_head_j2 p_2
def sema_head_j1 (p_1:TSp) (p_2:TDef) (b20:Bool):Option Int :=
 if b20=true then
  sema_head_l1 p_1 p_2 (p_2.Params.length+1) 0 ([]:List (List UInt8×Int))
 else
  sema_head_j2 p_2
def sema_head  (p_1:TSp) (p_2:TDef):Option Int :=
 if p_2.Kind=2 then
  sema_head_j1 p_1 p_2 true
 else
  sema_head_j1 p_1 p_2 (decide (p_2.Kind=3))
def sema_body_j1 (fu:Nat) (p_1:TSp) (p_2:TDef) (l30:List (List (List UInt8×TType))):Option Int :=
 ((SemaS_run fu).sema_stats p_1 p_2 l30 p_2.Body).bind fun r206 =>
 some r206.1
def sema_body_j2 (i63:Int) (k_sema_body_l1:Int→(List (List (List UInt8×TType)))→Option Int) (l113:List (List (List UInt8×TType))):Option Int :=
 (i64 (i63+1)).bind fun i202 =>
 k_sema_body_l1 i202 l113
def sema_body_l1 (fu:Nat) (p_1:TSp) (p_2:TDef):Nat→Int→(List (List (List UInt8×TType)))→Option Int
 | 0,_,_=>none
 | n+1,i63,l66 =>
  if i63<(p_2.Params.length:Int) then
   (at_ p_2.Params i63).bind fun x101 =>
   (at_ l66 0).bind fun x115 =>
   (sema_bare x101.Typ).bind fun r126 =>
   sema_body_j2 i63 (sema_body_l1 fu p_1 p_2 n) (l66.set (0:Int).toNat (mput x115 x101.Name r126))
  else
   sema_body_j1 fu p_1 p_2 l66
def sema_body (fu:Nat)  (p_1:TSp) (p_2:TDef):Option Int :=
 if p_2.Kind=1 then
  some 0
 else
  if p_2.Kind≠4 then
   sema_body_l1 fu p_1 p_2 (p_2.Params.length+1) 0 [([]:List (List UInt8×TType))]
  else
   sema_body_j1 fu p_1 p_2 [([]:List (List UInt8×TType))]
def sema_named_l3 (fu:Nat) (p_1:List TDef) (l94:List (List UInt8×TDef)):Nat→Int→Option (TSp×TFault)
 | 0,_=>none
 | n+1,i317 =>
  if i317<(p_1.length:Int) then
   (at_ p_1 i317).bind fun x339 =>
   (sema_body fu (TSp.mk p_1 l94) x339).bind fun r353 =>
   if r353≠0 then
    none
   else
    (i64 (i317+1)).bind fun i357 =>
    sema_named_l3 fu p_1 l94 n i357
  else
   some ((TSp.mk p_1 l94),(TFault.mk 0 0))
def sema_named_l2 (fu:Nat) (p_1:List TDef) (l94:List (List UInt8×TDef)):Nat→Int→Option (TSp×TFault)
 | 0,_=>none
 | n+1,i258 =>
  if i258<(p_1.length:Int) then
   (at_ p_1 i258).bind fun x280 =>
   (sema_head (TSp.mk p_1 l94) x280).bind fun r294 =>
   if r294≠0 then
    none
   else
    (i64 (i258+1)).bind fun i298 =>
    sema_named_l2 fu p_1 l94 n i298
  else
   sema_named_l3 fu p_1 l94 (p_1.length+1) 0
def sema_named_l1 (fu:Nat) (p_1:List TDef):Nat→Int→Int→(List (List UInt8×TDef))→Option (TSp×TFault)
 | 0,_,_,_=>none
 | n+1,i90,i91,l94 =>
  if i91<(p_1.length:Int) then
   (at_ p_1 i91).bind fun x165 =>
   if (mget l94 x165.Name).isSome=true then
    none
   else
    (at_ p_1 i91).bind fun x182 =>
    (at_ p_1 i91).bind fun x196 =>
    (at_ p_1 i91).bind fun x213 =>
    if x213.Kind=4 then
     (i64 (i90+1)).bind fun i228 =>
     (i64 (i91+1)).bind fun i230 =>
     sema_named_l1 fu p_1 n i228 i230 (mput l94 x182.Name x196)
    else
     (i64 (i91+1)).bind fun i232 =>
     sema_named_l1 fu p_1 n i90 i232 (mput l94 x182.Name x196)
  else
   if i90=0 then
    none
   else
    sema_named_l2 fu p_1 l94 (p_1.length+1) 0
def sema_named (fu:Nat)  (p_1:List TDef):Option (TSp×TFault) :=
 (syn_wrong fu p_1).bind fun r18 =>
 if r18.Err≠0 then
  none
 else
  sema_named_l1 fu p_1 (p_1.length+1) 0 0 ([]:List (List UInt8×TDef))
end Go.Y
namespace Go.Y
open Go.Wk Go.Xt
structure SemaU where
 uses_expr:(List (List UInt8))→(List (List UInt8))→(List (List UInt8))→TExpr→Option (List (List UInt8)×List (List UInt8)×List (List UInt8))
def uses_expr_l1 (self:SemaU) (p_2:TExpr):Nat→Int→(List (List UInt8))→(List (List UInt8))→(List (List UInt8))→Option (List (List UInt8)×List (List UInt8)×List (List UInt8))
 | 0,_,_,_,_=>none
 | n+1,i106,l109,l113,l117 =>
  if i106<(p_2.Kids.length:Int) then
   (at_ p_2.Kids i106).bind fun x149 =>
   (self.uses_expr l109 l113 l117 x149).bind fun r160 =>
   (i64 (i106+1)).bind fun i172 =>
   uses_expr_l1 self p_2 n i172 r160.1 r160.2.1 r160.2.2
  else
   some (l109,l113,l117)
def uses_expr_j1 (self:SemaU) (p_2:TExpr) (send_6:List (List UInt8)) (l31:List (List UInt8)) (l35:List (List UInt8)):Option (List (List UInt8)×List (List UInt8)×List (List UInt8)) :=
 uses_expr_l1 self p_2 (p_2.Kids.length+1) 0 l31 send_6 l35
def uses_expr_j3 (self:SemaU) (p_2:TExpr) (send_6:List (List UInt8)) (recv_10:List (List UInt8)) (l43:List (List UInt8)):Option (List (List UInt8)×List (List UInt8)×List (List UInt8)) :=
 uses_expr_j1 self p_2 send_6 l43 recv_10
def uses_expr_j4 (self:SemaU) (call_2:List (List UInt8)) (p_2:TExpr) (send_6:List (List UInt8)) (l62:List (List UInt8)):Option (List (List UInt8)×List (List UInt8)×List (List UInt8)) :=
 uses_expr_j1 self p_2 send_6 call_2 l62
def uses_expr_j2 (self:SemaU) (call_2:List (List UInt8)) (p_2:TExpr) (send_6:List (List UInt8)) (recv_10:List (List UInt8)) (b37:Bool):Option (List (List UInt8)×List (List UInt8)×List (List UInt8)) :=
 if b37=true then
  (app call_2 [p_2.Name]).bind fun l49 =>
  uses_expr_j3 self p_2 send_6 recv_10 l49
 else
  if p_2.Kind=20 then
   (app recv_10 [p_2.Name]).bind fun l68 =>
   uses_expr_j4 self call_2 p_2 send_6 l68
  else
   uses_expr_j1 self p_2 send_6 call_2 recv_10
def uses_expr (self:SemaU) (call_2:List (List UInt8)) (send_6:List (List UInt8)) (recv_10:List (List UInt8)) (p_2:TExpr):Option (List (List UInt8)×List (List UInt8)×List (List UInt8)) :=
 if p_2.Kind=19 then
  uses_expr_j2 self call_2 p_2 send_6 recv_10 (decide (p_2.Kind=19))
 else
  uses_expr_j2 self call_2 p_2 send_6 recv_10 (decide (p_2.Kind=22))
def SemaU_run:Nat→SemaU
 | 0=>⟨fun _ _ _ _=>none⟩
 | n+1=>⟨uses_expr (SemaU_run n)⟩
structure SemaV where
 uses_stats:(List (List UInt8))→(List (List UInt8))→(List (List UInt8))→(List TStat)→Option (List (List UInt8)×List (List UInt8)×List (List UInt8))
def uses_stats_j2 (self:SemaV) (i107:Int) (x206:TStat) (k_uses_stats_l1:Int→(List (List UInt8))→(List (List UInt8))→(List (List UInt8))→Option (List (List UInt8)×List (List UInt8)×List (List UInt8))) (l242:List (List UInt8)) (l246:List (List UInt8)) (l250:List (List UInt8)):Option (List (List UInt8)×List (List UInt8)×List (List UInt8)) :=
 if x206.Kind=3 then
  (self.uses_stats l242 l246 l250 x206.Else).bind fun r270 =>
  (i64 (i107+1)).bind fun i282 =>
  k_uses_stats_l1 i282 r270.1 r270.2.1 r270.2.2
 else
  (i64 (i107+1)).bind fun i284 =>
  k_uses_stats_l1 i284 l242 l246 l250
def uses_stats_j1 (self:SemaV) (i107:Int) (x206:TStat) (r225:List (List UInt8)×List (List UInt8)×List (List UInt8)) (k_uses_stats_l1:Int→(List (List UInt8))→(List (List UInt8))→(List (List UInt8))→Option (List (List UInt8)×List (List UInt8)×List (List UInt8))) (b237:Bool):Option (List (List UInt8)×List (List UInt8)×List (List UInt8)) :=
 if b237=true then
  (self.uses_stats r225.1 r225.2.1 r225.2.2 x206.Body).bind fun r253 =>
  uses_stats_j2 self i107 x206 k_uses_stats_l1 r253.1 r253.2.1 r253.2.2
 else
  uses_stats_j2 self i107 x206 k_uses_stats_l1 r225.1 r225.2.1 r225.2.2
def uses_stats_l1 (fu:Nat) (self:SemaV) (p_2:List TStat):Nat→Int→(List (List UInt8))→(List (List UInt8))→(List (List UInt8))→Option (List (List UInt8)×List (List UInt8)×List (List UInt8))
 | 0,_,_,_,_=>none
 | n+1,i107,l110,l114,l118 =>
  if i107<(p_2.length:Int) then
   (at_ p_2 i107).bind fun x206 =>
   if x206.Kind=7 then
    none
   else
    if x206.Kind≠6 then
     ((SemaU_run fu).uses_expr l110 l114 l118 x206.X).bind fun r225 =>
     if x206.Kind=3 then
      uses_stats_j1 self i107 x206 r225 (uses_stats_l1 fu self p_2 n) true
     else
      uses_stats_j1 self i107 x206 r225 (uses_stats_l1 fu self p_2 n) (decide (x206.Kind=4))
    else
     none
  else
   some (l110,l114,l118)
def uses_stats (fu:Nat) (self:SemaV) (call_2:List (List UInt8)) (send_6:List (List UInt8)) (recv_10:List (List UInt8)) (p_2:List TStat):Option (List (List UInt8)×List (List UInt8)×List (List UInt8)) :=
 uses_stats_l1 fu self p_2 (p_2.length+1) 0 call_2 send_6 recv_10
def SemaV_run:Nat→SemaV
 | 0=>⟨fun _ _ _ _=>none⟩
 | n+1=>⟨uses_stats n (SemaV_run n)⟩
def sema_reach_l2 (p_1:TSp) (r550:List (List UInt8)×List (List UInt8)×List (List UInt8)) (l572:List (List UInt8)) (l576:List (List UInt8)) (k_sema_reach_l1:(List (List UInt8))→(List (Option TDef))→(List (List UInt8))→(List (List UInt8))→Option TSemaUses):Nat→Int→(List (List UInt8))→(List (Option TDef))→Option TSemaUses
 | 0,_,_,_=>none
 | n+1,i652,l655,l659 =>
  if i652<(r550.1.length:Int) then
   (at_ r550.1 i652).bind fun x710 =>
   if l655.contains x710=true then
    (i64 (i652+1)).bind fun i748 =>
    sema_reach_l2 p_1 r550 l572 l576 k_sema_reach_l1 n i748 l655 l659
   else
    (app l655 [x710]).bind fun l730 =>
    (app l659 [(mget p_1.named x710)]).bind fun l743 =>
    (i64 (i652+1)).bind fun i746 =>
    sema_reach_l2 p_1 r550 l572 l576 k_sema_reach_l1 n i746 l730 l743
  else
   k_sema_reach_l1 l655 l659 l572 l576
def sema_reach_j1 (p_1:TSp) (l264:List (List UInt8)) (l523:List (Option TDef)) (r550:List (List UInt8)×List (List UInt8)×List (List UInt8)) (k_sema_reach_l1:(List (List UInt8))→(List (Option TDef))→(List (List UInt8))→(List (List UInt8))→Option TSemaUses) (l564:List (List UInt8)) (l568:List (List UInt8)) (l572:List (List UInt8)) (l576:List (List UInt8)):Option TSemaUses :=
 sema_reach_l2 p_1 r550 l572 l576 k_sema_reach_l1 (r550.1.length+1) 0 l264 l523
def sema_reach_l1 (fu:Nat) (p_1:TSp):Nat→(List (List UInt8))→(List (Option TDef))→(List (List UInt8))→(List (List UInt8))→Option TSemaUses
 | 0,_,_,_,_=>none
 | n+1,l264,l268,l272,l276 =>
  if (0:Int)<(l268.length:Int) then
   (at_ l268 0).bind fun x507 =>
   (cut l268 1 l268.length).bind fun l523 =>
   (x507).bind fun x534 =>
   ((SemaV_run fu).uses_stats ([]:List (List UInt8)) ([]:List (List UInt8)) ([]:List (List UInt8)) x534.Body).bind fun r550 =>
   (app l272 r550.2.1).bind fun l585 =>
   (app l276 r550.2.2).bind fun l597 =>
   sema_reach_j1 p_1 l264 l523 r550 (sema_reach_l1 fu p_1 n) r550.2.1 r550.2.2 l585 l597
  else
   some (TSemaUses.mk ([]:List (List UInt8)) l272 l276)
def sema_reach (fu:Nat)  (p_1:TSp) (p_2:TDef):Option TSemaUses :=
 sema_reach_l1 fu p_1 fu ([]:List (List UInt8)) ([(some p_2)]:List (Option TDef)) [] []
def sema_owners_j1 (i88:Int) (k_sema_owners_l1:Int→(List (List UInt8×TSemaUses))→Option (List TOwner×TFault)) (l176:List (List UInt8×TSemaUses)):Option (List TOwner×TFault) :=
 (i64 (i88+1)).bind fun i223 =>
 k_sema_owners_l1 i223 l176
def sema_owners_j3 (i717:Int) (s825:List UInt8) (k_sema_owners_l3:Int→(List UInt8)→(List UInt8)→Option (List TOwner×TFault)) (s832:List UInt8):Option (List TOwner×TFault) :=
 (i64 (i717+1)).bind fun i839 =>
 k_sema_owners_l3 i839 s825 s832
def sema_owners_j2 (l91:List (List UInt8×TSemaUses)) (x640:TDef) (i717:Int) (s719:List UInt8) (x778:TDef) (k_sema_owners_l3:Int→(List UInt8)→(List UInt8)→Option (List TOwner×TFault)) (s825:List UInt8):Option (List TOwner×TFault) :=
 if (((mget l91 x778.Name).getD (TSemaUses.mk ([]:List (List UInt8)) ([]:List (List UInt8)) ([]:List (List UInt8)))).recvs).contains x640.Name=true then
  if s719≠[] then
   none
  else
   sema_owners_j3 i717 s825 k_sema_owners_l3 x778.Name
 else
  sema_owners_j3 i717 s825 k_sema_owners_l3 s719
def sema_owners_l3 (p_1:List TDef) (l91:List (List UInt8×TSemaUses)) (i430:Int) (l433:List TOwner) (x640:TDef) (k_sema_owners_l2:Int→(List TOwner)→Option (List TOwner×TFault)):Nat→Int→(List UInt8)→(List UInt8)→Option (List TOwner×TFault)
 | 0,_,_,_=>none
 | n+1,i717,s718,s719 =>
  if i717<(p_1.length:Int) then
   (at_ p_1 i717).bind fun x778 =>
   if x778.Kind≠4 then
    (i64 (i717+1)).bind fun i795 =>
    sema_owners_l3 p_1 l91 i430 l433 x640 k_sema_owners_l2 n i795 s718 s719
   else
    if (((mget l91 x778.Name).getD (TSemaUses.mk ([]:List (List UInt8)) ([]:List (List UInt8)) ([]:List (List UInt8)))).sends).contains x640.Name=true then
     if s718≠[] then
      none
     else
      sema_owners_j2 l91 x640 i717 s719 x778 (sema_owners_l3 p_1 l91 i430 l433 x640 k_sema_owners_l2 n) x778.Name
    else
     sema_owners_j2 l91 x640 i717 s719 x778 (sema_owners_l3 p_1 l91 i430 l433 x640 k_sema_owners_l2 n) s718
  else
   (app l433 [(TOwner.mk x640.Name s718 s719)]).bind fun l845 =>
   (i64 (i430+1)).bind fun i848 =>
   k_sema_owners_l2 i848 l845
def sema_owners_l2 (p_1:List TDef) (l91:List (List UInt8×TSemaUses)):Nat→Int→(List TOwner)→Option (List TOwner×TFault)
 | 0,_,_=>none
 | n+1,i430,l433 =>
  if i430<(p_1.length:Int) then
   (at_ p_1 i430).bind fun x640 =>
   if x640.Kind≠1 then
    (i64 (i430+1)).bind fun i657 =>
    sema_owners_l2 p_1 l91 n i657 l433
   else
    sema_owners_l3 p_1 l91 i430 l433 x640 (sema_owners_l2 p_1 l91 n) (p_1.length+1) 0 [] []
  else
   some (l433,(TFault.mk 0 0))
def sema_owners_l1 (fu:Nat) (p_1:List TDef) (r9:TSp×TFault):Nat→Int→(List (List UInt8×TSemaUses))→Option (List TOwner×TFault)
 | 0,_,_=>none
 | n+1,i88,l91 =>
  if i88<(p_1.length:Int) then
   (at_ p_1 i88).bind fun x159 =>
   if x159.Kind=4 then
    (at_ p_1 i88).bind fun x178 =>
    (at_ p_1 i88).bind fun x192 =>
    (sema_reach fu r9.1 x192).bind fun r206 =>
    sema_owners_j1 i88 (sema_owners_l1 fu p_1 r9 n) (mput l91 x178.Name r206)
   else
    (i64 (i88+1)).bind fun i225 =>
    sema_owners_l1 fu p_1 r9 n i225 l91
  else
   sema_owners_l2 p_1 l91 (p_1.length+1) 0 []
def sema_owners (fu:Nat)  (p_1:List TDef):Option (List TOwner×TFault) :=
 (sema_named fu p_1).bind fun r9 =>
 if r9.2.Err≠0 then
  none
 else
  sema_owners_l1 fu p_1 r9 (p_1.length+1) 0 ([]:List (List UInt8×TSemaUses))
def sema_check (fu:Nat)  (p_1:List TDef):Option TFault :=
 (sema_owners fu p_1).bind fun r6 =>
 some r6.2
end Go.Y
namespace Go.Y
open Go.Wk Go.Xt
def gen_typ  (p_1:TGt) (p_2:TType):Option Int :=
 if p_2.Kind=3 then
  none
 else
  some p_2.Kind
def gen_typo  (boxe_2:List (List UInt8×Int)) (unit_7:List (List UInt8×Int)) (defs_12:List (List UInt8×TDef)) (p_2:TType):Option Int :=
 if p_2.Kind=3 then
  none
 else
  some p_2.Kind
def gen_put  (tabl_2:TGt) (kind_12:Int) (para_13:Int) (loca_14:List Int) (resu_18:Int) (take_19:Int) (code_20:List TInstr) (bloc_24:List (List (List UInt8×Int))) (p_2:Int) (p_3:Int) (p_4:Int):Option (Int×Int×Int×List Int×Int×Int×List TInstr×List (List (List UInt8×Int))) :=
 (app code_20 [(TInstr.mk p_2 p_3 p_4)]).bind fun l41 =>
 (i64 ((l41.length:Int) - 1)).bind fun i44 =>
 some (i44,kind_12,para_13,loca_14,resu_18,take_19,l41,bloc_24)
def gen_here  (tabl_2:TGt) (kind_12:Int) (para_13:Int) (loca_14:List Int) (resu_18:Int) (take_19:Int) (code_20:List TInstr) (bloc_24:List (List (List UInt8×Int))):Option Int :=
 some (code_20.length:Int)
def gen_local  (tabl_2:TGt) (kind_12:Int) (para_13:Int) (loca_14:List Int) (resu_18:Int) (take_19:Int) (code_20:List TInstr) (bloc_24:List (List (List UInt8×Int))) (p_2:List UInt8) (p_3:Int):Option (Int×Int×Int×List Int×Int×Int×List TInstr×List (List (List UInt8×Int))) :=
 (app loca_14 [p_3]).bind fun l41 =>
 (i64 ((l41.length:Int) - 1)).bind fun i44 =>
 (i64 ((bloc_24.length:Int) - 1)).bind fun i46 =>
 (at_ bloc_24 i46).bind fun x48 =>
 some (i44,kind_12,para_13,l41,resu_18,take_19,code_20,(bloc_24.set i46.toNat (mput x48 p_2 i44)))
def gen_look_l1 (p_2:List UInt8) (bloc_24:List (List (List UInt8×Int))):Nat→Int→Option Int
 | 0,_=>none
 | n+1,i45 =>
  if (0:Int)≤i45 then
   (at_ bloc_24 i45).bind fun x63 =>
   if (mget x63 p_2).isSome=true then
    some ((mget x63 p_2).getD 0)
   else
    (i64 (i45 - 1)).bind fun i77 =>
    gen_look_l1 p_2 bloc_24 n i77
  else
   none
def gen_look (fu:Nat)  (tabl_2:TGt) (kind_12:Int) (para_13:Int) (loca_14:List Int) (resu_18:Int) (take_19:Int) (code_20:List TInstr) (bloc_24:List (List (List UInt8×Int))) (p_2:List UInt8):Option Int :=
 (i64 ((bloc_24.length:Int) - 1)).bind fun i28 =>
 gen_look_l1 p_2 bloc_24 fu i28
structure GenE where
 gen_expr:TGt→Int→Int→(List Int)→Int→Int→(List TInstr)→(List (List (List UInt8×Int)))→TExpr→Option (Int×Int×Int×List Int×Int×Int×List TInstr×List (List (List UInt8×Int)))
def gen_expr_j1 (r251:Int×Int×Int×List Int×Int×Int×List TInstr×List (List (List UInt8×Int))) (i263:Int):Option (Int×Int×Int×List Int×Int×Int×List TInstr×List (List (List UInt8×Int))) :=
 some (i263,r251.2.1,r251.2.2.1,r251.2.2.2.1,r251.2.2.2.2.1,r251.2.2.2.2.2.1,r251.2.2.2.2.2.2.1,r251.2.2.2.2.2.2.2)
def gen_expr_j2 (r312:Int×Int×Int×List Int×Int×Int×List TInstr×List (List (List UInt8×Int))) (i324:Int):Option (Int×Int×Int×List Int×Int×Int×List TInstr×List (List (List UInt8×Int))) :=
 some (i324,r312.2.1,r312.2.2.1,r312.2.2.2.1,r312.2.2.2.2.1,r312.2.2.2.2.2.1,r312.2.2.2.2.2.2.1,r312.2.2.2.2.2.2.2)
def gen_expr_l1 (fu:Nat) (self:GenE) (p_2:TExpr) (tabl_2:TGt):Nat→Int→Int→Int→Int→Int→(List Int)→(List TInstr)→(List (List (List UInt8×Int)))→(List Int)→Option (Int×Int×Int×List Int×Int×Int×List TInstr×List (List (List UInt8×Int)))
 | 0,_,_,_,_,_,_,_,_,_=>none
 | n+1,i76,i77,i78,i79,i80,l83,l87,l91,l95 =>
  if i76<(p_2.Kids.length:Int) then
   (at_ p_2.Kids i76).bind fun x135 =>
   (self.gen_expr tabl_2 i77 i78 l83 i79 i80 l87 l91 x135).bind fun r146 =>
   (app l95 [r146.1]).bind fun l162 =>
   (i64 (i76+1)).bind fun i165 =>
   gen_expr_l1 fu self p_2 tabl_2 n i165 r146.2.1 r146.2.2.1 r146.2.2.2.2.1 r146.2.2.2.2.2.1 r146.2.2.2.1 r146.2.2.2.2.2.2.1 r146.2.2.2.2.2.2.2 l162
  else
   if p_2.Kind=1 then
    (gen_put tabl_2 i77 i78 l83 i79 i80 l87 l91 1 0 p_2.N).bind fun r168 =>
    some (1,r168.2.1,r168.2.2.1,r168.2.2.2.1,r168.2.2.2.2.1,r168.2.2.2.2.2.1,r168.2.2.2.2.2.2.1,r168.2.2.2.2.2.2.2)
   else
    if p_2.Kind=2 then
     (gen_put tabl_2 i77 i78 l83 i79 i80 l87 l91 2 p_2.N 0).bind fun r181 =>
     some (2,r181.2.1,r181.2.2.1,r181.2.2.2.1,r181.2.2.2.2.1,r181.2.2.2.2.2.1,r181.2.2.2.2.2.2.1,r181.2.2.2.2.2.2.2)
    else
     if p_2.Kind=3 then
      (gen_look fu tabl_2 i77 i78 l83 i79 i80 l87 l91 p_2.Name).bind fun r194 =>
      (gen_put tabl_2 i77 i78 l83 i79 i80 l87 l91 3 r194 0).bind fun r197 =>
      (at_ r197.2.2.2.1 r194).bind fun x209 =>
      some (x209,r197.2.1,r197.2.2.1,r197.2.2.2.1,r197.2.2.2.2.1,r197.2.2.2.2.2.1,r197.2.2.2.2.2.2.1,r197.2.2.2.2.2.2.2)
     else
      if p_2.Kind=4 then
       none
      else
       if p_2.Kind=5 then
        none
       else
        if (6:Int)≤p_2.Kind then
         if p_2.Kind≤18 then
          (i64 (8+p_2.Kind)).bind fun i227 =>
          (i64 (i227 - 6)).bind fun i229 =>
          (gen_put tabl_2 i77 i78 l83 i79 i80 l87 l91 i229 0 0).bind fun r231 =>
          if p_2.Kind≤10 then
           some (1,r231.2.1,r231.2.2.1,r231.2.2.2.1,r231.2.2.2.2.1,r231.2.2.2.2.2.1,r231.2.2.2.2.2.2.1,r231.2.2.2.2.2.2.2)
          else
           some (2,r231.2.1,r231.2.2.1,r231.2.2.2.1,r231.2.2.2.2.1,r231.2.2.2.2.2.1,r231.2.2.2.2.2.2.1,r231.2.2.2.2.2.2.2)
         else
          if p_2.Kind=19 then
           (gen_put tabl_2 i77 i78 l83 i79 i80 l87 l91 23 ((mget tabl_2.units p_2.Name).getD 0) 0).bind fun r251 =>
           ((mget tabl_2.defs p_2.Name)).bind fun x270 =>
           (gen_typ tabl_2 x270.Typ).bind fun r283 =>
           gen_expr_j1 r251 r283
          else
           if p_2.Kind=20 then
            (gen_put tabl_2 i77 i78 l83 i79 i80 l87 l91 27 ((mget tabl_2.boxes p_2.Name).getD 0) 0).bind fun r312 =>
            ((mget tabl_2.defs p_2.Name)).bind fun x331 =>
            (gen_typ tabl_2 x331.Typ).bind fun r344 =>
            gen_expr_j2 r312 r344
           else
            none
        else
         none
def gen_expr (fu:Nat) (self:GenE) (tabl_2:TGt) (kind_12:Int) (para_13:Int) (loca_14:List Int) (resu_18:Int) (take_19:Int) (code_20:List TInstr) (bloc_24:List (List (List UInt8×Int))) (p_2:TExpr):Option (Int×Int×Int×List Int×Int×Int×List TInstr×List (List (List UInt8×Int))) :=
 gen_expr_l1 fu self p_2 tabl_2 (p_2.Kids.length+1) 0 kind_12 para_13 resu_18 take_19 loca_14 code_20 bloc_24 []
def GenE_run:Nat→GenE
 | 0=>⟨fun _ _ _ _ _ _ _ _ _=>none⟩
 | n+1=>⟨gen_expr n (GenE_run n)⟩
structure GenS where
 gen_body:TGt→Int→Int→(List Int)→Int→Int→(List TInstr)→(List (List (List UInt8×Int)))→(List TStat)→Option (Int×Int×List Int×Int×Int×List TInstr×List (List (List UInt8×Int)))
 gen_stat:TGt→Int→Int→(List Int)→Int→Int→(List TInstr)→(List (List (List UInt8×Int)))→TStat→Option (Int×Int×List Int×Int×Int×List TInstr×List (List (List UInt8×Int)))
def gen_body_l1 (self:GenS) (p_2:List TStat) (tabl_2:TGt):Nat→Int→Int→Int→Int→Int→(List Int)→(List TInstr)→(List (List (List UInt8×Int)))→Option (Int×Int×List Int×Int×Int×List TInstr×List (List (List UInt8×Int)))
 | 0,_,_,_,_,_,_,_,_=>none
 | n+1,i81,i82,i83,i84,i85,l88,l92,l96 =>
  if i81<(p_2.length:Int) then
   (at_ p_2 i81).bind fun x134 =>
   (self.gen_stat tabl_2 i82 i83 l88 i84 i85 l92 l96 x134).bind fun r151 =>
   (i64 (i81+1)).bind fun i163 =>
   gen_body_l1 self p_2 tabl_2 n i163 r151.1 r151.2.1 r151.2.2.2.1 r151.2.2.2.2.1 r151.2.2.1 r151.2.2.2.2.2.1 r151.2.2.2.2.2.2
  else
   (i64 ((l96.length:Int) - 1)).bind fun i165 =>
   (cut l96 0 i165).bind fun l167 =>
   some (i82,i83,l88,i84,i85,l92,l167)
def gen_body (self:GenS) (tabl_2:TGt) (kind_12:Int) (para_13:Int) (loca_14:List Int) (resu_18:Int) (take_19:Int) (code_20:List TInstr) (bloc_24:List (List (List UInt8×Int))) (p_2:List TStat):Option (Int×Int×List Int×Int×Int×List TInstr×List (List (List UInt8×Int))) :=
 (app bloc_24 [[]]).bind fun l44 =>
 gen_body_l1 self p_2 tabl_2 (p_2.length+1) 0 kind_12 para_13 resu_18 take_19 loca_14 code_20 l44
def gen_stat_j2 (r122:Int×Int×List Int×Int×Int×List TInstr×List (List (List UInt8×Int))) (l136:List TInstr):Option (Int×Int×List Int×Int×Int×List TInstr×List (List (List UInt8×Int))) :=
 some (r122.1,r122.2.1,r122.2.2.1,r122.2.2.2.1,r122.2.2.2.2.1,l136,r122.2.2.2.2.2.2)
def gen_stat_j1 (self:GenS) (p_2:TStat) (tabl_2:TGt) (r86:Int×Int×Int×List Int×Int×Int×List TInstr×List (List (List UInt8×Int))) (l100:List TInstr):Option (Int×Int×List Int×Int×Int×List TInstr×List (List (List UInt8×Int))) :=
 (self.gen_body tabl_2 r86.2.1 r86.2.2.1 r86.2.2.2.1 r86.2.2.2.2.1 r86.2.2.2.2.2.1 l100 r86.2.2.2.2.2.2.2 p_2.Else).bind fun r122 =>
 (gen_here tabl_2 r122.1 r122.2.1 r122.2.2.1 r122.2.2.2.1 r122.2.2.2.2.1 r122.2.2.2.2.2.1 r122.2.2.2.2.2.2).bind fun r138 =>
 (at_ r122.2.2.2.2.2.1 r86.1).bind fun x141 =>
 gen_stat_j2 r122 (r122.2.2.2.2.2.1.set r86.1.toNat (TInstr.mk x141.Op r138 x141.N))
def gen_stat_j3 (r198:Int×Int×Int×List Int×Int×Int×List TInstr×List (List (List UInt8×Int))) (l212:List TInstr):Option (Int×Int×List Int×Int×Int×List TInstr×List (List (List UInt8×Int))) :=
 some (r198.2.1,r198.2.2.1,r198.2.2.2.1,r198.2.2.2.2.1,r198.2.2.2.2.2.1,l212,r198.2.2.2.2.2.2.2)
def gen_stat (fu:Nat) (self:GenS) (tabl_2:TGt) (kind_12:Int) (para_13:Int) (loca_14:List Int) (resu_18:Int) (take_19:Int) (code_20:List TInstr) (bloc_24:List (List (List UInt8×Int))) (p_2:TStat):Option (Int×Int×List Int×Int×Int×List TInstr×List (List (List UInt8×Int))) :=
 if p_2.Kind=3 then
  ((GenE_run fu).gen_expr tabl_2 kind_12 para_13 loca_14 resu_18 take_19 code_20 bloc_24 p_2.X).bind fun r50 =>
  (gen_put tabl_2 r50.2.1 r50.2.2.1 r50.2.2.2.1 r50.2.2.2.2.1 r50.2.2.2.2.2.1 r50.2.2.2.2.2.2.1 r50.2.2.2.2.2.2.2 22 0 0).bind fun r62 =>
  (self.gen_body tabl_2 r62.2.1 r62.2.2.1 r62.2.2.2.1 r62.2.2.2.2.1 r62.2.2.2.2.2.1 r62.2.2.2.2.2.2.1 r62.2.2.2.2.2.2.2 p_2.Body).bind fun r74 =>
  (gen_put tabl_2 r74.1 r74.2.1 r74.2.2.1 r74.2.2.2.1 r74.2.2.2.2.1 r74.2.2.2.2.2.1 r74.2.2.2.2.2.2 21 0 0).bind fun r86 =>
  (gen_here tabl_2 r86.2.1 r86.2.2.1 r86.2.2.2.1 r86.2.2.2.2.1 r86.2.2.2.2.2.1 r86.2.2.2.2.2.2.1 r86.2.2.2.2.2.2.2).bind fun r102 =>
  (at_ r86.2.2.2.2.2.2.1 r62.1).bind fun x105 =>
  gen_stat_j1 self p_2 tabl_2 r86 (r86.2.2.2.2.2.2.1.set r62.1.toNat (TInstr.mk x105.Op r102 x105.N))
 else
  if p_2.Kind=4 then
   (gen_here tabl_2 kind_12 para_13 loca_14 resu_18 take_19 code_20 bloc_24).bind fun r159 =>
   ((GenE_run fu).gen_expr tabl_2 kind_12 para_13 loca_14 resu_18 take_19 code_20 bloc_24 p_2.X).bind fun r162 =>
   (gen_put tabl_2 r162.2.1 r162.2.2.1 r162.2.2.2.1 r162.2.2.2.2.1 r162.2.2.2.2.2.1 r162.2.2.2.2.2.2.1 r162.2.2.2.2.2.2.2 22 0 0).bind fun r174 =>
   (self.gen_body tabl_2 r174.2.1 r174.2.2.1 r174.2.2.2.1 r174.2.2.2.2.1 r174.2.2.2.2.2.1 r174.2.2.2.2.2.2.1 r174.2.2.2.2.2.2.2 p_2.Body).bind fun r186 =>
   (gen_put tabl_2 r186.1 r186.2.1 r186.2.2.1 r186.2.2.2.1 r186.2.2.2.2.1 r186.2.2.2.2.2.1 r186.2.2.2.2.2.2 21 r159 0).bind fun r198 =>
   (gen_here tabl_2 r198.2.1 r198.2.2.1 r198.2.2.2.1 r198.2.2.2.2.1 r198.2.2.2.2.2.1 r198.2.2.2.2.2.2.1 r198.2.2.2.2.2.2.2).bind fun r214 =>
   (at_ r198.2.2.2.2.2.2.1 r174.1).bind fun x217 =>
   gen_stat_j3 r198 (r198.2.2.2.2.2.2.1.set r174.1.toNat (TInstr.mk x217.Op r214 x217.N))
  else
   if p_2.Kind=6 then
    none
   else
    ((GenE_run fu).gen_expr tabl_2 kind_12 para_13 loca_14 resu_18 take_19 code_20 bloc_24 p_2.X).bind fun r235 =>
    if p_2.Kind=1 then
     (gen_local tabl_2 r235.2.1 r235.2.2.1 r235.2.2.2.1 r235.2.2.2.2.1 r235.2.2.2.2.2.1 r235.2.2.2.2.2.2.1 r235.2.2.2.2.2.2.2 p_2.Name r235.1).bind fun r248 =>
     (gen_put tabl_2 r248.2.1 r248.2.2.1 r248.2.2.2.1 r248.2.2.2.2.1 r248.2.2.2.2.2.1 r248.2.2.2.2.2.2.1 r248.2.2.2.2.2.2.2 4 r248.1 0).bind fun r260 =>
     some (r260.2.1,r260.2.2.1,r260.2.2.2.1,r260.2.2.2.2.1,r260.2.2.2.2.2.1,r260.2.2.2.2.2.2.1,r260.2.2.2.2.2.2.2)
    else
     if p_2.Kind=2 then
      (gen_look fu tabl_2 r235.2.1 r235.2.2.1 r235.2.2.2.1 r235.2.2.2.2.1 r235.2.2.2.2.2.1 r235.2.2.2.2.2.2.1 r235.2.2.2.2.2.2.2 p_2.Name).bind fun r273 =>
      (gen_put tabl_2 r235.2.1 r235.2.2.1 r235.2.2.2.1 r235.2.2.2.2.1 r235.2.2.2.2.2.1 r235.2.2.2.2.2.2.1 r235.2.2.2.2.2.2.2 4 r273 0).bind fun r276 =>
      some (r276.2.1,r276.2.2.1,r276.2.2.2.1,r276.2.2.2.2.1,r276.2.2.2.2.2.1,r276.2.2.2.2.2.2.1,r276.2.2.2.2.2.2.2)
     else
      if p_2.Kind=5 then
       (gen_put tabl_2 r235.2.1 r235.2.2.1 r235.2.2.2.1 r235.2.2.2.2.1 r235.2.2.2.2.2.1 r235.2.2.2.2.2.2.1 r235.2.2.2.2.2.2.2 24 0 0).bind fun r289 =>
       some (r289.2.1,r289.2.2.1,r289.2.2.2.1,r289.2.2.2.2.1,r289.2.2.2.2.2.1,r289.2.2.2.2.2.2.1,r289.2.2.2.2.2.2.2)
      else
       if p_2.Kind=7 then
        none
       else
        if p_2.Kind=8 then
         (gen_put tabl_2 r235.2.1 r235.2.2.1 r235.2.2.2.1 r235.2.2.2.2.1 r235.2.2.2.2.2.1 r235.2.2.2.2.2.2.1 r235.2.2.2.2.2.2.2 28 0 0).bind fun r303 =>
         some (r303.2.1,r303.2.2.1,r303.2.2.2.1,r303.2.2.2.2.1,r303.2.2.2.2.2.1,r303.2.2.2.2.2.2.1,r303.2.2.2.2.2.2.2)
        else
         none
def GenS_run:Nat→GenS
 | 0=>⟨fun _ _ _ _ _ _ _ _ _=>none,fun _ _ _ _ _ _ _ _ _=>none⟩
 | n+1=>⟨gen_body (GenS_run n),gen_stat n (GenS_run n)⟩
def gen_unit_j4 (p_1:TGt) (l225:List (List (List UInt8×Int))) (i227:Int) (i228:Int) (i229:Int) (i230:Int) (l233:List Int) (l237:List TInstr):Option TUnit :=
 (gen_put p_1 i227 i228 l233 i229 i230 l237 l225 24 0 0).bind fun r268 =>
 some (TUnit.mk r268.2.1 r268.2.2.1 r268.2.2.2.1 r268.2.2.2.2.1 r268.2.2.2.2.2.1 r268.2.2.2.2.2.2.1)
def gen_unit_j1 (fu:Nat) (p_1:TGt) (p_2:TDef) (l38:List (List (List UInt8×Int))) (i40:Int) (i41:Int) (i42:Int) (i43:Int) (l46:List Int) (l50:List TInstr):Option TUnit :=
 if p_2.Kind=3 then
  none
 else
  ((GenS_run fu).gen_body p_1 i40 i41 l46 i42 i43 l50 l38 p_2.Body).bind fun r188 =>
  if p_2.Kind≠2 then
   (gen_put p_1 r188.1 r188.2.1 r188.2.2.1 r188.2.2.2.1 r188.2.2.2.2.1 r188.2.2.2.2.2.1 r188.2.2.2.2.2.2 25 0 0).bind fun r201 =>
   some (TUnit.mk r201.2.1 r201.2.2.1 r201.2.2.2.1 r201.2.2.2.2.1 r201.2.2.2.2.2.1 r201.2.2.2.2.2.2.1)
  else
   if r188.2.2.2.1=2 then
    (gen_put p_1 r188.1 r188.2.1 r188.2.2.1 r188.2.2.2.1 r188.2.2.2.2.1 r188.2.2.2.2.2.1 r188.2.2.2.2.2.2 2 0 0).bind fun r240 =>
    gen_unit_j4 p_1 r240.2.2.2.2.2.2.2 r240.2.1 r240.2.2.1 r240.2.2.2.2.1 r240.2.2.2.2.2.1 r240.2.2.2.1 r240.2.2.2.2.2.2.1
   else
    (gen_put p_1 r188.1 r188.2.1 r188.2.2.1 r188.2.2.2.1 r188.2.2.2.2.1 r188.2.2.2.2.2.1 r188.2.2.2.2.2.2 1 0 0).bind fun r252 =>
    gen_unit_j4 p_1 r252.2.2.2.2.2.2.2 r252.2.1 r252.2.2.1 r252.2.2.2.2.1 r252.2.2.2.2.2.1 r252.2.2.2.1 r252.2.2.2.2.2.2.1
def gen_unit_j3 (i87:Int) (k_gen_unit_l1:Int→(List (List (List UInt8×Int)))→Int→Int→Int→Int→(List Int)→(List TInstr)→Option TUnit) (l148:List (List (List UInt8×Int))) (i150:Int) (i151:Int) (i152:Int) (i153:Int) (l156:List Int) (l160:List TInstr):Option TUnit :=
 (i64 (i87+1)).bind fun i181 =>
 k_gen_unit_l1 i181 l148 i150 i151 i152 i153 l156 l160
def gen_unit_l1 (fu:Nat) (p_1:TGt) (p_2:TDef):Nat→Int→(List (List (List UInt8×Int)))→Int→Int→Int→Int→(List Int)→(List TInstr)→Option TUnit
 | 0,_,_,_,_,_,_,_,_=>none
 | n+1,i87,l90,i92,i93,i94,i95,l98,l102 =>
  if i87<(p_2.Params.length:Int) then
   (at_ p_2.Params i87).bind fun x136 =>
   (gen_typ p_1 x136.Typ).bind fun r162 =>
   (gen_local p_1 i92 i93 l98 i94 i95 l102 l90 x136.Name r162).bind fun r165 =>
   gen_unit_j3 i87 (gen_unit_l1 fu p_1 p_2 n) r165.2.2.2.2.2.2.2 r165.2.1 r165.2.2.1 r165.2.2.2.2.1 r165.2.2.2.2.2.1 r165.2.2.2.1 r165.2.2.2.2.2.2.1
  else
   gen_unit_j1 fu p_1 p_2 l90 i92 i93 i94 i95 l98 l102
def gen_unit_j2 (fu:Nat) (p_1:TGt) (p_2:TDef) (i53:Int):Option TUnit :=
 gen_unit_l1 fu p_1 p_2 (p_2.Params.length+1) 0 [([]:List (List UInt8×Int))] p_2.Kind (p_2.Params.length:Int) i53 0 [] []
def gen_unit (fu:Nat)  (p_1:TGt) (p_2:TDef):Option TUnit :=
 if p_2.Kind≠4 then
  (gen_typ p_1 p_2.Typ).bind fun r54 =>
  gen_unit_j2 fu p_1 p_2 r54
 else
  gen_unit_j1 fu p_1 p_2 [([]:List (List UInt8×Int))] p_2.Kind 0 0 0 [] []
def gen_compile_j2 (i162:Int) (l169:List (List UInt8×Int)) (l173:List (List UInt8×TDef)) (x316:TDef) (x330:TDef) (l364:List (List UInt8×Int)) (k_gen_compile_l1:Int→(List (List UInt8×Int))→(List (List UInt8×Int))→(List (List UInt8×TDef))→(List TBi)→Option (TModule×TFault)) (l387:List TBi):Option (TModule×TFault) :=
 (i64 (i162+1)).bind fun i429 =>
 k_gen_compile_l1 i429 l364 l169 (mput l173 x316.Name x330) l387
def gen_compile_j1 (p_1:List TDef) (i162:Int) (l169:List (List UInt8×Int)) (l173:List (List UInt8×TDef)) (l177:List TBi) (x316:TDef) (x330:TDef) (k_gen_compile_l1:Int→(List (List UInt8×Int))→(List (List UInt8×Int))→(List (List UInt8×TDef))→(List TBi)→Option (TModule×TFault)) (l364:List (List UInt8×Int)):Option (TModule×TFault) :=
 (at_ p_1 i162).bind fun x389 =>
 (at_ p_1 i162).bind fun x403 =>
 (gen_typo l364 l169 (mput l173 x316.Name x330) x389.Typ).bind fun r417 =>
 (app l177 [(TBi.mk r417 x403.Cap)]).bind fun l424 =>
 gen_compile_j2 i162 l169 l173 x316 x330 l364 k_gen_compile_l1 l424
def gen_compile_j3 (i162:Int) (l165:List (List UInt8×Int)) (l173:List (List UInt8×TDef)) (l177:List TBi) (x316:TDef) (x330:TDef) (k_gen_compile_l1:Int→(List (List UInt8×Int))→(List (List UInt8×Int))→(List (List UInt8×TDef))→(List TBi)→Option (TModule×TFault)) (l433:List (List UInt8×Int)):Option (TModule×TFault) :=
 (i64 (i162+1)).bind fun i454 =>
 k_gen_compile_l1 i454 l165 l433 (mput l173 x316.Name x330) l177
def gen_compile_l2 (fu:Nat) (p_1:List TDef) (l165:List (List UInt8×Int)) (l169:List (List UInt8×Int)) (l173:List (List UInt8×TDef)) (l177:List TBi):Nat→Int→(List TUnit)→Option (TModule×TFault)
 | 0,_,_=>none
 | n+1,i518,l521 =>
  if i518<(p_1.length:Int) then
   (at_ p_1 i518).bind fun x579 =>
   if x579.Kind=1 then
    (i64 (i518+1)).bind fun i594 =>
    gen_compile_l2 fu p_1 l165 l169 l173 l177 n i594 l521
   else
    (at_ p_1 i518).bind fun x596 =>
    (gen_unit fu (TGt.mk l165 l169 l173) x596).bind fun r610 =>
    if (200:Int)<(r610.Locals.length:Int) then
     none
    else
     if (4000:Int)<(r610.Code.length:Int) then
      none
     else
      (app l521 [r610]).bind fun l627 =>
      (i64 (i518+1)).bind fun i630 =>
      gen_compile_l2 fu p_1 l165 l169 l173 l177 n i630 l627
  else
   some ((TModule.mk l177 l521),(TFault.mk 0 0))
def gen_compile_l1 (fu:Nat) (p_1:List TDef):Nat→Int→(List (List UInt8×Int))→(List (List UInt8×Int))→(List (List UInt8×TDef))→(List TBi)→Option (TModule×TFault)
 | 0,_,_,_,_,_=>none
 | n+1,i162,l165,l169,l173,l177 =>
  if i162<(p_1.length:Int) then
   (at_ p_1 i162).bind fun x316 =>
   (at_ p_1 i162).bind fun x330 =>
   (at_ p_1 i162).bind fun x347 =>
   if x347.Kind=1 then
    (at_ p_1 i162).bind fun x366 =>
    gen_compile_j1 p_1 i162 l169 l173 l177 x316 x330 (gen_compile_l1 fu p_1 n) (mput l165 x366.Name (l165.length:Int))
   else
    (at_ p_1 i162).bind fun x435 =>
    gen_compile_j3 i162 l165 l173 l177 x316 x330 (gen_compile_l1 fu p_1 n) (mput l169 x435.Name (l169.length:Int))
  else
   gen_compile_l2 fu p_1 l165 l169 l173 l177 (p_1.length+1) 0 []
def gen_compile (fu:Nat)  (p_1:List TDef):Option (TModule×TFault) :=
 (sema_check fu p_1).bind fun r14 =>
 if r14.Err≠0 then
  none
 else
  gen_compile_l1 fu p_1 (p_1.length+1) 0 ([]:List (List UInt8×Int)) ([]:List (List UInt8×Int)) ([]:List (List UInt8×TDef)) []
end Go.Y
namespace Go.Y
open Go.Wk Go.Xt
def vf_plain  (p_1:Int):Option Bool :=
 if p_1=1 then
  some true
 else
  some (decide (p_1=2))
def vf_unit  (p_1:TVc) (p_2:Int) (p_3:Int):Option Bool :=
 if (0:Int)≤p_2 then
  (p_1.m).bind fun x7 =>
  if p_2<(x7.Units.length:Int) then
   (at_ x7.Units p_2).bind fun x21 =>
   some (decide (x21.Kind=p_3))
  else
   none
 else
  none
def vf_instr_j1  (b17:Bool):Option Int :=
 if b17=true then
  some 0
 else
  none
def vf_instr_j3 (p_1:TVc) (p_2:TUnit) (p_3:TInstr) (b25:Bool):Option Int :=
 if b25=true then
  if (0:Int)≤p_3.A then
   vf_instr_j1 (decide (p_3.A<(p_2.Code.length:Int)))
  else
   none
 else
  if p_3.Op=23 then
   (vf_unit p_1 p_3.A 2).bind fun r31 =>
   vf_instr_j1 r31
  else
   if p_3.Op=29 then
    none
   else
    if p_3.Op=26 then
     none
    else
     if p_3.Op=27 then
      if (0:Int)≤p_3.A then
       (p_1.m).bind fun x38 =>
       vf_instr_j1 (decide (p_3.A<(x38.Boxes.length:Int)))
      else
       none
     else
      if p_3.Op<1 then
       none
      else
       if (32:Int)<p_3.Op then
        none
       else
        vf_instr_j1 true
def vf_instr_j2 (p_1:TVc) (p_2:TUnit) (p_3:TInstr) (b20:Bool):Option Int :=
 if b20=true then
  if (0:Int)≤p_3.A then
   vf_instr_j1 (decide (p_3.A<(p_2.Locals.length:Int)))
  else
   none
 else
  if p_3.Op=21 then
   vf_instr_j3 p_1 p_2 p_3 (decide (p_3.Op=21))
  else
   vf_instr_j3 p_1 p_2 p_3 (decide (p_3.Op=22))
def vf_instr  (p_1:TVc) (p_2:TUnit) (p_3:TInstr):Option Int :=
 if p_3.Op=2 then
  if p_3.A=0 then
   vf_instr_j1 true
  else
   vf_instr_j1 (decide (p_3.A=1))
 else
  if p_3.Op=3 then
   vf_instr_j2 p_1 p_2 p_3 (decide (p_3.Op=3))
  else
   vf_instr_j2 p_1 p_2 p_3 (decide (p_3.Op=4))
def idxf_i_l1 (p_1:List Int) (p_2:Int→Option Bool):Nat→Int→Option Int
 | 0,_=>none
 | n+1,i20 =>
  if i20<(p_1.length:Int) then
   (at_ p_1 i20).bind fun x37 =>
   (p_2 x37).bind fun b45 =>
   if b45=true then
    some i20
   else
    (i64 (i20+1)).bind fun i49 =>
    idxf_i_l1 p_1 p_2 n i49
  else
   some (-1)
def idxf_i  (p_1:List Int) (p_2:Int→Option Bool):Option Int :=
 idxf_i_l1 p_1 p_2 (p_1.length+1) 0
def conf_i  (p_1:List Int) (p_2:Int→Option Bool):Option Bool :=
 (idxf_i p_1 p_2).bind fun r7 =>
 some (decide ((0:Int)≤r7))
def idxf_n_l1 (p_1:List TInstr) (p_2:TInstr→Option Bool):Nat→Int→Option Int
 | 0,_=>none
 | n+1,i20 =>
  if i20<(p_1.length:Int) then
   (at_ p_1 i20).bind fun x37 =>
   (p_2 x37).bind fun b45 =>
   if b45=true then
    some i20
   else
    (i64 (i20+1)).bind fun i49 =>
    idxf_n_l1 p_1 p_2 n i49
  else
   some (-1)
def idxf_n  (p_1:List TInstr) (p_2:TInstr→Option Bool):Option Int :=
 idxf_n_l1 p_1 p_2 (p_1.length+1) 0
def conf_n  (p_1:List TInstr) (p_2:TInstr→Option Bool):Option Bool :=
 (idxf_n p_1 p_2).bind fun r7 =>
 some (decide ((0:Int)≤r7))
def vf_head1  (p_1:Int) (p_2:Option TVc):Option Bool :=
 (vf_plain p_1).bind fun r6 =>
 if r6=true then
  some false
 else
  none
def vf_head_j3 (p_1:TVc) (p_2:TUnit) :Option Int :=
 (conf_i p_2.Locals (fun x_=>vf_head1 x_ (some p_1))).bind fun r42 =>
 if r42=true then
  none
 else
  some 0
def vf_head_j2 (p_1:TVc) (p_2:TUnit) (b22:Bool):Option Int :=
 if b22=true then
  none
 else
  if (p_2.Code.length:Int)<1 then
   none
  else
   if (4000:Int)<(p_2.Code.length:Int) then
    none
   else
    if p_2.Kind≠4 then
     (vf_plain p_2.Result).bind fun r33 =>
     if r33=true then
      if p_2.Kind=3 then
       none
      else
       vf_head_j3 p_1 p_2
     else
      none
    else
     if p_2.Kind=3 then
      none
     else
      vf_head_j3 p_1 p_2
def vf_head_j1 (p_1:TVc) (p_2:TUnit) (b17:Bool):Option Int :=
 if b17=true then
  none
 else
  if (200:Int)<(p_2.Locals.length:Int) then
   none
  else
   if p_2.Params<0 then
    none
   else
    if (6:Int)<p_2.Params then
     none
    else
     if (p_2.Locals.length:Int)<p_2.Params then
      none
     else
      if p_2.Kind=4 then
       vf_head_j2 p_1 p_2 (decide ((0:Int)<p_2.Params))
      else
       vf_head_j2 p_1 p_2 false
def vf_head  (p_1:TVc) (p_2:TUnit):Option Int :=
 if p_2.Kind≠2 then
  if p_2.Kind≠3 then
   vf_head_j1 p_1 p_2 (decide (p_2.Kind≠4))
  else
   none
 else
  vf_head_j1 p_1 p_2 false
def vf_form_l3 (p_1:TVc) (i144:Int) (i145:Int) (x216:TUnit) (k_vf_form_l2:Int→Int→Option TWhere):Nat→Int→Option TWhere
 | 0,_=>none
 | n+1,i249 =>
  if i249<(x216.Code.length:Int) then
   (at_ x216.Code i249).bind fun x267 =>
   (vf_instr p_1 x216 x267).bind fun r277 =>
   if r277≠0 then
    none
   else
    (i64 (i249+1)).bind fun i281 =>
    vf_form_l3 p_1 i144 i145 x216 k_vf_form_l2 n i281
  else
   if x216.Kind=4 then
    (i64 (i144+1)).bind fun i284 =>
    (i64 (i145+1)).bind fun i286 =>
    k_vf_form_l2 i284 i286
   else
    (i64 (i145+1)).bind fun i288 =>
    k_vf_form_l2 i144 i288
def vf_form_l2 (p_1:TVc) (x8:TModule):Nat→Int→Int→Option TWhere
 | 0,_,_=>none
 | n+1,i144,i145 =>
  if i145<(x8.Units.length:Int) then
   (at_ x8.Units i145).bind fun x216 =>
   (vf_head p_1 x216).bind fun r230 =>
   if r230≠0 then
    none
   else
    vf_form_l3 p_1 i144 i145 x216 (vf_form_l2 p_1 x8 n) (x216.Code.length+1) 0
  else
   if i144=0 then
    none
   else
    some (TWhere.mk 0 0 0)
def vf_form_l1 (p_1:TVc) (x8:TModule):Nat→Int→Option TWhere
 | 0,_=>none
 | n+1,i39 =>
  if i39<(x8.Boxes.length:Int) then
   (at_ x8.Boxes i39).bind fun x58 =>
   (vf_plain x58.Typ).bind fun r68 =>
   if r68=true then
    if x58.Cap<1 then
     none
    else
     if (20:Int)<x58.Cap then
      none
     else
      (i64 (i39+1)).bind fun i74 =>
      vf_form_l1 p_1 x8 n i74
   else
    none
  else
   vf_form_l2 p_1 x8 (x8.Units.length+1) 0 0
def vf_form  (p_1:TVc):Option TWhere :=
 (p_1.m).bind fun x8 =>
 if (30:Int)<(x8.Boxes.length:Int) then
  none
 else
  if (30:Int)<(x8.Units.length:Int) then
   none
  else
   vf_form_l1 p_1 x8 (x8.Boxes.length+1) 0
end Go.Y
namespace Go.Y
open Go.Wk Go.Xt
def vf_copied_j1  (l19:List Int) (l23:List Bool):Option TVs :=
 some (TVs.mk l19 l23)
def vf_copied  (p_1:TVs):Option TVs :=
 (small p_1.stack).bind fun u25 =>
 (small p_1.has).bind fun u29 =>
 vf_copied_j1 p_1.stack p_1.has
def vf_copiedr_j1  (l19:List Int) (l23:List Bool):Option TVs :=
 some (TVs.mk l19 l23)
def vf_copiedr  (p_1:TVs):Option TVs :=
 (small p_1.stack).bind fun u25 =>
 (small p_1.has).bind fun u29 =>
 vf_copiedr_j1 p_1.stack p_1.has
def sl_equal_l1 (p_1:List Int):Nat→Option Bool
 | 0=>none
 | n+1 =>
  if (0:Int)<(p_1.length:Int) then
   none
  else
   some true
def sl_equal  (p_1:List Int) (p_2:List Int):Option Bool :=
 if (p_1.length:Int)≠(p_2.length:Int) then
  none
 else
  sl_equal_l1 p_1 (p_1.length+1)
def vf_push  (chec_2:TVc) (u_8:TUnit) (at_18:List (Int×TVs)) (todo_23:List Int) (stac_27:List Int) (has_31:List Bool) (err_35:Int) (p_2:Int):Option (List (Int×TVs)×List Int×List Int×List Bool×Int) :=
 (app stac_27 [p_2]).bind fun l52 =>
 if (300:Int)<(l52.length:Int) then
  none
 else
  some (at_18,todo_23,l52,has_31,err_35)
def vf_pop  (chec_2:TVc) (u_8:TUnit) (at_18:List (Int×TVs)) (todo_23:List Int) (stac_27:List Int) (has_31:List Bool) (err_35:Int):Option (Int×List (Int×TVs)×List Int×List Int×List Bool×Int) :=
 if (stac_27.length:Int)=0 then
  none
 else
  (i64 ((stac_27.length:Int) - 1)).bind fun i49 =>
  (at_ stac_27 i49).bind fun x51 =>
  (i64 ((stac_27.length:Int) - 1)).bind fun i65 =>
  (cut stac_27 0 i65).bind fun l67 =>
  some (x51,at_18,todo_23,l67,has_31,err_35)
def vf_want_l1 (chec_2:TVc) (p_2:List Int) (u_8:TUnit):Nat→Int→Int→(List (Int×TVs))→(List Int)→(List Int)→(List Bool)→Option (List (Int×TVs)×List Int×List Int×List Bool×Int)
 | 0,_,_,_,_,_,_=>none
 | n+1,i78,i79,l82,l86,l90,l94 =>
  if (0:Int)≤i78 then
   (vf_pop chec_2 u_8 l82 l86 l90 l94 i79).bind fun r127 =>
   (at_ p_2 i78).bind fun x142 =>
   if r127.1≠x142 then
    none
   else
    (i64 (i78 - 1)).bind fun i151 =>
    vf_want_l1 chec_2 p_2 u_8 n i151 r127.2.2.2.2.2 r127.2.1 r127.2.2.1 r127.2.2.2.1 r127.2.2.2.2.1
  else
   some (l82,l86,l90,l94,i79)
def vf_want (fu:Nat)  (chec_2:TVc) (u_8:TUnit) (at_18:List (Int×TVs)) (todo_23:List Int) (stac_27:List Int) (has_31:List Bool) (err_35:Int) (p_2:List Int):Option (List (Int×TVs)×List Int×List Int×List Bool×Int) :=
 (i64 ((p_2.length:Int) - 1)).bind fun i51 =>
 vf_want_l1 chec_2 p_2 u_8 fu i51 err_35 at_18 todo_23 stac_27 has_31
def vf_to_j1 (p_2:Int) (todo_23:List Int) (stac_27:List Int) (has_31:List Bool) (err_35:Int) (l65:List (Int×TVs)):Option (List (Int×TVs)×List Int×List Int×List Bool×Int) :=
 (app todo_23 [p_2]).bind fun l95 =>
 some (l65,l95,stac_27,has_31,err_35)
def vf_to_j2 (i128:Int) (k_vf_to_l1:Int→Option (List (Int×TVs)×List Int×List Int×List Bool×Int)) (b157:Bool):Option (List (Int×TVs)×List Int×List Int×List Bool×Int) :=
 if b157=true then
  none
 else
  (i64 (i128+1)).bind fun i183 =>
  k_vf_to_l1 i183
def vf_to_l1 (p_2:Int) (at_18:List (Int×TVs)) (todo_23:List Int) (stac_27:List Int) (has_31:List Bool) (err_35:Int):Nat→Int→Option (List (Int×TVs)×List Int×List Int×List Bool×Int)
 | 0,_=>none
 | n+1,i128 =>
  if i128<((((mget at_18 p_2).getD (TVs.mk ([]:List Int) ([]:List Bool))).has).length:Int) then
   (at_ (((mget at_18 p_2).getD (TVs.mk ([]:List Int) ([]:List Bool))).has) i128).bind fun x158 =>
   if x158=true then
    (at_ has_31 i128).bind fun x167 =>
    vf_to_j2 i128 (vf_to_l1 p_2 at_18 todo_23 stac_27 has_31 err_35 n) (!x167)
   else
    vf_to_j2 i128 (vf_to_l1 p_2 at_18 todo_23 stac_27 has_31 err_35 n) false
  else
   some (at_18,todo_23,stac_27,has_31,err_35)
def vf_to  (chec_2:TVc) (u_8:TUnit) (at_18:List (Int×TVs)) (todo_23:List Int) (stac_27:List Int) (has_31:List Bool) (err_35:Int) (p_2:Int):Option (List (Int×TVs)×List Int×List Int×List Bool×Int) :=
 if err_35≠0 then
  none
 else
  if p_2=(u_8.Code.length:Int) then
   none
  else
   if (mget at_18 p_2).isSome=true then
    (sl_equal (((mget at_18 p_2).getD (TVs.mk ([]:List Int) ([]:List Bool))).stack) stac_27).bind fun r98 =>
    if r98=true then
     vf_to_l1 p_2 at_18 todo_23 stac_27 has_31 err_35 ((((mget at_18 p_2).getD (TVs.mk ([]:List Int) ([]:List Bool))).has).length+1) 0
    else
     none
   else
    (vf_copiedr (TVs.mk stac_27 has_31)).bind fun r67 =>
    vf_to_j1 p_2 todo_23 stac_27 has_31 err_35 (mput at_18 p_2 r67)
def vf_args (fu:Nat)  (chec_2:TVc) (u_8:TUnit) (at_18:List (Int×TVs)) (todo_23:List Int) (stac_27:List Int) (has_31:List Bool) (err_35:Int) (p_2:Int):Option (TUnit×List (Int×TVs)×List Int×List Int×List Bool×Int) :=
 (chec_2.m).bind fun x57 =>
 (at_ x57.Units p_2).bind fun x70 =>
 (cut x70.Locals 0 x70.Params).bind fun l84 =>
 (vf_want fu chec_2 u_8 at_18 todo_23 stac_27 has_31 err_35 l84).bind fun r90 =>
 some (x70,r90.1,r90.2.1,r90.2.2.1,r90.2.2.2.1,r90.2.2.2.2)
def vf_done  (chec_2:TVc) (u_8:TUnit) (at_18:List (Int×TVs)) (todo_23:List Int) (stac_27:List Int) (has_31:List Bool) (err_35:Int):Option (Bool×List (Int×TVs)×List Int×List Int×List Bool×Int) :=
 if (0:Int)<(stac_27.length:Int) then
  none
 else
  some (false,at_18,todo_23,stac_27,has_31,err_35)
def vf_special_j1  (i50:Int) (l53:List (Int×TVs)) (l57:List Int) (l61:List Int) (l65:List Bool):Option (Bool×List (Int×TVs)×List Int×List Int×List Bool×Int) :=
 some (true,l53,l57,l61,l65,i50)
def vf_special (fu:Nat)  (chec_2:TVc) (u_8:TUnit) (at_18:List (Int×TVs)) (todo_23:List Int) (stac_27:List Int) (has_31:List Bool) (err_35:Int) (p_2:TInstr):Option (Bool×List (Int×TVs)×List Int×List Int×List Bool×Int) :=
 if p_2.Op=23 then
  (vf_args fu chec_2 u_8 at_18 todo_23 stac_27 has_31 err_35 p_2.A).bind fun r68 =>
  (vf_push chec_2 u_8 r68.2.1 r68.2.2.1 r68.2.2.2.1 r68.2.2.2.2.1 r68.2.2.2.2.2 r68.1.Result).bind fun r92 =>
  vf_special_j1 r92.2.2.2.2 r92.1 r92.2.1 r92.2.2.1 r92.2.2.2.1
 else
  if p_2.Op=29 then
   none
  else
   if p_2.Op=24 then
    if u_8.Kind≠2 then
     none
    else
     (vf_want fu chec_2 u_8 at_18 todo_23 stac_27 has_31 err_35 [u_8.Result]).bind fun r114 =>
     (vf_done chec_2 u_8 r114.1 r114.2.1 r114.2.2.1 r114.2.2.2.1 r114.2.2.2.2).bind fun r129 =>
     some (r129.1,r129.2.1,r129.2.2.1,r129.2.2.2.1,r129.2.2.2.2.1,r129.2.2.2.2.2)
   else
    if p_2.Op=25 then
     if u_8.Kind=2 then
      none
     else
      (vf_done chec_2 u_8 at_18 todo_23 stac_27 has_31 err_35).bind fun r146 =>
      some (r146.1,r146.2.1,r146.2.2.1,r146.2.2.2.1,r146.2.2.2.2.1,r146.2.2.2.2.2)
    else
     if p_2.Op=26 then
      none
     else
      if p_2.Op=27 then
       (chec_2.m).bind fun x163 =>
       (at_ x163.Boxes p_2.A).bind fun x176 =>
       (vf_push chec_2 u_8 at_18 todo_23 stac_27 has_31 err_35 x176.Typ).bind fun r184 =>
       vf_special_j1 r184.2.2.2.2 r184.1 r184.2.1 r184.2.2.1 r184.2.2.2.1
      else
       if p_2.Op=28 then
        (vf_pop chec_2 u_8 at_18 todo_23 stac_27 has_31 err_35).bind fun r200 =>
        if r200.2.2.2.2.2=0 then
         (vf_plain r200.1).bind fun r216 =>
         if r216=true then
          vf_special_j1 r200.2.2.2.2.2 r200.2.1 r200.2.2.1 r200.2.2.2.1 r200.2.2.2.2.1
         else
          none
        else
         none
       else
        none
def vf_step_j1  (i50:Int) (l53:List (Int×TVs)) (l57:List Int) (l61:List Int) (l65:List Bool):Option (Bool×List (Int×TVs)×List Int×List Int×List Bool×Int) :=
 some (true,l53,l57,l61,l65,i50)
def vf_step_j2 (fu:Nat) (chec_2:TVc) (p_2:TInstr) (u_8:TUnit) (at_18:List (Int×TVs)) (todo_23:List Int) (stac_27:List Int) (has_31:List Bool) (err_35:Int) (b220:Bool):Option (Bool×List (Int×TVs)×List Int×List Int×List Bool×Int) :=
 if b220=true then
  (vf_pop chec_2 u_8 at_18 todo_23 stac_27 has_31 err_35).bind fun r224 =>
  if r224.1≠1 then
   none
  else
   (vf_want fu chec_2 u_8 r224.2.1 r224.2.2.1 r224.2.2.2.1 r224.2.2.2.2.1 r224.2.2.2.2.2 [r224.1]).bind fun r244 =>
   (vf_push chec_2 u_8 r244.1 r244.2.1 r244.2.2.1 r244.2.2.2.1 r244.2.2.2.2 2).bind fun r259 =>
   vf_step_j1 r259.2.2.2.2 r259.1 r259.2.1 r259.2.2.1 r259.2.2.2.1
 else
  if (15:Int)≤p_2.Op then
   if p_2.Op≤18 then
    (vf_want fu chec_2 u_8 at_18 todo_23 stac_27 has_31 err_35 [1,1]).bind fun r280 =>
    (vf_push chec_2 u_8 r280.1 r280.2.1 r280.2.2.1 r280.2.2.2.1 r280.2.2.2.2 2).bind fun r295 =>
    vf_step_j1 r295.2.2.2.2 r295.1 r295.2.1 r295.2.2.1 r295.2.2.2.1
   else
    if p_2.Op=19 then
     none
    else
     if p_2.Op=20 then
      none
     else
      if p_2.Op=21 then
       (vf_to chec_2 u_8 at_18 todo_23 stac_27 has_31 err_35 p_2.A).bind fun r313 =>
       some (false,r313.1,r313.2.1,r313.2.2.1,r313.2.2.2.1,r313.2.2.2.2)
      else
       if p_2.Op=22 then
        (vf_want fu chec_2 u_8 at_18 todo_23 stac_27 has_31 err_35 [2]).bind fun r333 =>
        (vf_to chec_2 u_8 r333.1 r333.2.1 r333.2.2.1 r333.2.2.2.1 r333.2.2.2.2 p_2.A).bind fun r348 =>
        vf_step_j1 r348.2.2.2.2 r348.1 r348.2.1 r348.2.2.1 r348.2.2.2.1
       else
        (vf_special fu chec_2 u_8 at_18 todo_23 stac_27 has_31 err_35 p_2).bind fun r363 =>
        some (r363.1,r363.2.1,r363.2.2.1,r363.2.2.2.1,r363.2.2.2.2.1,r363.2.2.2.2.2)
  else
   none
def vf_step (fu:Nat)  (chec_2:TVc) (u_8:TUnit) (at_18:List (Int×TVs)) (todo_23:List Int) (stac_27:List Int) (has_31:List Bool) (err_35:Int) (p_2:TInstr):Option (Bool×List (Int×TVs)×List Int×List Int×List Bool×Int) :=
 if p_2.Op=1 then
  (vf_push chec_2 u_8 at_18 todo_23 stac_27 has_31 err_35 1).bind fun r68 =>
  vf_step_j1 r68.2.2.2.2 r68.1 r68.2.1 r68.2.2.1 r68.2.2.2.1
 else
  if p_2.Op=2 then
   (vf_push chec_2 u_8 at_18 todo_23 stac_27 has_31 err_35 2).bind fun r84 =>
   vf_step_j1 r84.2.2.2.2 r84.1 r84.2.1 r84.2.2.1 r84.2.2.2.1
  else
   if p_2.Op=3 then
    (at_ has_31 p_2.A).bind fun x100 =>
    if x100=true then
     (at_ u_8.Locals p_2.A).bind fun x115 =>
     (vf_push chec_2 u_8 at_18 todo_23 stac_27 has_31 err_35 x115).bind fun r123 =>
     vf_step_j1 r123.2.2.2.2 r123.1 r123.2.1 r123.2.2.1 r123.2.2.2.1
    else
     none
   else
    if p_2.Op=4 then
     (at_ u_8.Locals p_2.A).bind fun x139 =>
     (vf_want fu chec_2 u_8 at_18 todo_23 stac_27 has_31 err_35 [x139]).bind fun r151 =>
     (at_ r151.2.2.2.1 p_2.A).bind fun x166 =>
     vf_step_j1 r151.2.2.2.2 r151.1 r151.2.1 r151.2.2.1 (r151.2.2.2.1.set p_2.A.toNat true)
    else
     if p_2.Op=5 then
      none
     else
      if p_2.Op=6 then
       none
      else
       if p_2.Op=7 then
        none
       else
        if (8:Int)≤p_2.Op then
         if p_2.Op≤12 then
          (vf_want fu chec_2 u_8 at_18 todo_23 stac_27 has_31 err_35 [1,1]).bind fun r190 =>
          (vf_push chec_2 u_8 r190.1 r190.2.1 r190.2.2.1 r190.2.2.2.1 r190.2.2.2.2 1).bind fun r205 =>
          vf_step_j1 r205.2.2.2.2 r205.1 r205.2.1 r205.2.2.1 r205.2.2.2.1
         else
          if p_2.Op=13 then
           vf_step_j2 fu chec_2 p_2 u_8 at_18 todo_23 stac_27 has_31 err_35 true
          else
           vf_step_j2 fu chec_2 p_2 u_8 at_18 todo_23 stac_27 has_31 err_35 (decide (p_2.Op=14))
        else
         none
def vf_code_j1 (k_vf_code_l2:(List (Int×TVs))→Int→(List Bool)→(List Int)→(List Int)→Option TWhere) (l407:List (Int×TVs)) (i409:Int) (l412:List Bool) (l416:List Int) (l420:List Int):Option TWhere :=
 if i409≠0 then
  none
 else
  k_vf_code_l2 l407 i409 l412 l416 l420
def vf_code_l2 (fu:Nat) (p_1:TVc) (x21:TUnit):Nat→(List (Int×TVs))→Int→(List Bool)→(List Int)→(List Int)→Option TWhere
 | 0,_,_,_,_,_=>none
 | n+1,l220,i222,l225,l229,l233 =>
  if (0:Int)<(l229.length:Int) then
   (at_ l229 0).bind fun x340 =>
   (cut l229 1 l229.length).bind fun l354 =>
   (vf_copied ((mget l220 x340).getD (TVs.mk ([]:List Int) ([]:List Bool)))).bind fun r373 =>
   (at_ x21.Code x340).bind fun x382 =>
   (vf_step fu p_1 x21 l220 l354 r373.stack r373.has i222 x382).bind fun r390 =>
   if r390.1=true then
    (i64 (x340+1)).bind fun i423 =>
    (vf_to p_1 x21 r390.2.1 r390.2.2.1 r390.2.2.2.1 r390.2.2.2.2.1 r390.2.2.2.2.2 i423).bind fun r425 =>
    vf_code_j1 (vf_code_l2 fu p_1 x21 n) r425.1 r425.2.2.2.2 r425.2.2.2.1 r425.2.1 r425.2.2.1
   else
    vf_code_j1 (vf_code_l2 fu p_1 x21 n) r390.2.1 r390.2.2.2.2.2 r390.2.2.2.2.1 r390.2.2.1 r390.2.2.2.1
  else
   some (TWhere.mk 0 0 0)
def vf_code_l1 (fu:Nat) (p_1:TVc) (x21:TUnit):Nat→Int→(List Bool)→Option TWhere
 | 0,_,_=>none
 | n+1,i60,l63 =>
  if i60<x21.Params then
   (at_ l63 i60).bind fun x85 =>
   (i64 (i60+1)).bind fun i100 =>
   vf_code_l1 fu p_1 x21 n i100 (l63.set i60.toNat true)
  else
   (vf_to p_1 x21 ([]:List (Int×TVs)) ([]:List Int) ([]:List Int) l63 0 0).bind fun r104 =>
   vf_code_l2 fu p_1 x21 fu r104.1 r104.2.2.2.2 r104.2.2.2.1 r104.2.1 r104.2.2.1
def vf_code (fu:Nat)  (p_1:TVc) (p_2:Int):Option TWhere :=
 (p_1.m).bind fun x8 =>
 (at_ x8.Units p_2).bind fun x21 =>
 (mks (x21.Locals.length:Int)).bind fun k39 =>
 vf_code_l1 fu p_1 x21 ((x21.Params - 0).toNat+1) 0 (List.replicate k39 (false:Bool))
def vf_reach_j1 (i346:Int) (l349:List Int) (x381:TInstr) (k_vf_reach_l2:Int→(List Int)→Option (List Int)) (b391:Bool):Option (List Int) :=
 if b391=true then
  (app l349 [x381.A]).bind fun l401 =>
  (i64 (i346+1)).bind fun i404 =>
  k_vf_reach_l2 i404 l401
 else
  (i64 (i346+1)).bind fun i406 =>
  k_vf_reach_l2 i406 l349
def vf_reach_l2 (i141:Int) (x305:TUnit) (k_vf_reach_l1:Int→(List Int)→Option (List Int)):Nat→Int→(List Int)→Option (List Int)
 | 0,_,_=>none
 | n+1,i346,l349 =>
  if i346<(x305.Code.length:Int) then
   (at_ x305.Code i346).bind fun x381 =>
   if x381.Op=23 then
    vf_reach_j1 i346 l349 x381 (vf_reach_l2 i141 x305 k_vf_reach_l1 n) (!(l349.contains x381.A))
   else
    if x381.Op=29 then
     none
    else
     vf_reach_j1 i346 l349 x381 (vf_reach_l2 i141 x305 k_vf_reach_l1 n) false
  else
   (i64 (i141+1)).bind fun i408 =>
   k_vf_reach_l1 i408 l349
def vf_reach_l1 (p_1:TVc):Nat→Int→(List Int)→Option (List Int)
 | 0,_,_=>none
 | n+1,i141,l144 =>
  if i141<(l144.length:Int) then
   (at_ l144 i141).bind fun x278 =>
   (p_1.m).bind fun x292 =>
   (at_ x292.Units x278).bind fun x305 =>
   vf_reach_l2 i141 x305 (vf_reach_l1 p_1 n) (x305.Code.length+1) 0 l144
  else
   some l144
def vf_reach (fu:Nat)  (p_1:TVc) (p_2:Int):Option (List Int) :=
 vf_reach_l1 p_1 fu 0 ([p_2]:List Int)
def vf_owned11  (p_1:TInstr) (p_2:Int) (p_3:Int):Option Bool :=
 if p_1.Op=p_2 then
  some (decide (p_1.A=p_3))
 else
  some false
def vf_owned1  (p_1:Int) (p_2:Option TVc) (p_3:Int) (p_4:Int):Option Bool :=
 (p_2).bind fun x12 =>
 (x12.m).bind fun x21 =>
 (at_ x21.Units p_1).bind fun x34 =>
 (conf_n x34.Code (fun x_=>vf_owned11 x_ p_3 p_4)).bind fun r48 =>
 some r48
def vf_owned_j1 (i1001:Int) (i1002:Int) (k_vf_owned_l3:Int→Int→Option TWhere) (b1053:Bool):Option TWhere :=
 if b1053=true then
  (i64 (i1001+1)).bind fun i1066 =>
  (i64 (i1002+1)).bind fun i1068 =>
  k_vf_owned_l3 i1066 i1068
 else
  (i64 (i1002+1)).bind fun i1070 =>
  k_vf_owned_l3 i1001 i1070
def vf_owned_l3 (fu:Nat) (p_1:TVc) (x10:TModule) (i372:Int) (i842:Int) (x957:Int) (k_vf_owned_l2:Int→Option TWhere):Nat→Int→Int→Option TWhere
 | 0,_,_=>none
 | n+1,i1001,i1002 =>
  if i1002<(x10.Units.length:Int) then
   (at_ x10.Units i1002).bind fun x1037 =>
   if x1037.Kind=4 then
    (vf_reach fu p_1 i1002).bind fun r1055 =>
    (conf_i r1055 (fun x_=>vf_owned1 x_ (some p_1) x957 i372)).bind fun r1061 =>
    vf_owned_j1 i1001 i1002 (vf_owned_l3 fu p_1 x10 i372 i842 x957 k_vf_owned_l2 n) r1061
   else
    vf_owned_j1 i1001 i1002 (vf_owned_l3 fu p_1 x10 i372 i842 x957 k_vf_owned_l2 n) false
  else
   if (1:Int)<i1001 then
    none
   else
    (i64 (i842+1)).bind fun i1073 =>
    k_vf_owned_l2 i1073
def vf_owned_l2 (fu:Nat) (p_1:TVc) (x10:TModule) (i372:Int) (k_vf_owned_l1:Int→Option TWhere):Nat→Int→Option TWhere
 | 0,_=>none
 | n+1,i842 =>
  if i842<2 then
   (at_ [26,27] i842).bind fun x957 =>
   vf_owned_l3 fu p_1 x10 i372 i842 x957 (vf_owned_l2 fu p_1 x10 i372 k_vf_owned_l1 n) (x10.Units.length+1) 0 0
  else
   (i64 (i372+1)).bind fun i1075 =>
   k_vf_owned_l1 i1075
def vf_owned_l1 (fu:Nat) (p_1:TVc) (x10:TModule):Nat→Int→Option TWhere
 | 0,_=>none
 | n+1,i372 =>
  if i372<(x10.Boxes.length:Int) then
   vf_owned_l2 fu p_1 x10 i372 (vf_owned_l1 fu p_1 x10 n) 3 0
  else
   some (TWhere.mk 0 0 0)
def vf_owned (fu:Nat)  (p_1:TVc):Option TWhere :=
 (p_1.m).bind fun x10 =>
 vf_owned_l1 fu p_1 x10 (x10.Boxes.length+1) 0
def vf_verify_l1 (fu:Nat) (p_1:TModule):Nat→Int→Option TWhere
 | 0,_=>none
 | n+1,i30 =>
  if i30<(p_1.Units.length:Int) then
   (vf_code fu (TVc.mk (some p_1)) i30).bind fun r40 =>
   if r40.Err≠0 then
    none
   else
    (i64 (i30+1)).bind fun i46 =>
    vf_verify_l1 fu p_1 n i46
  else
   (vf_owned fu (TVc.mk (some p_1))).bind fun r48 =>
   some r48
def vf_verify (fu:Nat)  (p_1:TModule):Option TWhere :=
 (vf_form (TVc.mk (some p_1))).bind fun r17 =>
 if r17.Err≠0 then
  none
 else
  vf_verify_l1 fu p_1 (p_1.Units.length+1) 0
end Go.Y
namespace Go.Y
open Go.Wk Go.Xt
def st_new  (p_1:Int) (p_2:Int):Option (List Int×Int×Int×Int) :=
 (mks p_1).bind fun k5 =>
 some ((List.replicate k5 (0:Int)),0,p_1,p_2)
def st_live  (live_3:Int):Option Int :=
 some live_3
def st_sized  (l_2:List Int) (live_6:Int) (min_7:Int) (most_8:Int) (p_2:Int):Option (List Int×Int×Int×Int) :=
 (mks p_2).bind fun k12 =>
 (cut l_2 0 live_6).bind fun l21 =>
 some ((cpy (List.replicate k12 (0:Int)) l21),live_6,min_7,most_8)
def st_push_j2 (p_2:Int) (i14:Int) (i15:Int) (i16:Int) (l19:List Int):Option (Bool×List Int×Int×Int×Int) :=
 (at_ l19 i14).bind fun x41 =>
 (i64 (i14+1)).bind fun i56 =>
 some (true,(l19.set i14.toNat p_2),i56,i15,i16)
def st_push_j3 (p_2:Int) (i22:Int) (i23:Int) (i24:Int) (l27:List Int):Option (Bool×List Int×Int×Int×Int) :=
 st_push_j2 p_2 i22 i23 i24 l27
def st_push_j1 (l_2:List Int) (p_2:Int) (live_6:Int) (min_7:Int) (most_8:Int) :Option (Bool×List Int×Int×Int×Int) :=
 if live_6=(l_2.length:Int) then
  (i64 (2*(l_2.length:Int))).bind fun i29 =>
  (st_sized l_2 live_6 min_7 most_8 (min i29 most_8)).bind fun r31 =>
  st_push_j3 p_2 r31.2.1 r31.2.2.1 r31.2.2.2 r31.1
 else
  st_push_j2 p_2 live_6 min_7 most_8 l_2
def st_push  (l_2:List Int) (live_6:Int) (min_7:Int) (most_8:Int) (p_2:Int):Option (Bool×List Int×Int×Int×Int) :=
 if live_6=most_8 then
  none
 else
  st_push_j1 l_2 p_2 live_6 min_7 most_8
def st_pop_j2  (i20:Int) (i21:Int) (i22:Int) (l25:List Int):Option (List Int×Int×Int×Int) :=
 some (l25,i20,i21,i22)
def st_pop_j1 (l_2:List Int) (min_7:Int) (most_8:Int) (i12:Int) (b14:Bool):Option (List Int×Int×Int×Int) :=
 if b14=true then
  (quo (l_2.length:Int) 2).bind fun i27 =>
  (st_sized l_2 i12 min_7 most_8 (max i27 min_7)).bind fun r29 =>
  st_pop_j2 r29.2.1 r29.2.2.1 r29.2.2.2 r29.1
 else
  some (l_2,i12,min_7,most_8)
def st_pop  (l_2:List Int) (live_6:Int) (min_7:Int) (most_8:Int) (p_2:Int):Option (List Int×Int×Int×Int) :=
 (i64 (live_6 - p_2)).bind fun i12 =>
 (quo (l_2.length:Int) 4).bind fun i15 =>
 if i12≤i15 then
  st_pop_j1 l_2 min_7 most_8 i12 (decide (min_7<(l_2.length:Int)))
 else
  st_pop_j1 l_2 min_7 most_8 i12 false
def vm_tell  (p_2:Int) (p_3:Int) (p_4:Int):Option Unit :=
 some ()
def vm_truth  (p_1:Bool):Option Int :=
 if p_1=true then
  some 1
 else
  some 0
def vm_two_j2 (p_1:Int) (p_2:Int) (p_3:Int) (b8:Bool):Option Int :=
 if b8=true then
  (vm_truth (decide (p_1=11))).bind fun r12 =>
  some (w64 (r12*p_2))
 else
  if p_1=11 then
   (quo p_2 p_3).bind fun i16 =>
   some i16
  else
   (remt p_2 p_3).bind fun i18 =>
   some i18
def vm_two_j1 (p_1:Int) (p_2:Int) (p_3:Int) (b4:Bool):Option Int :=
 if b4=true then
  if p_2=(-9223372036854775808) then
   vm_two_j2 p_1 p_2 p_3 (decide (p_3=(-1)))
  else
   vm_two_j2 p_1 p_2 p_3 false
 else
  if p_1=13 then
   (vm_truth (decide (p_2=p_3))).bind fun r21 =>
   some r21
  else
   if p_1=14 then
    (vm_truth (decide (p_2≠p_3))).bind fun r25 =>
    some r25
   else
    if p_1=15 then
     (vm_truth (decide (p_2<p_3))).bind fun r29 =>
     some r29
    else
     if p_1=16 then
      (vm_truth (decide (p_2≤p_3))).bind fun r33 =>
      some r33
     else
      if p_1=17 then
       (vm_truth (decide (p_3<p_2))).bind fun r37 =>
       some r37
      else
       none
def vm_two  (p_1:Int) (p_2:Int) (p_3:Int):Option Int :=
 if p_1=8 then
  some (w64 (p_2+p_3))
 else
  if p_1=9 then
   some (w64 (p_2 - p_3))
  else
   if p_1=10 then
    some (w64 (p_2*p_3))
   else
    if p_1=11 then
     vm_two_j1 p_1 p_2 p_3 (decide (p_1=11))
    else
     vm_two_j1 p_1 p_2 p_3 (decide (p_1=12))
def vm_tasks_l1 (p_1:TModule):Nat→Int→(List Int)→Option (List Int)
 | 0,_,_=>none
 | n+1,i43,l46 =>
  if i43<(p_1.Units.length:Int) then
   (at_ p_1.Units i43).bind fun x80 =>
   if x80.Kind=4 then
    (app l46 [i43]).bind fun l101 =>
    (i64 (i43+1)).bind fun i104 =>
    vm_tasks_l1 p_1 n i104 l101
   else
    (i64 (i43+1)).bind fun i106 =>
    vm_tasks_l1 p_1 n i106 l46
  else
   some l46
def vm_tasks  (p_1:TModule):Option (List Int) :=
 vm_tasks_l1 p_1 (p_1.Units.length+1) 0 []
end Go.Y
namespace Go.Y
open Go.Wk Go.Xt
structure TVf where
 unit:Int
 pc:Int
 base:Int
 deriving DecidableEq,Inhabited,Repr
instance:Mo TVf where
 sz:=3
 pos:=by decide
 cs μ l x:=l=[.int .i64 x.unit,.int .i64 x.pc,.int .i64 x.base]
 ln h:=by obtain rfl:=h; rfl
 up le h:=by exact h
 cv h:=by obtain rfl:=h; rfl
def ls_empty  (feed_2:List (List Int)) (took_6:List Int) (sent_10:List (List Int)) (p_2:Int):Option (Bool×List (List Int)×List Int×List (List Int)) :=
 (at_ feed_2 p_2).bind fun x23 =>
 (at_ took_6 p_2).bind fun x34 =>
 some (decide (x34=(x23.length:Int)),feed_2,took_6,sent_10)
def ls_take  (feed_2:List (List Int)) (took_6:List Int) (sent_10:List (List Int)) (p_2:Int):Option (Int×List (List Int)×List Int×List (List Int)) :=
 (at_ took_6 p_2).bind fun x23 =>
 (i64 (x23+1)).bind fun i37 =>
 (at_ took_6 p_2).bind fun x39 =>
 (at_ (took_6.set p_2.toNat i37) p_2).bind fun x54 =>
 (i64 (x54 - 1)).bind fun i68 =>
 (at_ feed_2 p_2).bind fun x70 =>
 (at_ x70 i68).bind fun x81 =>
 some (x81,feed_2,(took_6.set p_2.toNat i37),sent_10)
def vm_push  (stat_5:Int) (box_6:Int) (trap_7:Int) (l_14:List Int) (live_18:Int) (min_19:Int) (most_20:Int) (p_2:Int):Option (Int×Int×Int×List Int×Int×Int×Int) :=
 (st_push l_14 live_18 min_19 most_20 p_2).bind fun r24 =>
 if r24.1=true then
  some (stat_5,box_6,trap_7,r24.2.1,r24.2.2.1,r24.2.2.2.1,r24.2.2.2.2)
 else
  none
def vm_pop  (stat_5:Int) (box_6:Int) (trap_7:Int) (l_14:List Int) (live_18:Int) (min_19:Int) (most_20:Int):Option (Int×Int×Int×Int×List Int×Int×Int×Int) :=
 (st_live live_18).bind fun r24 =>
 (i64 (r24 - 1)).bind fun i27 =>
 (at_ l_14 i27).bind fun x29 =>
 (st_pop l_14 live_18 min_19 most_20 1).bind fun r44 =>
 some (x29,stat_5,box_6,trap_7,r44.1,r44.2.1,r44.2.2.1,r44.2.2.2)
def vm_waits_j1 (trap_7:Int) (i33:Int) (i34:Int) (l37:List (List Int)) (l41:List (List Int)) (l45:List Int):Option (Bool×Int×Int×Int×List (List Int)×List Int×List (List Int)) :=
 some (decide (i33≠1),i33,i34,trap_7,l37,l45,l41)
def vm_waits_j3 (p_2:TInstr) (trap_7:Int) (l51:List (List Int)) (l55:List (List Int)) (l59:List Int) :Option (Bool×Int×Int×Int×List (List Int)×List Int×List (List Int)) :=
 vm_waits_j1 trap_7 3 p_2.A l51 l55 l59
def vm_waits_j2 (p_2:TInstr) (trap_7:Int) (b48:Bool) (l51:List (List Int)) (l55:List (List Int)) (l59:List Int):Option (Bool×Int×Int×Int×List (List Int)×List Int×List (List Int)) :=
 if b48=true then
  vm_waits_j3 p_2 trap_7 l51 l55 l59
 else
  vm_waits_j1 trap_7 1 0 l51 l55 l59
def vm_waits  (stat_5:Int) (box_6:Int) (trap_7:Int) (feed_10:List (List Int)) (took_14:List Int) (sent_18:List (List Int)) (p_2:TInstr):Option (Bool×Int×Int×Int×List (List Int)×List Int×List (List Int)) :=
 if p_2.Op=26 then
  none
 else
  if p_2.Op=27 then
   (ls_empty feed_10 took_14 sent_18 p_2.A).bind fun r62 =>
   vm_waits_j2 p_2 trap_7 r62.1 r62.2.1 r62.2.2.2 r62.2.2.1
  else
   vm_waits_j2 p_2 trap_7 false feed_10 sent_18 took_14
def vm_look_j1 (m_2:TModule) (stat_13:Int) (box_14:Int) (trap_15:Int) (feed_18:List (List Int)) (took_22:List Int) (sent_26:List (List Int)) (fram_33:List TVf) (i53:Int):Option (Int×Int×Int×List (List Int)×List Int×List (List Int)×List TVf) :=
 (at_ fram_33 i53).bind fun x73 =>
 (at_ m_2.Units x73.unit).bind fun x87 =>
 (at_ x87.Code x73.pc).bind fun x101 =>
 (vm_waits stat_13 box_14 trap_15 feed_18 took_22 sent_26 x101).bind fun r109 =>
 some (r109.2.1,r109.2.2.1,r109.2.2.2.1,r109.2.2.2.2.1,r109.2.2.2.2.2.1,r109.2.2.2.2.2.2,fram_33)
def vm_look  (m_2:TModule) (stat_13:Int) (box_14:Int) (trap_15:Int) (feed_18:List (List Int)) (took_22:List Int) (sent_26:List (List Int)) (fram_33:List TVf):Option (Int×Int×Int×List (List Int)×List Int×List (List Int)×List TVf) :=
 if stat_13≤3 then
  (i64 ((fram_33.length:Int) - 1)).bind fun i55 =>
  (at_ fram_33 i55).bind fun x57 =>
  vm_look_j1 m_2 stat_13 box_14 trap_15 feed_18 took_22 sent_26 fram_33 i55
 else
  some (stat_13,box_14,trap_15,feed_18,took_22,sent_26,fram_33)
def vm_call_l1 (l65:List TVf) (i68:Int):Nat→Int→Int→Int→Int→Int→Int→Int→(List Int)→Option (Int×Int×Int×List TVf×List Int×Int×Int×Int)
 | 0,_,_,_,_,_,_,_,_=>none
 | n+1,i78,i79,i80,i81,i82,i83,i84,l87 =>
  if i78<i68 then
   (vm_push i79 i80 i81 l87 i82 i83 i84 0).bind fun r100 =>
   (i64 (i78+1)).bind fun i106 =>
   vm_call_l1 l65 i68 n i106 r100.1 r100.2.1 r100.2.2.1 r100.2.2.2.2.1 r100.2.2.2.2.2.1 r100.2.2.2.2.2.2 r100.2.2.2.1
  else
   some (i79,i80,i81,l65,l87,i82,i83,i84)
def vm_call_j1 (p_2:Int) (stat_14:Int) (box_15:Int) (trap_16:Int) (fram_21:List TVf) (l_26:List Int) (live_30:Int) (min_31:Int) (most_32:Int) (x39:TUnit) (i53:Int):Option (Int×Int×Int×List TVf×List Int×Int×Int×Int) :=
 if (fram_21.length:Int)=40 then
  none
 else
  (app fram_21 [(TVf.mk p_2 0 i53)]).bind fun l65 =>
  (i64 ((x39.Locals.length:Int) - x39.Params)).bind fun i68 =>
  vm_call_l1 l65 i68 ((i68 - 0).toNat+1) 0 stat_14 box_15 trap_16 live_30 min_31 most_32 l_26
def vm_call  (m_2:TModule) (stat_14:Int) (box_15:Int) (trap_16:Int) (fram_21:List TVf) (l_26:List Int) (live_30:Int) (min_31:Int) (most_32:Int) (p_2:Int):Option (Int×Int×Int×List TVf×List Int×Int×Int×Int) :=
 (at_ m_2.Units p_2).bind fun x39 =>
 (st_live live_30).bind fun r54 =>
 (i64 (r54 - x39.Params)).bind fun i57 =>
 vm_call_j1 p_2 stat_14 box_15 trap_16 fram_21 l_26 live_30 min_31 most_32 x39 i57
def vm_end  (stat_5:Int) (box_6:Int) (trap_7:Int) (stat_10:Int) (l_13:List Int) (live_17:Int) (min_18:Int) (most_19:Int):Option (Int×Int×Int×Int×List Int×Int×Int×Int) :=
 (vm_tell 4 0 0).bind fun r23 =>
 some (4,box_6,trap_7,3,l_13,live_17,min_18,most_19)
def vm_units_j3 (stat_19:Int) (r51:Int×Int×Int×Int×List Int×Int×Int×Int) (l96:List TVf) (i110:Int) (i111:Int) (i112:Int) (l115:List Int):Option (Int×Int×Int×Int×List TVf×List Int×Int×Int×Int) :=
 (vm_push r51.2.1 r51.2.2.1 r51.2.2.2.1 l115 i110 i111 i112 r51.1).bind fun r130 =>
 some (r130.1,r130.2.1,r130.2.2.1,stat_19,l96,r130.2.2.2.1,r130.2.2.2.2.1,r130.2.2.2.2.2.1,r130.2.2.2.2.2.2)
def vm_units_j2 (stat_19:Int) (r51:Int×Int×Int×Int×List Int×Int×Int×Int) (i60:Int) (l96:List TVf):Option (Int×Int×Int×Int×List TVf×List Int×Int×Int×Int) :=
 (st_live r51.2.2.2.2.2.1).bind fun r117 =>
 (i64 (r117 - i60)).bind fun i120 =>
 (st_pop r51.2.2.2.2.1 r51.2.2.2.2.2.1 r51.2.2.2.2.2.2.1 r51.2.2.2.2.2.2.2 i120).bind fun r122 =>
 vm_units_j3 stat_19 r51 l96 r122.2.1 r122.2.2.1 r122.2.2.2 r122.1
def vm_units_j1 (stat_19:Int) (fram_20:List TVf) (r51:Int×Int×Int×Int×List Int×Int×Int×Int) (i58:Int) (i59:Int) (i60:Int):Option (Int×Int×Int×Int×List TVf×List Int×Int×Int×Int) :=
 (i64 ((fram_20.length:Int) - 1)).bind fun i98 =>
 (cut fram_20 0 i98).bind fun l100 =>
 vm_units_j2 stat_19 r51 i60 l100
def vm_units  (m_2:TModule) (stat_14:Int) (box_15:Int) (trap_16:Int) (stat_19:Int) (fram_20:List TVf) (l_25:List Int) (live_29:Int) (min_30:Int) (most_31:Int) (p_2:TInstr):Option (Int×Int×Int×Int×List TVf×List Int×Int×Int×Int) :=
 if p_2.Op=23 then
  (vm_call m_2 stat_14 box_15 trap_16 fram_20 l_25 live_29 min_30 most_31 p_2.A).bind fun r41 =>
  some (r41.1,r41.2.1,r41.2.2.1,stat_19,r41.2.2.2.1,r41.2.2.2.2.1,r41.2.2.2.2.2.1,r41.2.2.2.2.2.2.1,r41.2.2.2.2.2.2.2)
 else
  if p_2.Op=24 then
   (vm_pop stat_14 box_15 trap_16 l_25 live_29 min_30 most_31).bind fun r51 =>
   (i64 ((fram_20.length:Int) - 1)).bind fun i61 =>
   (at_ fram_20 i61).bind fun x63 =>
   vm_units_j1 stat_19 fram_20 r51 x63.unit x63.pc x63.base
  else
   if p_2.Op=25 then
    (vm_end stat_14 box_15 trap_16 stat_19 l_25 live_29 min_30 most_31).bind fun r137 =>
    some (r137.1,r137.2.1,r137.2.2.1,r137.2.2.2.1,fram_20,r137.2.2.2.2.1,r137.2.2.2.2.2.1,r137.2.2.2.2.2.2.1,r137.2.2.2.2.2.2.2)
   else
    none
end Go.Y
namespace Go.Y
open Go.Wk Go.Xt
def vm_step_j2 (m_2:TModule) (i144:Int) (i145:Int) (i146:Int) (l149:List Int) (l153:List (List Int)) (l157:List (List Int)) (l161:List Int) (i163:Int) (l166:List TVf) (i168:Int) (i169:Int) (i170:Int) (l173:List Int):Option (Bool×Int×Int×Int×List Int×List (List Int)×List Int×List (List Int)×Int×List TVf×List Int×Int×Int×Int) :=
 (vm_look m_2 i144 i145 i146 l153 l161 l157 l166).bind fun r354 =>
 some (true,r354.1,r354.2.1,r354.2.2.1,l149,r354.2.2.2.1,r354.2.2.2.2.1,r354.2.2.2.2.2.1,i163,r354.2.2.2.2.2.2,l173,i168,i169,i170)
def vm_step_j3 (m_2:TModule) (out_16:List Int) (stat_34:Int) (r65:Int×Int×Int×List (List Int)×List Int×List (List Int)×List TVf) (i83:Int) (x103:TVf) (i141:Int) (i190:Int) (i191:Int) (i192:Int) (i193:Int) (i194:Int) (i195:Int) (l198:List Int):Option (Bool×Int×Int×Int×List Int×List (List Int)×List Int×List (List Int)×Int×List TVf×List Int×Int×Int×Int) :=
 vm_step_j2 m_2 i190 i191 i192 out_16 r65.2.2.2.1 r65.2.2.2.2.2.1 r65.2.2.2.2.1 stat_34 (r65.2.2.2.2.2.2.set i83.toNat (TVf.mk x103.unit i141 x103.base)) i193 i194 i195 l198
def vm_step_j4 (m_2:TModule) (out_16:List Int) (stat_34:Int) (r65:Int×Int×Int×List (List Int)×List Int×List (List Int)×List TVf) (i83:Int) (x103:TVf) (i141:Int) (r226:Int×Int×Int×Int×List Int×Int×Int×Int) (l234:List Int):Option (Bool×Int×Int×Int×List Int×List (List Int)×List Int×List (List Int)×Int×List TVf×List Int×Int×Int×Int) :=
 vm_step_j2 m_2 r226.2.1 r226.2.2.1 r226.2.2.2.1 out_16 r65.2.2.2.1 r65.2.2.2.2.2.1 r65.2.2.2.2.1 stat_34 (r65.2.2.2.2.2.2.set i83.toNat (TVf.mk x103.unit i141 x103.base)) r226.2.2.2.2.2.1 r226.2.2.2.2.2.2.1 r226.2.2.2.2.2.2.2 l234
def vm_step_j5 (m_2:TModule) (out_16:List Int) (stat_34:Int) (r65:Int×Int×Int×List (List Int)×List Int×List (List Int)×List TVf) (i83:Int) (x103:TVf) (x131:TInstr) (i141:Int) (r261:Int×Int×Int×Int×List Int×Int×Int×Int) (r267:Int×Int×Int×Int×List Int×Int×Int×Int) (b273:Bool):Option (Bool×Int×Int×Int×List Int×List (List Int)×List Int×List (List Int)×Int×List TVf×List Int×Int×Int×Int) :=
 if b273=true then
  none
 else
  (vm_two x131.Op r267.1 r261.1).bind fun r278 =>
  (vm_push r267.2.1 r267.2.2.1 r267.2.2.2.1 r267.2.2.2.2.1 r267.2.2.2.2.2.1 r267.2.2.2.2.2.2.1 r267.2.2.2.2.2.2.2 r278).bind fun r281 =>
  vm_step_j2 m_2 r281.1 r281.2.1 r281.2.2.1 out_16 r65.2.2.2.1 r65.2.2.2.2.2.1 r65.2.2.2.2.1 stat_34 (r65.2.2.2.2.2.2.set i83.toNat (TVf.mk x103.unit i141 x103.base)) r281.2.2.2.2.1 r281.2.2.2.2.2.1 r281.2.2.2.2.2.2 r281.2.2.2.1
def vm_step_j1 (m_2:TModule) (out_16:List Int) (stat_34:Int) (l_40:List Int) (live_44:Int) (min_45:Int) (most_46:Int) (r65:Int×Int×Int×List (List Int)×List Int×List (List Int)×List TVf) (i83:Int):Option (Bool×Int×Int×Int×List Int×List (List Int)×List Int×List (List Int)×Int×List TVf×List Int×Int×Int×Int) :=
 (at_ r65.2.2.2.2.2.2 i83).bind fun x103 =>
 (at_ m_2.Units x103.unit).bind fun x117 =>
 (at_ x117.Code x103.pc).bind fun x131 =>
 (i64 (x103.pc+1)).bind fun i141 =>
 if x131.Op=1 then
  (vm_push r65.1 r65.2.1 r65.2.2.1 l_40 live_44 min_45 most_46 x131.N).bind fun r176 =>
  vm_step_j2 m_2 r176.1 r176.2.1 r176.2.2.1 out_16 r65.2.2.2.1 r65.2.2.2.2.2.1 r65.2.2.2.2.1 stat_34 (r65.2.2.2.2.2.2.set i83.toNat (TVf.mk x103.unit i141 x103.base)) r176.2.2.2.2.1 r176.2.2.2.2.2.1 r176.2.2.2.2.2.2 r176.2.2.2.1
 else
  if x131.Op=2 then
   (vm_push r65.1 r65.2.1 r65.2.2.1 l_40 live_44 min_45 most_46 x131.A).bind fun r183 =>
   vm_step_j2 m_2 r183.1 r183.2.1 r183.2.2.1 out_16 r65.2.2.2.1 r65.2.2.2.2.2.1 r65.2.2.2.2.1 stat_34 (r65.2.2.2.2.2.2.set i83.toNat (TVf.mk x103.unit i141 x103.base)) r183.2.2.2.2.1 r183.2.2.2.2.2.1 r183.2.2.2.2.2.2 r183.2.2.2.1
  else
   if x131.Op=3 then
    (i64 (x103.base+x131.A)).bind fun i200 =>
    (at_ l_40 i200).bind fun x202 =>
    (vm_push r65.1 r65.2.1 r65.2.2.1 l_40 live_44 min_45 most_46 x202).bind fun r217 =>
    vm_step_j3 m_2 out_16 stat_34 r65 i83 x103 i141 r217.1 r217.2.1 r217.2.2.1 r217.2.2.2.2.1 r217.2.2.2.2.2.1 r217.2.2.2.2.2.2 r217.2.2.2.1
   else
    if x131.Op=4 then
     (vm_pop r65.1 r65.2.1 r65.2.2.1 l_40 live_44 min_45 most_46).bind fun r226 =>
     (i64 (x103.base+x131.A)).bind fun i236 =>
     (at_ r226.2.2.2.2.1 i236).bind fun x238 =>
     vm_step_j4 m_2 out_16 stat_34 r65 i83 x103 i141 r226 (r226.2.2.2.2.1.set i236.toNat r226.1)
    else
     if x131.Op=5 then
      none
     else
      if x131.Op=6 then
       none
      else
       if x131.Op=7 then
        none
       else
        if (8:Int)≤x131.Op then
         if x131.Op≤20 then
          (vm_pop r65.1 r65.2.1 r65.2.2.1 l_40 live_44 min_45 most_46).bind fun r261 =>
          (vm_pop r261.2.1 r261.2.2.1 r261.2.2.2.1 r261.2.2.2.2.1 r261.2.2.2.2.2.1 r261.2.2.2.2.2.2.1 r261.2.2.2.2.2.2.2).bind fun r267 =>
          if x131.Op=11 then
           vm_step_j5 m_2 out_16 stat_34 r65 i83 x103 x131 i141 r261 r267 (decide (r261.1=0))
          else
           if x131.Op=12 then
            vm_step_j5 m_2 out_16 stat_34 r65 i83 x103 x131 i141 r261 r267 (decide (r261.1=0))
           else
            vm_step_j5 m_2 out_16 stat_34 r65 i83 x103 x131 i141 r261 r267 false
         else
          if x131.Op=21 then
           vm_step_j2 m_2 r65.1 r65.2.1 r65.2.2.1 out_16 r65.2.2.2.1 r65.2.2.2.2.2.1 r65.2.2.2.2.1 stat_34 (r65.2.2.2.2.2.2.set i83.toNat (TVf.mk x103.unit x131.A x103.base)) live_44 min_45 most_46 l_40
          else
           if x131.Op=22 then
            (vm_pop r65.1 r65.2.1 r65.2.2.1 l_40 live_44 min_45 most_46).bind fun r290 =>
            if r290.1=0 then
             vm_step_j2 m_2 r290.2.1 r290.2.2.1 r290.2.2.2.1 out_16 r65.2.2.2.1 r65.2.2.2.2.2.1 r65.2.2.2.2.1 stat_34 (r65.2.2.2.2.2.2.set i83.toNat (TVf.mk x103.unit x131.A x103.base)) r290.2.2.2.2.2.1 r290.2.2.2.2.2.2.1 r290.2.2.2.2.2.2.2 r290.2.2.2.2.1
            else
             vm_step_j2 m_2 r290.2.1 r290.2.2.1 r290.2.2.2.1 out_16 r65.2.2.2.1 r65.2.2.2.2.2.1 r65.2.2.2.2.1 stat_34 (r65.2.2.2.2.2.2.set i83.toNat (TVf.mk x103.unit i141 x103.base)) r290.2.2.2.2.2.1 r290.2.2.2.2.2.2.1 r290.2.2.2.2.2.2.2 r290.2.2.2.2.1
           else
            if x131.Op=26 then
             none
            else
             if x131.Op=27 then
              (ls_take r65.2.2.2.1 r65.2.2.2.2.1 r65.2.2.2.2.2.1 x131.A).bind fun r300 =>
              (vm_tell 3 x131.A r300.1).bind fun r312 =>
              (vm_push r65.1 r65.2.1 r65.2.2.1 l_40 live_44 min_45 most_46 r300.1).bind fun r315 =>
              vm_step_j2 m_2 r315.1 r315.2.1 r315.2.2.1 out_16 r300.2.1 r300.2.2.2 r300.2.2.1 stat_34 (r65.2.2.2.2.2.2.set i83.toNat (TVf.mk x103.unit i141 x103.base)) r315.2.2.2.2.1 r315.2.2.2.2.2.1 r315.2.2.2.2.2.2 r315.2.2.2.1
             else
              if x131.Op=28 then
               (vm_pop r65.1 r65.2.1 r65.2.2.1 l_40 live_44 min_45 most_46).bind fun r322 =>
               (app out_16 [r322.1]).bind fun l332 =>
               (vm_tell 1 0 r322.1).bind fun r335 =>
               vm_step_j2 m_2 r322.2.1 r322.2.2.1 r322.2.2.2.1 l332 r65.2.2.2.1 r65.2.2.2.2.2.1 r65.2.2.2.2.1 stat_34 (r65.2.2.2.2.2.2.set i83.toNat (TVf.mk x103.unit i141 x103.base)) r322.2.2.2.2.2.1 r322.2.2.2.2.2.2.1 r322.2.2.2.2.2.2.2 r322.2.2.2.2.1
              else
               (vm_units m_2 r65.1 r65.2.1 r65.2.2.1 stat_34 (r65.2.2.2.2.2.2.set i83.toNat (TVf.mk x103.unit i141 x103.base)) l_40 live_44 min_45 most_46 x131).bind fun r338 =>
               vm_step_j2 m_2 r338.1 r338.2.1 r338.2.2.1 out_16 r65.2.2.2.1 r65.2.2.2.2.2.1 r65.2.2.2.2.1 r338.2.2.2.1 r338.2.2.2.2.1 r338.2.2.2.2.2.2.1 r338.2.2.2.2.2.2.2.1 r338.2.2.2.2.2.2.2.2 r338.2.2.2.2.2.1
        else
         none
def vm_step  (m_2:TModule) (stat_13:Int) (box_14:Int) (trap_15:Int) (out_16:List Int) (feed_21:List (List Int)) (took_25:List Int) (sent_29:List (List Int)) (stat_34:Int) (fram_35:List TVf) (l_40:List Int) (live_44:Int) (min_45:Int) (most_46:Int):Option (Bool×Int×Int×Int×List Int×List (List Int)×List Int×List (List Int)×Int×List TVf×List Int×Int×Int×Int) :=
 (vm_look m_2 stat_13 box_14 trap_15 feed_21 took_25 sent_29 fram_35).bind fun r65 =>
 if r65.1≠1 then
  some (false,r65.1,r65.2.1,r65.2.2.1,out_16,r65.2.2.2.1,r65.2.2.2.2.1,r65.2.2.2.2.2.1,stat_34,r65.2.2.2.2.2.2,l_40,live_44,min_45,most_46)
 else
  (i64 ((r65.2.2.2.2.2.2.length:Int) - 1)).bind fun i85 =>
  (at_ r65.2.2.2.2.2.2 i85).bind fun x87 =>
  vm_step_j1 m_2 out_16 stat_34 l_40 live_44 min_45 most_46 r65 i85
end Go.Y
namespace Go.Y
open Go.Wk Go.Xt
def vm_begin_l1 (p_2:Int) (p_3:List Int) (x42:TUnit):Nat→Int→Int→Int→Int→(List Int)→Option (Int×List TVf×List Int×Int×Int×Int)
 | 0,_,_,_,_,_=>none
 | n+1,i65,i66,i67,i68,l71 =>
  if i65<(x42.Locals.length:Int) then
   if i65<(p_3.length:Int) then
    none
   else
    (st_push l71 i66 i67 i68 0).bind fun r85 =>
    (i64 (i65+1)).bind fun i91 =>
    vm_begin_l1 p_2 p_3 x42 n i91 r85.2.2.1 r85.2.2.2.1 r85.2.2.2.2 r85.2.1
  else
   some (0,([(TVf.mk p_2 0 0)]:List TVf),l71,i66,i67,i68)
def vm_begin  (m_2:TModule) (p_2:Int) (p_3:List Int):Option (Int×List TVf×List Int×Int×Int×Int) :=
 (st_new 8 400).bind fun r31 =>
 (at_ m_2.Units p_2).bind fun x42 =>
 vm_begin_l1 p_2 p_3 x42 (x42.Locals.length+1) 0 r31.2.1 r31.2.2.1 r31.2.2.2 r31.1
def vm_new  (p_1:TModule) (p_2:Int):Option (Int×Int×Int×List Int×Int×List TVf×List Int×Int×Int×Int) :=
 (vm_begin p_1 p_2 ([]:List Int)).bind fun r26 =>
 some (1,0,0,([]:List Int),2,r26.2.1,r26.2.2.1,r26.2.2.2.1,r26.2.2.2.2.1,r26.2.2.2.2.2)
def vm_solo_l3 (p_1:TModule) (p_4:Int):Nat→Int→Int→Int→Int→(List Int)→Int→(List TVf)→Int→Int→Int→(List Int)→(List Int)→(List (List Int))→(List (List Int))→Option (TReport×Int)
 | 0,_,_,_,_,_,_,_,_,_,_,_,_,_,_=>none
 | n+1,i376,i377,i378,i379,l382,i384,l387,i389,i390,i391,l394,l398,l402,l406 =>
  if i376<p_4 then
   (vm_step p_1 i377 i378 i379 l382 l402 l398 l406 i384 l387 l394 i389 i390 i391).bind fun r440 =>
   if r440.1=true then
    (i64 (i376+1)).bind fun i462 =>
    vm_solo_l3 p_1 p_4 n i462 r440.2.1 r440.2.2.1 r440.2.2.2.1 r440.2.2.2.2.1 r440.2.2.2.2.2.2.2.2.1 r440.2.2.2.2.2.2.2.2.2.1 r440.2.2.2.2.2.2.2.2.2.2.2.1 r440.2.2.2.2.2.2.2.2.2.2.2.2.1 r440.2.2.2.2.2.2.2.2.2.2.2.2.2 r440.2.2.2.2.2.2.2.2.2.2.1 r440.2.2.2.2.2.2.1 r440.2.2.2.2.2.1 r440.2.2.2.2.2.2.2.1
   else
    some ((TReport.mk r440.2.1 r440.2.2.1 r440.2.2.2.1 r440.2.2.2.2.1 r440.2.2.2.2.2.2.2.1 r440.2.2.2.2.2.2.1 i376),0)
  else
   none
def vm_solo_j2 (fu:Nat) (p_1:TModule) (p_2:Int) (p_3:List (List Int)) (p_4:Int) (r31:List Int) (l282:List Int) (l286:List (List Int)):Option (TReport×Int) :=
 (at_ r31 p_2).bind fun x308 =>
 (vm_new p_1 x308).bind fun r316 =>
 (vm_look p_1 r316.1 r316.2.1 r316.2.2.1 p_3 l282 l286 r316.2.2.2.2.2.1).bind fun r337 =>
 vm_solo_l3 p_1 p_4 fu 0 r337.1 r337.2.1 r337.2.2.1 r316.2.2.2.1 r316.2.2.2.2.1 r337.2.2.2.2.2.2 r316.2.2.2.2.2.2.2.1 r316.2.2.2.2.2.2.2.2.1 r316.2.2.2.2.2.2.2.2.2 r316.2.2.2.2.2.2.1 r337.2.2.2.2.1 r337.2.2.2.1 r337.2.2.2.2.2.1
def vm_solo_j1 (i231:Int) (k_vm_solo_l2:Int→Option (TReport×Int)) (b263:Bool):Option (TReport×Int) :=
 if b263=true then
  none
 else
  (i64 (i231+1)).bind fun i276 =>
  k_vm_solo_l2 i276
def vm_solo_l2 (p_1:TModule) (i119:Int) (x199:List Int) (k_vm_solo_l1:Int→Option (TReport×Int)):Nat→Int→Option (TReport×Int)
 | 0,_=>none
 | n+1,i231 =>
  if i231<(x199.length:Int) then
   (at_ x199 i231).bind fun x255 =>
   (at_ p_1.Boxes i119).bind fun x264 =>
   if x264.Typ=2 then
    if x255≠0 then
     vm_solo_j1 i231 (vm_solo_l2 p_1 i119 x199 k_vm_solo_l1 n) (decide (x255≠1))
    else
     vm_solo_j1 i231 (vm_solo_l2 p_1 i119 x199 k_vm_solo_l1 n) false
   else
    vm_solo_j1 i231 (vm_solo_l2 p_1 i119 x199 k_vm_solo_l1 n) false
  else
   (i64 (i119+1)).bind fun i278 =>
   k_vm_solo_l1 i278
def vm_solo_l1 (fu:Nat) (p_1:TModule) (p_2:Int) (p_3:List (List Int)) (p_4:Int) (r31:List Int):Nat→Int→Option (TReport×Int)
 | 0,_=>none
 | n+1,i119 =>
  if i119<(p_3.length:Int) then
   (at_ p_3 i119).bind fun x199 =>
   vm_solo_l2 p_1 i119 x199 (vm_solo_l1 fu p_1 p_2 p_3 p_4 r31 n) (x199.length+1) 0
  else
   (mks (p_3.length:Int)).bind fun k289 =>
   (mks (p_3.length:Int)).bind fun k293 =>
   vm_solo_j2 fu p_1 p_2 p_3 p_4 r31 (List.replicate k289 (0:Int)) (List.replicate k293 (([]:List Int):List Int))
def vm_solo (fu:Nat)  (p_1:TModule) (p_2:Int) (p_3:List (List Int)) (p_4:Int):Option (TReport×Int) :=
 (vf_verify fu p_1).bind fun r23 =>
 if r23.Err≠0 then
  none
 else
  (vm_tasks p_1).bind fun r31 =>
  if p_2<0 then
   none
  else
   if (r31.length:Int)≤p_2 then
    none
   else
    if p_4<0 then
     none
    else
     if (5000:Int)<p_4 then
      none
     else
      if (p_3.length:Int)≠(p_1.Boxes.length:Int) then
       none
      else
       vm_solo_l1 fu p_1 p_2 p_3 p_4 r31 (p_3.length+1) 0
end Go.Y
namespace Go.Y
open Go.Wk Go.Xt
def tx_1:List UInt8:=[98,111,120,32,105,110,32,110,117,109,32,50,48,32,59,10,103,101,110,32,109,101,97,110,40,41,32,116,97,107,101,115,32,110,117,109,32,121,105,101,108,100,115,32,110,117,109,32,123,10,32,32,108,101,116,32,115,32,61,32,48,32,59,10,32,32,108,101,116,32,110,32,61,32,48,32,59,10,32,32,108,101,116,32,120,32,61,32,121,105,101,108,100,40,48,41,32,59,10,32,32,119,104,105,108,101,32,116,114,117,101,32,123,32,115,32,61,32,115,32,43,32,120,32,59,32,110,32,61,32,110,32,43,32,49,32,59,32,120,32,61,32,121,105,101,108,100,40,115,32,47,32,110,41,32,59,32,125,10,125,10,116,97,115,107,32,109,97,105,110,32,123,10,32,32,108,101,116,32,109,32,61,32,115,116,97,114,116,32,109,101,97,110,40,41,32,59,10,32,32,100,111,32,114,101,115,117,109,101,40,109,44,32,48,41,32,59,10,32,32,119,104,105,108,101,32,116,114,117,101,32,123,32,111,117,116,32,114,101,115,117,109,101,40,109,44,32,114,101,99,118,40,105,110,41,41,32,59,32,125,10,125,10]
def tx_2:List UInt8:=[98,111,120,32,105,110,32,110,117,109,32,50,48,32,59,10,116,97,115,107,32,109,97,105,110,32,123,10,32,32,119,104,105,108,101,32,116,114,117,101,32,123,10,32,32,32,32,108,101,116,32,120,32,61,32,114,101,99,118,40,105,110,41,32,59,10,32,32,32,32,108,101,116,32,110,32,61,32,48,32,59,10,32,32,32,32,119,104,105,108,101,32,120,32,62,32,48,32,123,32,110,32,61,32,110,32,43,32,120,32,37,32,50,32,59,32,120,32,61,32,120,32,47,32,50,32,59,32,125,10,32,32,32,32,111,117,116,32,110,32,59,10,32,32,125,10,125,10]
def tx_3:List UInt8:=[98,111,120,32,105,110,32,110,117,109,32,50,48,32,59,10,116,97,115,107,32,109,97,105,110,32,123,10,32,32,108,101,116,32,108,97,115,116,32,61,32,114,101,99,118,40,105,110,41,32,59,10,32,32,108,101,116,32,110,32,61,32,49,32,59,10,32,32,119,104,105,108,101,32,116,114,117,101,32,123,10,32,32,32,32,108,101,116,32,120,32,61,32,114,101,99,118,40,105,110,41,32,59,10,32,32,32,32,105,102,32,120,32,61,61,32,108,97,115,116,32,123,32,110,32,61,32,110,32,43,32,49,32,59,32,125,32,101,108,115,101,32,123,32,111,117,116,32,108,97,115,116,32,59,32,111,117,116,32,110,32,59,32,108,97,115,116,32,61,32,120,32,59,32,110,32,61,32,49,32,59,32,125,10,32,32,125,10,125,10]
def tx_4:List UInt8:=[98,111,120,32,105,110,32,110,117,109,32,50,48,32,59,10,116,97,115,107,32,109,97,105,110,32,123,10,32,32,119,104,105,108,101,32,116,114,117,101,32,123,10,32,32,32,32,108,101,116,32,110,32,61,32,114,101,99,118,40,105,110,41,32,59,10,32,32,32,32,108,101,116,32,107,32,61,32,48,32,59,10,32,32,32,32,119,104,105,108,101,32,110,32,62,32,49,32,123,10,32,32,32,32,32,32,105,102,32,110,32,37,32,50,32,61,61,32,48,32,123,32,110,32,61,32,110,32,47,32,50,32,59,32,125,32,101,108,115,101,32,123,32,110,32,61,32,51,32,42,32,110,32,43,32,49,32,59,32,125,10,32,32,32,32,32,32,107,32,61,32,107,32,43,32,49,32,59,10,32,32,32,32,125,10,32,32,32,32,111,117,116,32,107,32,59,10,32,32,125,10,125,10]
def tx_5:List UInt8:=[98,111,120,32,105,110,32,110,117,109,32,50,48,32,59,10,116,97,115,107,32,109,97,105,110,32,123,10,32,32,108,101,116,32,108,97,115,116,32,61,32,114,101,99,118,40,105,110,41,32,59,10,32,32,111,117,116,32,108,97,115,116,32,59,10,32,32,119,104,105,108,101,32,116,114,117,101,32,123,10,32,32,32,32,108,101,116,32,120,32,61,32,114,101,99,118,40,105,110,41,32,59,10,32,32,32,32,105,102,32,120,32,33,61,32,108,97,115,116,32,123,32,111,117,116,32,120,32,59,32,108,97,115,116,32,61,32,120,32,59,32,125,10,32,32,125,10,125,10]
def tx_6:List UInt8:=[98,111,120,32,105,110,32,110,117,109,32,50,48,32,59,10,116,97,115,107,32,109,97,105,110,32,123,10,32,32,119,104,105,108,101,32,116,114,117,101,32,123,10,32,32,32,32,108,101,116,32,120,32,61,32,114,101,99,118,40,105,110,41,32,59,10,32,32,32,32,108,101,116,32,115,32,61,32,48,32,59,10,32,32,32,32,119,104,105,108,101,32,120,32,62,32,48,32,123,32,115,32,61,32,115,32,43,32,120,32,37,32,49,48,32,59,32,120,32,61,32,120,32,47,32,49,48,32,59,32,125,10,32,32,32,32,111,117,116,32,115,32,59,10,32,32,125,10,125,10]
def tx_7:List UInt8:=[98,111,120,32,105,110,32,110,117,109,32,50,48,32,59,10,116,97,115,107,32,109,97,105,110,32,123,10,32,32,119,104,105,108,101,32,116,114,117,101,32,123,32,111,117,116,32,114,101,99,118,40,105,110,41,32,42,32,50,32,59,32,125,10,125,10]
def tx_8:List UInt8:=[98,111,120,32,105,110,32,110,117,109,32,50,48,32,59,10,116,97,115,107,32,109,97,105,110,32,123,10,32,32,119,104,105,108,101,32,116,114,117,101,32,123,10,32,32,32,32,108,101,116,32,120,32,61,32,114,101,99,118,40,105,110,41,32,59,10,32,32,32,32,105,102,32,120,32,37,32,50,32,61,61,32,48,32,123,32,111,117,116,32,120,32,59,32,125,10,32,32,125,10,125,10]
def tx_9:List UInt8:=[98,111,120,32,105,110,32,110,117,109,32,50,48,32,59,10,102,110,32,102,97,99,116,40,110,32,110,117,109,41,32,110,117,109,32,123,10,32,32,105,102,32,110,32,60,32,50,32,123,32,114,101,116,117,114,110,32,49,32,59,32,125,10,32,32,114,101,116,117,114,110,32,110,32,42,32,102,97,99,116,40,110,32,45,32,49,41,32,59,10,125,10,116,97,115,107,32,109,97,105,110,32,123,10,32,32,119,104,105,108,101,32,116,114,117,101,32,123,32,111,117,116,32,102,97,99,116,40,114,101,99,118,40,105,110,41,41,32,59,32,125,10,125,10]
def tx_10:List UInt8:=[98,111,120,32,105,110,32,110,117,109,32,50,48,32,59,10,35,32,101,97,99,104,32,110,117,109,98,101,114,32,97,115,107,115,32,102,111,114,32,97,115,32,109,97,110,121,10,103,101,110,32,102,105,98,115,40,41,32,116,97,107,101,115,32,98,111,111,108,32,121,105,101,108,100,115,32,110,117,109,32,123,10,32,32,108,101,116,32,97,32,61,32,48,32,59,10,32,32,108,101,116,32,98,32,61,32,49,32,59,10,32,32,119,104,105,108,101,32,121,105,101,108,100,40,97,41,32,123,32,108,101,116,32,99,32,61,32,97,32,43,32,98,32,59,32,97,32,61,32,98,32,59,32,98,32,61,32,99,32,59,32,125,10,125,10,116,97,115,107,32,109,97,105,110,32,123,10,32,32,108,101,116,32,102,32,61,32,115,116,97,114,116,32,102,105,98,115,40,41,32,59,10,32,32,119,104,105,108,101,32,116,114,117,101,32,123,10,32,32,32,32,108,101,116,32,110,32,61,32,114,101,99,118,40,105,110,41,32,59,10,32,32,32,32,119,104,105,108,101,32,110,32,62,32,48,32,123,32,111,117,116,32,114,101,115,117,109,101,40,102,44,32,116,114,117,101,41,32,59,32,110,32,61,32,110,32,45,32,49,32,59,32,125,10,32,32,125,10,125,10]
def tx_11:List UInt8:=[98,111,120,32,105,110,32,110,117,109,32,50,48,32,59,10,98,111,120,32,111,112,101,110,32,98,111,111,108,32,50,48,32,59,10,116,97,115,107,32,109,97,105,110,32,123,10,32,32,119,104,105,108,101,32,116,114,117,101,32,123,10,32,32,32,32,108,101,116,32,120,32,61,32,114,101,99,118,40,105,110,41,32,59,10,32,32,32,32,105,102,32,114,101,99,118,40,111,112,101,110,41,32,123,32,111,117,116,32,120,32,59,32,125,10,32,32,125,10,125,10]
def tx_12:List UInt8:=[98,111,120,32,105,110,32,110,117,109,32,50,48,32,59,10,102,110,32,103,99,100,40,97,32,110,117,109,44,32,98,32,110,117,109,41,32,110,117,109,32,123,10,32,32,105,102,32,98,32,61,61,32,48,32,123,32,114,101,116,117,114,110,32,97,32,59,32,125,10,32,32,114,101,116,117,114,110,32,103,99,100,40,98,44,32,97,32,37,32,98,41,32,59,10,125,10,116,97,115,107,32,109,97,105,110,32,123,10,32,32,119,104,105,108,101,32,116,114,117,101,32,123,32,111,117,116,32,103,99,100,40,114,101,99,118,40,105,110,41,44,32,114,101,99,118,40,105,110,41,41,32,59,32,125,10,125,10]
def tx_13:List UInt8:=[98,111,120,32,105,110,32,110,117,109,32,50,48,32,59,10,102,110,32,109,97,120,40,97,32,110,117,109,44,32,98,32,110,117,109,41,32,110,117,109,32,123,10,32,32,105,102,32,97,32,60,32,98,32,123,32,114,101,116,117,114,110,32,98,32,59,32,125,10,32,32,114,101,116,117,114,110,32,97,32,59,10,125,10,116,97,115,107,32,109,97,105,110,32,123,10,32,32,108,101,116,32,109,32,61,32,114,101,99,118,40,105,110,41,32,59,10,32,32,119,104,105,108,101,32,116,114,117,101,32,123,32,111,117,116,32,109,32,59,32,109,32,61,32,109,97,120,40,109,44,32,114,101,99,118,40,105,110,41,41,32,59,32,125,10,125,10]
def tx_14:List UInt8:=[98,111,120,32,97,32,110,117,109,32,50,48,32,59,10,98,111,120,32,98,32,110,117,109,32,50,48,32,59,10,116,97,115,107,32,109,97,105,110,32,123,10,32,32,108,101,116,32,120,32,61,32,114,101,99,118,40,97,41,32,59,10,32,32,108,101,116,32,121,32,61,32,114,101,99,118,40,98,41,32,59,10,32,32,119,104,105,108,101,32,116,114,117,101,32,123,10,32,32,32,32,105,102,32,120,32,60,61,32,121,32,123,32,111,117,116,32,120,32,59,32,120,32,61,32,114,101,99,118,40,97,41,32,59,32,125,32,101,108,115,101,32,123,32,111,117,116,32,121,32,59,32,121,32,61,32,114,101,99,118,40,98,41,32,59,32,125,10,32,32,125,10,125,10]
def tx_15:List UInt8:=[98,111,120,32,105,110,32,110,117,109,32,50,48,32,59,10,116,97,115,107,32,109,97,105,110,32,123,10,32,32,119,104,105,108,101,32,116,114,117,101,32,123,32,111,117,116,32,114,101,99,118,40,105,110,41,32,45,32,114,101,99,118,40,105,110,41,32,59,32,125,10,125,10]
def tx_16:List UInt8:=[98,111,120,32,112,105,110,103,32,110,117,109,32,49,32,59,10,98,111,120,32,112,111,110,103,32,110,117,109,32,49,32,59,10,116,97,115,107,32,111,110,101,32,123,10,32,32,108,101,116,32,120,32,61,32,49,32,59,10,32,32,119,104,105,108,101,32,120,32,60,32,49,48,48,32,123,32,115,101,110,100,32,112,105,110,103,32,120,32,59,32,120,32,61,32,114,101,99,118,40,112,111,110,103,41,32,59,32,111,117,116,32,120,32,59,32,125,10,125,10,116,97,115,107,32,111,116,104,101,114,32,123,10,32,32,119,104,105,108,101,32,116,114,117,101,32,123,32,115,101,110,100,32,112,111,110,103,32,114,101,99,118,40,112,105,110,103,41,32,42,32,50,32,59,32,125,10,125,10]
def tx_17:List UInt8:=[98,111,120,32,105,110,32,110,117,109,32,50,48,32,59,10,116,97,115,107,32,109,97,105,110,32,123,10,32,32,119,104,105,108,101,32,116,114,117,101,32,123,10,32,32,32,32,108,101,116,32,120,32,61,32,114,101,99,118,40,105,110,41,32,59,10,32,32,32,32,108,101,116,32,110,32,61,32,114,101,99,118,40,105,110,41,32,59,10,32,32,32,32,108,101,116,32,112,32,61,32,49,32,59,10,32,32,32,32,119,104,105,108,101,32,110,32,62,32,48,32,123,10,32,32,32,32,32,32,105,102,32,110,32,37,32,50,32,61,61,32,49,32,123,32,112,32,61,32,112,32,42,32,120,32,59,32,125,10,32,32,32,32,32,32,120,32,61,32,120,32,42,32,120,32,59,10,32,32,32,32,32,32,110,32,61,32,110,32,47,32,50,32,59,10,32,32,32,32,125,10,32,32,32,32,111,117,116,32,112,32,59,10,32,32,125,10,125,10]
def tx_18:List UInt8:=[98,111,120,32,105,110,32,110,117,109,32,50,48,32,59,10,102,110,32,112,114,105,109,101,40,110,32,110,117,109,41,32,98,111,111,108,32,123,10,32,32,105,102,32,110,32,60,32,50,32,123,32,114,101,116,117,114,110,32,102,97,108,115,101,32,59,32,125,10,32,32,108,101,116,32,100,32,61,32,50,32,59,10,32,32,119,104,105,108,101,32,100,32,42,32,100,32,60,61,32,110,32,123,10,32,32,32,32,105,102,32,110,32,37,32,100,32,61,61,32,48,32,123,32,114,101,116,117,114,110,32,102,97,108,115,101,32,59,32,125,10,32,32,32,32,100,32,61,32,100,32,43,32,49,32,59,10,32,32,125,10,32,32,114,101,116,117,114,110,32,116,114,117,101,32,59,10,125,10,116,97,115,107,32,109,97,105,110,32,123,10,32,32,119,104,105,108,101,32,116,114,117,101,32,123,32,111,117,116,32,112,114,105,109,101,40,114,101,99,118,40,105,110,41,41,32,59,32,125,10,125,10]
def tx_19:List UInt8:=[98,111,120,32,105,110,32,110,117,109,32,50,48,32,59,10,35,32,97,32,103,101,110,101,114,97,116,111,114,32,119,105,116,104,105,110,32,97,32,103,101,110,101,114,97,116,111,114,10,103,101,110,32,105,110,110,101,114,40,110,32,110,117,109,41,32,116,97,107,101,115,32,98,111,111,108,32,121,105,101,108,100,115,32,110,117,109,32,123,10,32,32,108,101,116,32,105,32,61,32,48,32,59,10,32,32,119,104,105,108,101,32,105,32,60,32,110,32,123,32,100,111,32,121,105,101,108,100,40,105,41,32,59,32,105,32,61,32,105,32,43,32,49,32,59,32,125,10,125,10,103,101,110,32,111,117,116,101,114,40,41,32,116,97,107,101,115,32,110,117,109,32,121,105,101,108,100,115,32,110,117,109,32,123,10,32,32,108,101,116,32,110,32,61,32,121,105,101,108,100,40,48,41,32,59,10,32,32,119,104,105,108,101,32,116,114,117,101,32,123,10,32,32,32,32,108,101,116,32,103,32,61,32,115,116,97,114,116,32,105,110,110,101,114,40,110,41,32,59,10,32,32,32,32,108,101,116,32,115,32,61,32,48,32,59,10,32,32,32,32,119,104,105,108,101,32,97,108,105,118,101,40,103,41,32,123,32,115,32,61,32,115,32,43,32,114,101,115,117,109,101,40,103,44,32,116,114,117,101,41,32,59,32,125,10,32,32,32,32,110,32,61,32,121,105,101,108,100,40,115,41,32,59,10,32,32,125,10,125,10,116,97,115,107,32,109,97,105,110,32,123,10,32,32,108,101,116,32,111,32,61,32,115,116,97,114,116,32,111,117,116,101,114,40,41,32,59,10,32,32,100,111,32,114,101,115,117,109,101,40,111,44,32,48,41,32,59,10,32,32,119,104,105,108,101,32,116,114,117,101,32,123,32,111,117,116,32,114,101,115,117,109,101,40,111,44,32,114,101,99,118,40,105,110,41,41,32,59,32,125,10,125,10]
def tx_20:List UInt8:=[98,111,120,32,105,110,116,115,32,110,117,109,32,49,32,59,10,98,111,120,32,111,100,100,32,110,117,109,32,49,32,59,10,98,111,120,32,114,101,115,116,32,110,117,109,32,49,32,59,10,116,97,115,107,32,110,117,109,98,101,114,115,32,123,10,32,32,108,101,116,32,105,32,61,32,50,32,59,10,32,32,119,104,105,108,101,32,105,32,60,32,50,54,32,123,32,115,101,110,100,32,105,110,116,115,32,105,32,59,32,105,32,61,32,105,32,43,32,49,32,59,32,125,10,125,10,116,97,115,107,32,116,119,111,32,123,10,32,32,111,117,116,32,50,32,59,10,32,32,119,104,105,108,101,32,116,114,117,101,32,123,32,108,101,116,32,120,32,61,32,114,101,99,118,40,105,110,116,115,41,32,59,32,105,102,32,120,32,37,32,50,32,33,61,32,48,32,123,32,115,101,110,100,32,111,100,100,32,120,32,59,32,125,32,125,10,125,10,116,97,115,107,32,116,104,114,101,101,32,123,10,32,32,111,117,116,32,51,32,59,10,32,32,119,104,105,108,101,32,116,114,117,101,32,123,32,108,101,116,32,120,32,61,32,114,101,99,118,40,111,100,100,41,32,59,32,105,102,32,120,32,37,32,51,32,33,61,32,48,32,123,32,115,101,110,100,32,114,101,115,116,32,120,32,59,32,125,32,125,10,125,10,116,97,115,107,32,111,116,104,101,114,115,32,123,10,32,32,119,104,105,108,101,32,116,114,117,101,32,123,32,108,101,116,32,120,32,61,32,114,101,99,118,40,114,101,115,116,41,32,59,32,105,102,32,120,32,37,32,53,32,33,61,32,48,32,123,32,111,117,116,32,120,32,59,32,125,32,101,108,115,101,32,123,32,105,102,32,120,32,61,61,32,53,32,123,32,111,117,116,32,120,32,59,32,125,32,125,32,125,10,125,10]
def tx_21:List UInt8:=[98,111,120,32,105,110,32,110,117,109,32,50,48,32,59,10,116,97,115,107,32,109,97,105,110,32,123,10,32,32,108,101,116,32,115,32,61,32,48,32,59,10,32,32,119,104,105,108,101,32,116,114,117,101,32,123,32,115,32,61,32,115,32,43,32,114,101,99,118,40,105,110,41,32,59,32,111,117,116,32,115,32,59,32,125,10,125,10]
def tx_22:List UInt8:=[98,111,120,32,105,110,32,110,117,109,32,50,48,32,59,10,35,32,116,119,111,32,116,104,97,116,32,116,97,107,101,32,116,117,114,110,115,10,103,101,110,32,112,108,117,115,40,107,32,110,117,109,41,32,116,97,107,101,115,32,110,117,109,32,121,105,101,108,100,115,32,110,117,109,32,123,10,32,32,108,101,116,32,120,32,61,32,121,105,101,108,100,40,48,41,32,59,10,32,32,119,104,105,108,101,32,116,114,117,101,32,123,32,120,32,61,32,121,105,101,108,100,40,120,32,43,32,107,41,32,59,32,125,10,125,10,116,97,115,107,32,109,97,105,110,32,123,10,32,32,108,101,116,32,97,32,61,32,115,116,97,114,116,32,112,108,117,115,40,49,41,32,59,10,32,32,108,101,116,32,98,32,61,32,115,116,97,114,116,32,112,108,117,115,40,45,49,41,32,59,10,32,32,100,111,32,114,101,115,117,109,101,40,97,44,32,48,41,32,59,10,32,32,100,111,32,114,101,115,117,109,101,40,98,44,32,48,41,32,59,10,32,32,119,104,105,108,101,32,116,114,117,101,32,123,32,111,117,116,32,114,101,115,117,109,101,40,97,44,32,114,101,99,118,40,105,110,41,41,32,59,32,111,117,116,32,114,101,115,117,109,101,40,98,44,32,114,101,99,118,40,105,110,41,41,32,59,32,125,10,125,10]
def tx_23:List UInt8:=[98,111,120,32,105,110,32,110,117,109,32,50,48,32,59,10,116,97,115,107,32,109,97,105,110,32,123,10,32,32,108,101,116,32,120,32,61,32,114,101,99,118,40,105,110,41,32,59,10,32,32,119,104,105,108,101,32,120,32,33,61,32,48,32,123,32,111,117,116,32,120,32,59,32,120,32,61,32,114,101,99,118,40,105,110,41,32,59,32,125,10,125,10]
def tx_24:List UInt8:=[98,111,120,32,105,110,32,110,117,109,32,50,48,32,59,10,116,97,115,107,32,109,97,105,110,32,123,10,32,32,108,101,116,32,97,32,61,32,114,101,99,118,40,105,110,41,32,59,10,32,32,108,101,116,32,98,32,61,32,114,101,99,118,40,105,110,41,32,59,10,32,32,119,104,105,108,101,32,116,114,117,101,32,123,10,32,32,32,32,108,101,116,32,99,32,61,32,114,101,99,118,40,105,110,41,32,59,10,32,32,32,32,111,117,116,32,97,32,43,32,98,32,43,32,99,32,59,10,32,32,32,32,97,32,61,32,98,32,59,10,32,32,32,32,98,32,61,32,99,32,59,10,32,32,125,10,125,10]
def tx_25:List UInt8:=[98,111,120,32,97,32,110,117,109,32,50,48,32,59,10,98,111,120,32,98,32,110,117,109,32,50,48,32,59,10,116,97,115,107,32,109,97,105,110,32,123,10,32,32,119,104,105,108,101,32,116,114,117,101,32,123,32,111,117,116,32,114,101,99,118,40,97,41,32,43,32,114,101,99,118,40,98,41,32,59,32,125,10,125,10]
def sh_early  :Option (List TSo) :=
 some [(TSo.mk [97,118,101,114,97,103,101] tx_1),(TSo.mk [98,105,116,115] tx_2),(TSo.mk [99,104,97,110,103,101,115] tx_3),(TSo.mk [99,111,108,108,97,116,122] tx_4),(TSo.mk [100,101,100,117,112,101] tx_5),(TSo.mk [100,105,103,105,116,115] tx_6),(TSo.mk [100,111,117,98,108,101] tx_7),(TSo.mk [101,118,101,110,115] tx_8),(TSo.mk [102,97,99,116] tx_9)]
def sh_middle  :Option (List TSo) :=
 some [(TSo.mk [102,105,98] tx_10),(TSo.mk [103,97,116,101] tx_11),(TSo.mk [103,99,100] tx_12),(TSo.mk [103,114,101,97,116,101,115,116] tx_13),(TSo.mk [109,101,114,103,101] tx_14),(TSo.mk [112,97,105,114,115] tx_15),(TSo.mk [112,105,110,103,112,111,110,103] tx_16),(TSo.mk [112,111,119,101,114] tx_17),(TSo.mk [112,114,105,109,101] tx_18)]
def sh_late  :Option (List TSo) :=
 some [(TSo.mk [114,111,117,110,100,115] tx_19),(TSo.mk [115,105,101,118,101] tx_20),(TSo.mk [115,117,109,115] tx_21),(TSo.mk [116,117,114,110,115] tx_22),(TSo.mk [117,110,116,105,108] tx_23),(TSo.mk [119,105,110,100,111,119] tx_24),(TSo.mk [122,105,112] tx_25)]
def sh_text1  (p_1:TSo) (p_2:List UInt8):Option Bool :=
 some (decide (p_1.name=p_2))
def sl_indexfunc_one_l1 (p_1:List TSo) (p_2:TSo→Option Bool):Nat→Int→Option Int
 | 0,_=>none
 | n+1,i20 =>
  if i20<(p_1.length:Int) then
   (at_ p_1 i20).bind fun x37 =>
   (p_2 x37).bind fun b45 =>
   if b45=true then
    some i20
   else
    (i64 (i20+1)).bind fun i49 =>
    sl_indexfunc_one_l1 p_1 p_2 n i49
  else
   none
def sl_indexfunc_one  (p_1:List TSo) (p_2:TSo→Option Bool):Option Int :=
 sl_indexfunc_one_l1 p_1 p_2 (p_1.length+1) 0
end Go.Y
namespace Go.Y
open Go.Wk Go.Xt
def sl_grow_one  (p_2:Int):Option (List TSo) :=
 if p_2<0 then
  none
 else
  (i64 (0 - 0)).bind fun i5 =>
  (i64 (p_2 - i5)).bind fun i7 =>
  if (0:Int)<i7 then
   (mksp i7).bind fun k10 =>
   (cut (List.replicate k10 ((TSo.mk [] []):TSo)) 0 0).bind fun l15 =>
   some l15
  else
   none
def sl_concat_one_l2 (p_1:List (List TSo)):Nat→Int→(List TSo)→Option (List TSo)
 | 0,_,_=>none
 | n+1,i83,l86 =>
  if i83<(p_1.length:Int) then
   (at_ p_1 i83).bind fun x111 =>
   (app l86 x111).bind fun l124 =>
   (i64 (i83+1)).bind fun i129 =>
   sl_concat_one_l2 p_1 n i129 l124
  else
   some l86
def sl_concat_one_l1 (p_1:List (List TSo)):Nat→Int→Int→Option (List TSo)
 | 0,_,_=>none
 | n+1,i22,i23 =>
  if i23<(p_1.length:Int) then
   (at_ p_1 i23).bind fun x41 =>
   (i64 (i22+(x41.length:Int))).bind fun i52 =>
   if i52<0 then
    none
   else
    (i64 (i23+1)).bind fun i55 =>
    sl_concat_one_l1 p_1 n i52 i55
  else
   (sl_grow_one i22).bind fun r57 =>
   sl_concat_one_l2 p_1 (p_1.length+1) 0 r57
def sl_concat_one  (p_1:List (List TSo)):Option (List TSo) :=
 sl_concat_one_l1 p_1 (p_1.length+1) 0 0
def sh_all  :Option (List TSo) :=
 (sh_early ).bind fun r4 =>
 (sh_middle ).bind fun r10 =>
 (sh_late ).bind fun r16 =>
 (sl_concat_one [r4,r10,r16]).bind fun r26 =>
 some r26
def sh_text  (p_1:List UInt8):Option (List UInt8×Int) :=
 (sh_all ).bind fun r3 =>
 (sl_indexfunc_one r3 (fun x_=>sh_text1 x_ p_1)).bind fun r11 =>
 if r11<0 then
  none
 else
  (at_ r3 r11).bind fun x15 =>
  some (x15.text,0)
def sh_module_j1 (r22:TModule×TFault) :Option (TModule×Int) :=
 some (r22.1,r22.2.Err)
def sh_module (fu:Nat)  (p_1:List UInt8):Option (TModule×Int) :=
 (sh_text p_1).bind fun r9 =>
 if r9.2≠0 then
  none
 else
  (syn_read fu r9.1).bind fun r13 =>
  if r13.2.Err≠0 then
   none
  else
   (gen_compile fu r13.1).bind fun r22 =>
   sh_module_j1 r22
def sh_ask (fu:Nat)  (p_1:List UInt8) (p_2:List (List Int)):Option (TReport×Int) :=
 (sh_module fu p_1).bind fun r15 =>
 if r15.2≠0 then
  none
 else
  (vm_solo fu r15.1 0 p_2 5000).bind fun r27 =>
  some (r27.1,r27.2)
end Go.Y
