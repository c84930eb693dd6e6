/- The shelf: texts of Md. -/
import Derived.Test.YthdpoglpdpfnbaaGreatDoorCXu
set_option linter.unusedSimpArgs false
set_option linter.unusedVariables false
set_option linter.unusedSectionVars false
namespace Go.Y
open Go.vc Go.hd
structure Ab where
 Kind:Int
 N:Int
 Name:List UInt8
 Kids:List Ab
 deriving Inhabited,Repr
structure ie where
 Kind:Int
 Name:List UInt8
 X:Ab
 Body:List ie
 Dj:List ie
 deriving Inhabited,Repr
def Ik {α:Type}(sz:Nat) (μ:M) (a:Option Addr) (c:Nat) (xs:List α) (g:Nat→List Value):Prop :=
 xs.length≤c∧c≤maxLen∧(xs=[]∨∃ b o,a=some ⟨b,o,none⟩∧∀ (i:Nat) (y:α),xs[i]?=some y→uc μ b (o+i*sz) (g i))
inductive Im (μ:M):List Value→Ab→Prop where
 | mk (x:Ab) (a:Option Addr) (c:Nat) (g:Nat→List Value) (h:Ik 4 μ a c x.Kids g) (k:∀ (i:Nat) (y:Ab),x.Kids[i]?=some y→Im μ (g i) y) :
 Im μ [.int .i64 x.Kind,.int .i64 x.N,S x.Name,.slice a x.Kids.length c] x
theorem Ik.xq {α:Type}{sz:Nat}{μ:M}{a:Option Addr}{c:Nat}{xs:List α}{g:Nat→List Value}{R:List Value→α→Prop}(h:Ik sz μ a c xs g) (k:∀ (i:Nat) (y:α),xs[i]?=some y→R (g i) y):Dc sz R μ a c xs:=by
 refine ⟨h.1,h.2.1,?_⟩;rcases h.2.2 with h | ⟨b,o,e,f⟩
 ·exact .inl h
 ·exact .inr ⟨b,o,e,g,fun i x d=>⟨f i x d,k i x d⟩⟩
theorem Ik.of {α:Type}{sz:Nat}{μ:M}{a:Option Addr}{c:Nat}{xs:List α}{R:List Value→α→Prop}(h:Dc sz R μ a c xs):∃ g,Ik sz μ a c xs g∧∀ (i:Nat) (y:α),xs[i]?=some y→R (g i) y:=by
 rcases h.el with e | ⟨b,o,j,g,f⟩
 ·exact ⟨fun _=>[],⟨h.le,h.cap,.inl e⟩,fun i y d=>by simp [e] at d⟩
 ·exact ⟨g,⟨h.le,h.cap,.inr ⟨b,o,j,fun i y d=>(f i y d).1⟩⟩,fun i y d=>(f i y d).2⟩
theorem Ik.up {α:Type}{sz:Nat}{μ I:M}{a:Option Addr}{c:Nat}{xs:List α}{g:Nat→List Value}(h:Ik sz μ a c xs g) (l:ga μ I):Ik sz I a c xs g:=by
 refine ⟨h.1,h.2.1,?_⟩;rcases h.2.2 with h | ⟨b,o,d,e⟩
 ·exact .inl h
 ·exact .inr ⟨b,o,d,fun i y f=>(e i y f).up l⟩
theorem Im.up {μ I:M}(l:ga μ I){cs:List Value}{x:Ab}(h:Im μ cs x):Im I cs x:=by
 induction h with
 | mk x a c g h k b=>exact .mk x a c g (h.up l) b
instance:Ua Ab where
 sz:=4
 pos:=by decide
 cs:=Im
 rh h:=by cases h;rfl
 up l h:=Im.up l h
 Rg h:=by cases h;rfl
theorem Ab.o {μ:M}{l:List Value}{x:Ab}(h:Ua.cs μ l x):∃ a c,l=[.int .i64 x.Kind,.int .i64 x.N,S x.Name,.slice a x.Kids.length c]∧va μ a c x.Kids:=by
 have b:Im μ l x:=h;cases b with
 | mk _ a c g d k1=>exact ⟨a,c,rfl,d.xq k1⟩
theorem Ab.i {μ:M}{l:List Value}{x:Ab}(h:∃ a c,l=[.int .i64 x.Kind,.int .i64 x.N,S x.Name,.slice a x.Kids.length c]∧va μ a c x.Kids):Ua.cs μ l x:=by
 obtain ⟨a,c,rfl,h⟩:=h;obtain ⟨g,h,k⟩:=Ik.of h;exact Im.mk x a c g h k
inductive Tl (μ:M):List Value→ie→Prop where
 | mk (x:ie) (O:Option Addr) (a:Nat) (a2:Option Addr) (c2:Nat) (a3:Option Addr) (c3:Nat) (g2 g3:Nat→List Value) (b:va μ O a x.X.Kids)
   (c:Ik 8 μ a2 c2 x.Body g2) (d:∀ (i:Nat) (y:ie),x.Body[i]?=some y→Tl μ (g2 i) y)
   (e:Ik 8 μ a3 c3 x.Dj g3) (f:∀ (i:Nat) (y:ie),x.Dj[i]?=some y→Tl μ (g3 i) y) :
 Tl μ [.int .i64 x.Kind,S x.Name,.int .i64 x.X.Kind,.int .i64 x.X.N,S x.X.Name,.slice O x.X.Kids.length a,.slice a2 x.Body.length c2,.slice a3 x.Dj.length c3] x
theorem Tl.up {μ I:M}(l:ga μ I){cs:List Value}{x:ie}(h:Tl μ cs x):Tl I cs x:=by
 induction h with
 | mk x O a a2 c2 a3 c3 g2 g3 b c g d i e f=>exact .mk x O a a2 c2 a3 c3 g2 g3 (b.up l) (c.up l) e (d.up l) f
instance:Ua ie where
 sz:=8
 pos:=by decide
 cs:=Tl
 rh h:=by cases h;rfl
 up l h:=Tl.up l h
 Rg h:=by cases h;rfl
theorem ie.o {μ:M}{l:List Value}{x:ie}(h:Ua.cs μ l x):∃ O a a2 c2 a3 c3,l=[.int .i64 x.Kind,S x.Name,.int .i64 x.X.Kind,.int .i64 x.X.N,S x.X.Name,.slice O x.X.Kids.length a,.slice a2 x.Body.length c2,.slice a3 x.Dj.length c3]∧va μ O a x.X.Kids∧va μ a2 c2 x.Body∧va μ a3 c3 x.Dj:=by
 have b:Tl μ l x:=h;cases b with
 | mk _ O a a2 c2 a3 c3 g2 g3 c d e f g=>exact ⟨O,a,a2,c2,a3,c3,rfl,c,d.xq e,f.xq g⟩
theorem ie.i {μ:M}{l:List Value}{x:ie}(h:∃ O a a2 c2 a3 c3,l=[.int .i64 x.Kind,S x.Name,.int .i64 x.X.Kind,.int .i64 x.X.N,S x.X.Name,.slice O x.X.Kids.length a,.slice a2 x.Body.length c2,.slice a3 x.Dj.length c3]∧va μ O a x.X.Kids∧va μ a2 c2 x.Body∧va μ a3 c3 x.Dj):Ua.cs μ l x:=by
 obtain ⟨O,a,a2,c2,a3,c3,rfl,d,b,c⟩:=h;obtain ⟨g2,b,e⟩:=Ik.of b;obtain ⟨g3,c,f⟩:=Ik.of c;exact Tl.mk x O a a2 c2 a3 c3 g2 g3 d b e c f
structure Tb where
 Kind:Int
 Text:List UInt8
 zC:Int
 uc:Int
 deriving DecidableEq,Inhabited,Repr
instance:Ua Tb where
 sz:=4
 pos:=by decide
 cs μ l x:=l=[.int .i64 x.Kind,S x.Text,.int .i64 x.zC,.int .i64 x.uc]
 rh h:=by obtain rfl:=h;rfl
 up le h:=by exact h
 Rg h:=by obtain rfl:=h;rfl
structure yf where
 Th:Int
 uc:Int
 deriving DecidableEq,Inhabited,Repr
structure sc where
 Kind:Int
 Mc:List UInt8
 deriving DecidableEq,Inhabited,Repr
instance:Ua sc where
 sz:=2
 pos:=by decide
 cs μ l x:=l=[.int .i64 x.Kind,S x.Mc]
 rh h:=by obtain rfl:=h;rfl
 up le h:=by exact h
 Rg h:=by obtain rfl:=h;rfl
structure TParam where
 Name:List UInt8
 ue:sc
 deriving DecidableEq,Inhabited,Repr
instance:Ua TParam where
 sz:=3
 pos:=by decide
 cs μ l x:=l=[S x.Name,.int .i64 x.ue.Kind,S x.ue.Mc]
 rh h:=by obtain rfl:=h;rfl
 up le h:=by exact h
 Rg h:=by obtain rfl:=h;rfl
structure Jb where
 Kind:Int
 Name:List UInt8
 ue:sc
 de:sc
 fh:Int
 Params:List TParam
 Body:List ie
 deriving Inhabited,Repr
instance:Ua Jb where
 sz:=9
 pos:=by decide
 cs μ l x:=∃ O a a2 c2,l=[.int .i64 x.Kind,S x.Name,.int .i64 x.ue.Kind,S x.ue.Mc,.int .i64 x.de.Kind,S x.de.Mc,.int .i64 x.fh,.slice O x.Params.length a,.slice a2 x.Body.length c2]∧va μ O a x.Params∧va μ a2 c2 x.Body
 rh h:=by obtain ⟨O,a,a2,c2,rfl,m1,m2⟩:=h;rfl
 up le h:=by obtain ⟨O,a,a2,c2,rfl,m1,m2⟩:=h;exact ⟨O,a,a2,c2,rfl,m1.up le,m2.up le⟩
 Rg h:=by obtain ⟨O,a,a2,c2,rfl,m1,m2⟩:=h;rfl
theorem Jb.i {μ:M}{l:List Value}{x:Jb}(h:∃ O a a2 c2,l=[.int .i64 x.Kind,S x.Name,.int .i64 x.ue.Kind,S x.ue.Mc,.int .i64 x.de.Kind,S x.de.Mc,.int .i64 x.fh,.slice O x.Params.length a,.slice a2 x.Body.length c2]∧va μ O a x.Params∧va μ a2 c2 x.Body):Ua.cs μ l x:=h
structure Zi where
 Bv:List UInt8
 Writer:List UInt8
 Reader:List UInt8
 deriving DecidableEq,Inhabited,Repr
instance:Ua Zi where
 sz:=3
 pos:=by decide
 cs μ l x:=l=[S x.Bv,S x.Writer,S x.Reader]
 rh h:=by obtain rfl:=h;rfl
 up le h:=by exact h
 Rg h:=by obtain rfl:=h;rfl
instance:Hh sc:=⟨Wm,Wm.up⟩
instance:Hh Jb:=⟨mm,mm.up⟩
structure Ve where
 defs:List Jb
 named:List (List UInt8×Jb)
 deriving Inhabited,Repr
structure Gg where
 calls:List (List UInt8)
 Xl:List (List UInt8)
 Yl:List (List UInt8)
 deriving DecidableEq,Inhabited,Repr
instance:Ua Gg where
 sz:=3
 pos:=by decide
 cs μ l x:=∃ O a a2 c2 a3 c3,l=[.slice O x.calls.length a,.slice a2 x.Xl.length c2,.slice a3 x.Yl.length c3]∧va μ O a x.calls∧va μ a2 c2 x.Xl∧va μ a3 c3 x.Yl
 rh h:=by obtain ⟨O,a,a2,c2,a3,c3,rfl,m1,m2,m3⟩:=h;rfl
 up le h:=by obtain ⟨O,a,a2,c2,a3,c3,rfl,m1,m2,m3⟩:=h;exact ⟨O,a,a2,c2,a3,c3,rfl,m1.up le,m2.up le,m3.up le⟩
 Rg h:=by obtain ⟨O,a,a2,c2,a3,c3,rfl,m1,m2,m3⟩:=h;rfl
theorem Gg.i {μ:M}{l:List Value}{x:Gg}(h:∃ O a a2 c2 a3 c3,l=[.slice O x.calls.length a,.slice a2 x.Xl.length c2,.slice a3 x.Yl.length c3]∧va μ O a x.calls∧va μ a2 c2 x.Xl∧va μ a3 c3 x.Yl):Ua.cs μ l x:=h
structure Ah where
 Mn:List (List UInt8×Int)
 once:Bool
 deriving DecidableEq,Inhabited,Repr
instance:Ua Ah where
 sz:=2
 pos:=by decide
 cs μ l x:=∃ L,l=[.map (some L),.bool x.once]∧Tf μ L x.Mn
 rh h:=by obtain ⟨L,rfl,m1⟩:=h;rfl
 up le h:=by obtain ⟨L,rfl,m1⟩:=h;exact ⟨L,rfl,m1.up le⟩
 Rg h:=by obtain ⟨L,rfl,m1⟩:=h;rfl
theorem Ah.i {μ:M}{l:List Value}{x:Ah}(h:∃ L,l=[.map (some L),.bool x.once]∧Tf μ L x.Mn):Ua.cs μ l x:=h
structure jh where
 boxes:List (List UInt8×Int)
 Sk:List (List UInt8×Int)
 defs:List (List UInt8×Jb)
 deriving Inhabited,Repr
instance:Hh Gg:=⟨Wm,Wm.up⟩
structure Yj where
 ue:Int
 fh:Int
 deriving DecidableEq,Inhabited,Repr
instance:Ua Yj where
 sz:=2
 pos:=by decide
 cs μ l x:=l=[.int .i64 x.ue,.int .i64 x.fh]
 rh h:=by obtain rfl:=h;rfl
 up le h:=by exact h
 Rg h:=by obtain rfl:=h;rfl
structure Jc where
 Op:Int
 A:Int
 N:Int
 deriving DecidableEq,Inhabited,Repr
instance:Ua Jc where
 sz:=3
 pos:=by decide
 cs μ l x:=l=[.int .i64 x.Op,.int .i64 x.A,.int .i64 x.N]
 rh h:=by obtain rfl:=h;rfl
 up le h:=by exact h
 Rg h:=by obtain rfl:=h;rfl
structure ff where
 Kind:Int
 Params:Int
 od:List Int
 Result:Int
 de:Int
 Code:List Jc
 deriving DecidableEq,Inhabited,Repr
instance:Ua ff where
 sz:=6
 pos:=by decide
 cs μ l x:=∃ O a a2 c2,l=[.int .i64 x.Kind,.int .i64 x.Params,.slice O x.od.length a,.int .i64 x.Result,.int .i64 x.de,.slice a2 x.Code.length c2]∧va μ O a x.od∧va μ a2 c2 x.Code
 rh h:=by obtain ⟨O,a,a2,c2,rfl,m1,m2⟩:=h;rfl
 up le h:=by obtain ⟨O,a,a2,c2,rfl,m1,m2⟩:=h;exact ⟨O,a,a2,c2,rfl,m1.up le,m2.up le⟩
 Rg h:=by obtain ⟨O,a,a2,c2,rfl,m1,m2⟩:=h;rfl
theorem ff.i {μ:M}{l:List Value}{x:ff}(h:∃ O a a2 c2,l=[.int .i64 x.Kind,.int .i64 x.Params,.slice O x.od.length a,.int .i64 x.Result,.int .i64 x.de,.slice a2 x.Code.length c2]∧va μ O a x.od∧va μ a2 c2 x.Code):Ua.cs μ l x:=h
structure Sc where
 Re:List Yj
 Kd:List ff
 deriving DecidableEq,Inhabited,Repr
instance:Ua Sc where
 sz:=2
 pos:=by decide
 cs μ l x:=∃ O a a2 c2,l=[.slice O x.Re.length a,.slice a2 x.Kd.length c2]∧va μ O a x.Re∧va μ a2 c2 x.Kd
 rh h:=by obtain ⟨O,a,a2,c2,rfl,m1,m2⟩:=h;rfl
 up le h:=by obtain ⟨O,a,a2,c2,rfl,m1,m2⟩:=h;exact ⟨O,a,a2,c2,rfl,m1.up le,m2.up le⟩
 Rg h:=by obtain ⟨O,a,a2,c2,rfl,m1,m2⟩:=h;rfl
theorem Sc.i {μ:M}{l:List Value}{x:Sc}(h:∃ O a a2 c2,l=[.slice O x.Re.length a,.slice a2 x.Kd.length c2]∧va μ O a x.Re∧va μ a2 c2 x.Kd):Ua.cs μ l x:=h
structure Qh where
 Th:Int
 Unit:Int
 uc:Int
 deriving DecidableEq,Inhabited,Repr
structure Uj where
 State:Int
 Bv:Int
 sC:Int
 Out:List Int
 wv:List (List Int)
 xv:List Int
 Steps:Int
 deriving DecidableEq,Inhabited,Repr
structure Nc where
 name:List UInt8
 text:List UInt8
 deriving DecidableEq,Inhabited,Repr
instance:Ua Nc where
 sz:=2
 pos:=by decide
 cs μ l x:=l=[S x.name,S x.text]
 rh h:=by obtain rfl:=h;rfl
 up le h:=by exact h
 Rg h:=by obtain rfl:=h;rfl
structure Dd where
 stack:List Int
 has:List Bool
 deriving DecidableEq,Inhabited,Repr
instance:Ua Dd where
 sz:=2
 pos:=by decide
 cs μ l x:=∃ O a a2 c2,l=[.slice O x.stack.length a,.slice a2 x.has.length c2]∧va μ O a x.stack∧va μ a2 c2 x.has
 rh h:=by obtain ⟨O,a,a2,c2,rfl,m1,m2⟩:=h;rfl
 up le h:=by obtain ⟨O,a,a2,c2,rfl,m1,m2⟩:=h;exact ⟨O,a,a2,c2,rfl,m1.up le,m2.up le⟩
 Rg h:=by obtain ⟨O,a,a2,c2,rfl,m1,m2⟩:=h;rfl
theorem Dd.i {μ:M}{l:List Value}{x:Dd}(h:∃ O a a2 c2,l=[.slice O x.stack.length a,.slice a2 x.has.length c2]∧va μ O a x.stack∧va μ a2 c2 x.has):Ua.cs μ l x:=h
structure Ee where
 m:Option Sc
 deriving DecidableEq,Inhabited,Repr
instance:Ua Ee where
 sz:=1
 pos:=by decide
 cs μ l x:=∃ v1,l=[v1]∧Ke μ v1 x.m
 rh h:=by obtain ⟨v1,rfl,m1⟩:=h;rfl
 up le h:=by obtain ⟨v1,rfl,m1⟩:=h;exact ⟨v1,rfl,m1.up le⟩
 Rg h:=by obtain ⟨v1,rfl,m1⟩:=h;simp [m1.Md]
theorem Ee.i {μ:M}{l:List Value}{x:Ee}(h:∃ v1,l=[v1]∧Ke μ v1 x.m):Ua.cs μ l x:=h
instance:Hh Dd:=⟨Wm,Wm.up⟩
end Go.Y
namespace Go.Y
open Go.vc Go.hd
def MI : List UInt8 := [32,98,111,120,32,102,110,32,103,101,110,32,116,97,115,107,32,116,97,107,101,115,32,121,105,101,108,100,115,32,108,101,116,32,105,102,32,101,108,115,101,32,119,104,105,108,101,32,114,101,116,117,114,110,32,115,116,111,112,32,115,101,110,100,32,111,117,116,32,100,111,32,114,101,99,118,32,121,105,101,108,100,32,115,116,97,114,116,32,114,101,115,117,109,101,32,97,108,105,118,101,32,110,117,109,32,98,111,111,108,32,116,114,117,101,32,102,97,108,115,101,32,97,110,100,32,111,114,32,110,111,116,32]
def Gp  (p_1 : UInt8) : Option Bool :=
 if (97 : Int) ≤ (p_1.toNat : Int) then
  if (p_1.toNat : Int) ≤ 122 then
   some true
  else
   some (decide ((p_1.toNat : Int) = 95))
 else
  some (decide ((p_1.toNat : Int) = 95))
def dr  (p_1 : UInt8) : Option Bool :=
 if (48 : Int) ≤ (p_1.toNat : Int) then
  some (decide ((p_1.toNat : Int) ≤ 57))
 else
  some false
def Ks (i13 : Int) (a : Int → Option Int) (b : Bool) : Option Int :=
 if b = true then
  (i64 (i13 + 1)).bind fun i33 =>
  a i33
 else
  some i13
def np (p_1 : List UInt8) (a : UInt8 → Option Bool) : Nat → Int → Option Int
 | 0, _ => none
 | n + 1, i13 =>
  if i13 < (p_1.length : Int) then
   (at_ p_1 i13).bind fun b =>
   (a b).bind fun c =>
   Ks i13 (np p_1 a n) c
  else
   Ks i13 (np p_1 a n) false
def Pp (fu : Nat)  (p_1 : List UInt8) (a : UInt8 → Option Bool) : Option Int :=
 np p_1 a fu 0
def zy  (p_1 : UInt8) : Option Bool :=
 (Gp p_1).bind fun a =>
 if a = true then
  some true
 else
  (dr p_1).bind fun b =>
  some b
def Ay  (p_1 : UInt8) : Option Bool :=
 some (decide ((p_1.toNat : Int) ≠ 10))
def By  (p_1 : UInt8) : Option Bool :=
 (Gp p_1).bind fun a =>
 if a = true then
  some true
 else
  none
def ly  (p_1 a : List UInt8) : Option Bool :=
 if (a.length : Int) ≤ (p_1.length : Int) then
  (cut p_1 0 (a.length : Int)).bind fun s2 =>
  some (decide (s2 = a))
 else
  none
def Cy  (p_1 a : List UInt8) : Option Bool :=
 (ly p_1 a).bind fun b =>
 some b
def pt (p_1 : List UInt8) : Nat → Int → Option (List UInt8)
 | 0, _ => none
 | n + 1, i18 =>
  if i18 < 18 then
   (at_ [[61, 61], [33, 61], [60, 61], [62, 61], [60], [62], [61], [43], [45], [42], [47], [37], [40], [41], [123], [125], [44], [59]] i18).bind fun a =>
   (Cy p_1 a).bind fun b =>
   if b = true then
    some a
   else
    (i64 (i18 + 1)).bind fun i46 =>
    pt p_1 n i46
  else
   none
def Ox  (p_1 : List UInt8) : Option (List UInt8):=
 pt p_1 19 0
def Ls (fu : Nat) (p_1 : List UInt8) (i13 : Int) (b : UInt8) (a : Int → Option Int) (Rj : Bool) : Option Int :=
 if Rj = true then
  (i64 (i13 + 1)).bind fun i35 =>
  a i35
 else
  if (b.toNat : Int) = 35 then
   (cut p_1 i13 p_1.length).bind fun c =>
   (Pp fu c Ay).bind fun d =>
   (i64 (i13 + d)).bind fun i43 =>
   a i43
  else
   some i13
def qp (fu : Nat) (p_1 : List UInt8) : Nat → Int → Option Int
 | 0, _ => none
 | n + 1, i13 =>
  if i13 < (p_1.length : Int) then
   (at_ p_1 i13).bind fun a =>
   if (a.toNat : Int) = 32 then
    Ls fu p_1 i13 a (qp fu p_1 n) (decide ((a.toNat : Int) = 32))
   else
    if (a.toNat : Int) = 9 then
     none
    else
     Ls fu p_1 i13 a (qp fu p_1 n) (decide ((a.toNat : Int) = 10))
  else
   some i13
def qu (fu : Nat)  (p_1 : List UInt8) : Option Int :=
 qp fu p_1 fu 0
def Kl (fu : Nat)  (p_1 : List UInt8) : Option Bool :=
 if (p_1.length : Int) < 1 then
  none
 else
  if (12 : Int) < (p_1.length : Int) then
   none
  else
   (at_ p_1 0).bind fun a =>
   (Gp a).bind fun b =>
   if b = true then
    (cat [32] p_1).bind fun c =>
    (cat c [32]).bind fun d =>
    (yy MI d).bind fun Yg =>
    if Yg = true then
     none
    else
     (Pp fu p_1 By).bind fun e =>
     some (decide (e = (p_1.length : Int)))
   else
    none
def Dq (fu : Nat) (p_1 : List UInt8) (i58 : Int) (b : List Tb) (c : Int → (List Tb) → Option (List Tb × yf)) (i118 : Int) (a : List UInt8) (i120 : Int) : Option (List Tb × yf):=
 (app b [(Tb.mk i118 a i120 i58)]).bind fun d =>
 (i64 (i58 + (a.length : Int))).bind fun i154 =>
 (cut p_1 i154 p_1.length).bind fun e =>
 (qu fu e).bind fun f =>
 (i64 (i154 + f)).bind fun i161 =>
 c i161 d
def ko (fu : Nat) (p_1 : List UInt8) : Nat → Int → (List Tb) → Option (List Tb × yf)
 | 0, _, _ => none
 | n + 1, i58, b =>
  if i58 < (p_1.length : Int) then
   (cut p_1 i58 p_1.length).bind fun a =>
   (at_ a 0).bind fun d =>
   (Gp d).bind fun f =>
   if f = true then
    (Pp fu a zy).bind fun g =>
    (cut a 0 g).bind fun h =>
    Dq fu p_1 i58 b (ko fu p_1 n) 1 h 0
   else
    (dr d).bind fun i =>
    if i = true then
     (Pp fu a dr).bind fun j =>
     (cut a 0 j).bind fun c =>
     if (15 : Int) < (c.length : Int) then
      none
     else
      (dz c).bind fun i140 =>
      Dq fu p_1 i58 b (ko fu p_1 n) 2 c i140
    else
     (Ox a).bind fun e =>
     if e = [] then
      none
     else
      Dq fu p_1 i58 b (ko fu p_1 n) 3 e 0
  else
   some (b, (yf.mk 0 0))
def Cw (fu : Nat)  (p_1 : List UInt8) : Option (List Tb × yf):=
 if (6000 : Int) < (p_1.length : Int) then
  none
 else
  (qu fu p_1).bind fun a =>
  ko fu p_1 fu a []
end Go.Y
namespace Go.Y
open Go.vc Go.hd
def Ms  (mi:Bool):Option Int :=
 if mi=true then
 some 2
 else
 some (-1)
def Kq (p_1:Int) (gg:Bool):Option Int :=
 if gg=true then
 some 1
 else
 if p_1≤18 then
   Ms true
 else
   Ms (decide (p_1=23))
def Ns (p_1:Int) (L:Bool):Option Int :=
 if L=true then
 some 0
 else
 if p_1≤5 then
   Kq p_1 true
 else
   if p_1=21 then
  Kq p_1 true
   else
  Kq p_1 (decide (p_1=24))
def nx  (p_1:Int):Option Int :=
 if p_1≤3 then
 Ns p_1 true
 else
 Ns p_1 (decide (p_1=20))
def er  (a:Int) (b:Int):Option (Int×Int):=
 (i64 (a+1)).bind fun i3 =>
 if (2000:Int)<i3 then
 none
 else
 if (40:Int)<b then
   none
 else
   some (0,i3)
def lr  (p_1:sc):Option Int :=
 if p_1.Kind<1 then
 none
 else
 if (3:Int)<p_1.Kind then
   none
 else
   if p_1.Kind=3 then
  none
   else
  some 0
structure Rl where
 Pl:Int→Ab→Int→Option (Int×Int)
def Ps (self:Rl) (a:Ab) (b:Int):Nat→Int→Int→Option (Int×Int)
 | 0,_,_=>none
 | n+1,i69,i70 =>
 if i69<(a.Kids.length:Int) then
   (at_ a.Kids i69).bind fun d =>
   (i64 (b+1)).bind fun i102 =>
   (self.Pl i70 d i102).bind fun c =>
   if c.1≠0 then
  none
   else
  (i64 (i69+1)).bind fun i108 =>
  Ps self a b n i108 c.2
 else
   some (0,i70)
def Qs (self:Rl) (a:Ab) (b:Int) (c:Int×Int) (d:Bool):Option (Int×Int):=
 if d=true then
 none
 else
 Ps self a b (a.Kids.length+1) 0 c.2
def Rs (self:Rl) (a:Ab) (b:Int) (c:Int×Int) (d:Int) (e:Bool):Option (Int×Int):=
 if e=true then
 none
 else
 if d<0 then
   Qs self a b c (decide ((6:Int)<(a.Kids.length:Int)))
 else
   Qs self a b c false
def rp (self:Rl) (b:Ab) (c:Int) (d:Int×Int) (a:Int) (e:Bool):Option (Int×Int):=
 if e=true then
 none
 else
 if (0:Int)≤a then
   Rs self b c d a (decide ((b.Kids.length:Int)≠a))
 else
   Rs self b c d a false
def Ss (fu:Nat) (self:Rl) (a:Ab) (c:Int) (d:Int×Int) (b:Int) (e:Bool):Option (Int×Int):=
 if e=true then
 none
 else
 if a.Kind=3 then
   (Kl fu a.Name).bind fun f =>
   rp self a c d b (!f)
 else
   if a.Kind=20 then
  (Kl fu a.Name).bind fun g =>
  rp self a c d b (!g)
   else
  if b<0 then
     (Kl fu a.Name).bind fun h =>
     rp self a c d b (!h)
  else
     rp self a c d b false
def Ts (fu:Nat) (self:Rl) (a:Ab) (b:Int) (c:Int×Int) (d:Int) (qh:Bool):Option (Int×Int):=
 if qh=true then
 none
 else
 if a.Kind=2 then
   if a.N≠0 then
  Ss fu self a b c d (decide (a.N≠1))
   else
  none
 else
   Ss fu self a b c d false
def Pl (fu:Nat) (self:Rl) (e:Int) (a:Ab) (b:Int):Option (Int×Int):=
 (er e b).bind fun c =>
 if c.1≠0 then
 none
 else
 if a.Kind<1 then
   none
 else
   if (24:Int)<a.Kind then
  none
   else
  (nx a.Kind).bind fun d =>
  if a.Kind=1 then
     if a.N<0 then
   none
     else
   Ts fu self a b c d (decide ((999999999999999:Int)<a.N))
  else
     Ts fu self a b c d false
def iw:Nat→Rl
 | 0=>⟨fun _ _ _=>none⟩
 | n+1=>⟨Pl n (iw n)⟩
structure xn where
 Ll:Int→(List ie)→Int→Option (Int×Int)
 nn:Int→ie→Int→Option (Int×Int)
def zs (self:xn) (a:List ie) (b:Int):Nat→Int→Int→Option (Int×Int)
 | 0,_,_=>none
 | n+1,i29,i30 =>
 if i29<(a.length:Int) then
   (at_ a i29).bind fun d =>
   (self.nn i30 d b).bind fun c =>
   if c.1≠0 then
  none
   else
  (i64 (i29+1)).bind fun i76 =>
  zs self a b n i76 c.2
 else
   some (0,i30)
def Ll (self:xn) (b:Int) (a:List ie) (c:Int):Option (Int×Int):=
 if (50:Int)<(a.length:Int) then
 none
 else
 zs self a c (a.length+1) 0 b
def Us (a:ie) (i41:Int):Option (Int×Int):=
 if a.Kind=3 then
 none
 else
 some (0,i41)
def Lq (fu:Nat) (self:xn) (a:ie) (c:Int) (e:Int×Int) (f:Bool):Option (Int×Int):=
 if f=true then
 none
 else
 if a.Kind=6 then
   none
 else
   (i64 (c+1)).bind fun i34 =>
   ((iw fu).Pl e.2 a.X i34).bind fun b =>
   if b.1≠0 then
  none
   else
  if a.Kind=3 then
     none
  else
     if a.Kind=4 then
   (i64 (c+1)).bind fun i43 =>
   (self.Ll b.2 a.Body i43).bind fun d =>
   if d.1≠0 then
       none
   else
       Us a d.2
     else
   Us a b.2
def nn (fu:Nat) (self:xn) (d:Int) (a:ie) (b:Int):Option (Int×Int):=
 (er d b).bind fun c =>
 if c.1≠0 then
 none
 else
 if a.Kind<1 then
   none
 else
   if (9:Int)<a.Kind then
  none
   else
  if a.Kind=1 then
     (Kl fu a.Name).bind fun e =>
     Lq fu self a b c (!e)
  else
     if a.Kind=2 then
   (Kl fu a.Name).bind fun f =>
   Lq fu self a b c (!f)
     else
   if a.Kind=7 then
       none
   else
       Lq fu self a b c false
def Vs:Nat→xn
 | 0=>⟨fun _ _ _=>none,fun _ _ _=>none⟩
 | n+1=>⟨Ll (Vs n),nn n (Vs n)⟩
def qt (fu:Nat) (a:Jb) (b:Int×Int):Option (Int×Int):=
 if a.Kind≠1 then
 ((Vs fu).Ll b.2 a.Body 2).bind fun c =>
 some (c.1,c.2)
 else
 if a.fh<1 then
   none
 else
   if (20:Int)<a.fh then
  none
   else
  some (0,b.2)
def tt (fu:Nat) (a:Jb) (b:Int×Int):Option (Int×Int):=
 if a.Kind≠4 then
 (lr a.ue).bind fun c =>
 if c≠0 then
   none
 else
   qt fu a b
 else
 qt fu a b
def vt (fu:Nat) (a:Jb) (b:Int×Int):Option (Int×Int):=
 if a.Kind=3 then
 (lr a.de).bind fun c =>
 if c≠0 then
   none
 else
   tt fu a b
 else
 tt fu a b
def xt (fu:Nat) (a:Jb) (b:Int×Int):Nat→Int→Option (Int×Int)
 | 0,_=>none
 | n+1,i43 =>
 if i43<(a.Params.length:Int) then
   (at_ a.Params i43).bind fun c =>
   (Kl fu c.Name).bind fun d =>
   if d=true then
  (lr c.ue).bind fun e =>
  if e≠0 then
     none
  else
     (i64 (i43+1)).bind fun i82 =>
     xt fu a b n i82
   else
  none
 else
   vt fu a b
def Px (fu:Nat)  (c:Int) (a:Jb):Option (Int×Int):=
 (er c 1).bind fun b =>
 if b.1≠0 then
 none
 else
 if a.Kind<1 then
   none
 else
   if (4:Int)<a.Kind then
  none
   else
  (Kl fu a.Name).bind fun d =>
  if d=true then
     if a.Kind=2 then
   none
     else
   if a.Kind=3 then
       if (6:Int)<(a.Params.length:Int) then
    none
       else
    xt fu a b (a.Params.length+1) 0
   else
       vt fu a b
  else
     none
def As (fu:Nat) (p_1:List Jb):Nat→Int→Int→Option yf
 | 0,_,_=>none
 | n+1,i28,i29 =>
 if i28<(p_1.length:Int) then
   (at_ p_1 i28).bind fun b =>
   (Px fu i29 b).bind fun a =>
   if a.1≠0 then
  none
   else
  (i64 (i28+1)).bind fun i69 =>
  As fu p_1 n i69 a.2
 else
   some (yf.mk 0 0)
def Tt (fu:Nat)  (p_1:List Jb):Option yf :=
 if (30:Int)<(p_1.length:Int) then
 none
 else
 As fu p_1 (p_1.length+1) 0 0
end Go.Y
namespace Go.Y
open Go.vc Go.hd
def yv  (a:List Tb) (c:Int) (d:Int):Option Int :=
 if (a.length:Int)=0 then
 none
 else
 (at_ a 0).bind fun b =>
 some b.uc
def Ul  (a:List Tb) (d:Int) (e:Int) (b:List UInt8):Option Bool :=
 if (0:Int)<(a.length:Int) then
 (at_ a 0).bind fun c =>
 some (decide (c.Text=b))
 else
 none
def zg  (a:List Tb) (b:Int) (c:Int) (d:List UInt8):Option (Bool×List Tb×Int×Int):=
 (Ul a b c d).bind fun e =>
 if e=true then
 (cut a 1 a.length).bind fun f =>
 some (true,f,b,c)
 else
 some (false,a,b,c)
def Ut (b:List (List UInt8)):Nat→Int→(List Tb)→Int→Int→Option (List Tb×Int×Int)
 | 0,_,_,_,_=>none
 | n+1,i30,c,i35,i36 =>
 if i30<(b.length:Int) then
   (at_ b i30).bind fun d =>
   (zg c i35 i36 d).bind fun a =>
   if a.1=true then
  (i64 (i30+1)).bind fun i71 =>
  Ut b n i71 a.2.1 a.2.2.1 a.2.2.2
   else
  none
 else
   some (c,i35,i36)
def Lj  (b:List Tb) (c:Int) (d:Int) (a:List (List UInt8)):Option (List Tb×Int×Int):=
 Ut a (a.length+1) 0 b c d
def kl (fu:Nat)  (a:List Tb) (c:Int) (d:Int):Option (List UInt8×List Tb×Int×Int):=
 if (a.length:Int)=0 then
 none
 else
 (at_ a 0).bind fun e =>
 if e.Kind≠1 then
   none
 else
   (at_ a 0).bind fun b =>
   (Kl fu b.Text).bind fun f =>
   if f=true then
  (cut a 1 a.length).bind fun g =>
  some (b.Text,g,c,d)
   else
  none
def ru  (a:List Tb) (b:Int) (c:Int):Option (Int×List Tb×Int×Int):=
 if (a.length:Int)=0 then
 none
 else
 (at_ a 0).bind fun d =>
 if d.Kind≠2 then
   none
 else
   (at_ a 0).bind fun e =>
   (cut a 1 a.length).bind fun f =>
   some (e.zC,f,b,c)
def oq  (c:List Tb) (d:Int) (e:Int):Option (sc×List Tb×Int×Int):=
 (zg c d e [110,117,109]).bind fun a =>
 if a.1=true then
 some ((sc.mk 1 []),a.2.1,a.2.2.1,a.2.2.2)
 else
 (zg a.2.1 a.2.2.1 a.2.2.2 [98,111,111,108]).bind fun b =>
 if b.1=true then
   some ((sc.mk 2 []),b.2.1,b.2.2.1,b.2.2.2)
 else
   none
def Ws (fu:Nat):Nat→(List Tb)→Int→Int→(List TParam)→Option (List TParam×List Tb×Int×Int)
 | 0,_,_,_,_=>none
 | n+1,e,i54,i55,c =>
 (zg e i54 i55 [41]).bind fun a =>
 if a.1=true then
   some (c,a.2.1,a.2.2.1,a.2.2.2)
 else
   if (0:Int)<(c.length:Int) then
  none
   else
  if (c.length:Int)=6 then
     none
  else
     (kl fu a.2.1 a.2.2.1 a.2.2.2).bind fun d =>
     (oq d.2.1 d.2.2.1 d.2.2.2).bind fun b =>
     (app c [(TParam.mk d.1 (sc.mk b.1.Kind b.1.Mc))]).bind fun f =>
     Ws fu n b.2.1 b.2.2.1 b.2.2.2 f
def ox (fu:Nat)  (b:List Tb) (c:Int) (d:Int):Option (List TParam×List Tb×Int×Int):=
 (Lj b c d [[40]]).bind fun a =>
 Ws fu fu a.1 a.2.1 a.2.2 []
def px  :Option (List Ah):=
 some [(Ah.mk (Ae ([]:List (List UInt8×Int)) [111,114] 18) false),(Ah.mk (Ae ([]:List (List UInt8×Int)) [97,110,100] 17) false),(Ah.mk (Ae (Ae (Ae (Ae (Ae (Ae ([]:List (List UInt8×Int)) [61,61] 11) [33,61] 12) [60] 13) [60,61] 14) [62] 15) [62,61] 16) true),(Ah.mk (Ae (Ae ([]:List (List UInt8×Int)) [43] 6) [45] 7) false),(Ah.mk (Ae (Ae (Ae ([]:List (List UInt8×Int)) [42] 8) [47] 9) [37] 10) false)]
def lq  (a:List Tb) (b:Int) (c:Int):Option (List Tb×Int×Int):=
 (i64 (c+1)).bind fun i14 =>
 if (200:Int)<i14 then
 none
 else
 some (a,b,i14)
def pq  (a:List Tb) (b:Int) (c:Int):Option (List Tb×Int×Int):=
 (i64 (c - 1)).bind fun i12 =>
 some (a,b,i12)
end Go.Y
namespace Go.Y
open Go.vc Go.hd
structure oj where
 Ri:(List Tb)→Int→Int→Option (Ab×List Tb×Int×Int)
 Ok:(List Tb)→Int→Int→Int→Option (Ab×List Tb×Int×Int)
 fk:(List Tb)→Int→Int→Option (Ab×List Tb×Int×Int)
 vm:(List Tb)→Int→Int→Option (Ab×List Tb×Int×Int)
 Hn:(List Tb)→Int→Int→Option (List Ab×List Tb×Int×Int)
 Pk:(List Tb)→Int→Int→Int→Int→Option (Ab×List Tb×Int×Int)
def Ri (self:oj) (d:List Tb) (e:Int) (f:Int):Option (Ab×List Tb×Int×Int):=
 (lq d e f).bind fun b =>
 (self.Ok b.1 b.2.1 b.2.2 0).bind fun a =>
 (pq a.2.1 a.2.2.1 a.2.2.2).bind fun c =>
 some (a.1,c.1,c.2.1,c.2.2)
def yt  (a:List Tb) (i50:Int) (i51:Int) (i52:Int) (i53:Int) (b:List UInt8) (c:List Ab):Option (Ab×List Tb×Int×Int):=
 some ((Ab.mk i52 i53 b c),a,i50,i51)
def Dw (e:Int) (f:List Ah) (a:Ah) (b:Tb) (g:(List Tb)→Int→Int→Int→Int→(List UInt8)→(List Ab)→Option (Ab×List Tb×Int×Int)) (c:List Tb) (i217:Int) (i218:Int) (d:List Ab):Option (Ab×List Tb×Int×Int):=
 (at_ f e).bind fun h =>
 if h.once=true then
 yt c i217 i218 ((mf a.Mn b.Text).getD 0) 0 [] d
 else
 g c i217 i218 ((mf a.Mn b.Text).getD 0) 0 [] d
def Sq (self:oj) (b:Int) (d:List Ah):Nat→(List Tb)→Int→Int→Int→Int→(List UInt8)→(List Ab)→Option (Ab×List Tb×Int×Int)
 | 0,_,_,_,_,_,_,_=>none
 | n+1,a,i116,i117,i118,i119,e,f =>
 if (0:Int)<(a.length:Int) then
   (at_ d b).bind fun g =>
   (at_ a 0).bind fun h =>
   if ((mf g.Mn h.Text).getD 0)=0 then
  yt a i116 i117 i118 i119 e f
   else
  (cut a 1 a.length).bind fun i =>
  (i64 (b+1)).bind fun i231 =>
  (self.Ok i i116 i117 i231).bind fun c =>
  Dw b d g h (Sq self b d n) c.2.1 c.2.2.1 c.2.2.2 [(Ab.mk i118 i119 e f),c.1]
 else
   none
def Ok (fu:Nat) (self:oj) (d:List Tb) (e:Int) (f:Int) (c:Int):Option (Ab×List Tb×Int×Int):=
 (px ).bind fun g =>
 if c=(g.length:Int) then
 (self.fk d e f).bind fun b =>
 some (b.1,b.2.1,b.2.2.1,b.2.2.2)
 else
 (i64 (c+1)).bind fun i33 =>
 (self.Ok d e f i33).bind fun a =>
 Sq self c g fu a.2.1 a.2.2.1 a.2.2.2 a.1.Kind a.1.N a.1.Name a.1.Kids
def fk (self:oj) (j:List Tb) (k:Int) (l:Int):Option (Ab×List Tb×Int×Int):=
 (zg j k l [45]).bind fun a =>
 if a.1=true then
 (lq a.2.1 a.2.2.1 a.2.2.2).bind fun f =>
 (self.fk f.1 f.2.1 f.2.2).bind fun c =>
 (pq c.2.1 c.2.2.1 c.2.2.2).bind fun g =>
 some ((Ab.mk 4 0 [] [c.1]),g.1,g.2.1,g.2.2)
 else
 (zg a.2.1 a.2.2.1 a.2.2.2 [110,111,116]).bind fun b =>
 if b.1=true then
   (lq b.2.1 b.2.2.1 b.2.2.2).bind fun h =>
   (self.fk h.1 h.2.1 h.2.2).bind fun d =>
   (pq d.2.1 d.2.2.1 d.2.2.2).bind fun i =>
   some ((Ab.mk 5 0 [] [d.1]),i.1,i.2.1,i.2.2)
 else
   (self.vm b.2.1 b.2.2.1 b.2.2.2).bind fun e =>
   some (e.1,e.2.1,e.2.2.1,e.2.2.2)
def vm (fu:Nat) (self:oj) (h:List Tb) (t:Int) (u:Int):Option (Ab×List Tb×Int×Int):=
 if (0:Int)<(h.length:Int) then
 (at_ h 0).bind fun v =>
 if v.Kind=2 then
   (ru h t u).bind fun i =>
   some ((Ab.mk 1 i.1 [] ([]:List Ab)),i.2.1,i.2.2.1,i.2.2.2)
 else
   (zg h t u [116,114,117,101]).bind fun a =>
   if a.1=true then
  some ((Ab.mk 2 1 [] ([]:List Ab)),a.2.1,a.2.2.1,a.2.2.2)
   else
  (zg a.2.1 a.2.2.1 a.2.2.2 [102,97,108,115,101]).bind fun j =>
  if j.1=true then
     none
  else
     (zg j.2.1 j.2.2.1 j.2.2.2 [40]).bind fun k =>
     if k.1=true then
   none
     else
   (zg k.2.1 k.2.2.1 k.2.2.2 [114,101,99,118]).bind fun b =>
   if b.1=true then
       (Lj b.2.1 b.2.2.1 b.2.2.2 [[40]]).bind fun r =>
       (kl fu r.1 r.2.1 r.2.2).bind fun l =>
       (Lj l.2.1 l.2.2.1 l.2.2.2 [[41]]).bind fun s =>
       some ((Ab.mk 20 0 l.1 ([]:List Ab)),s.1,s.2.1,s.2.2)
   else
       (zg b.2.1 b.2.2.1 b.2.2.2 [121,105,101,108,100]).bind fun c =>
       if c.1=true then
    (self.Pk c.2.1 c.2.2.1 c.2.2.2 21 1).bind fun m =>
    some (m.1,m.2.1,m.2.2.1,m.2.2.2)
       else
    (zg c.2.1 c.2.2.1 c.2.2.2 [114,101,115,117,109,101]).bind fun d =>
    if d.1=true then
         (self.Pk d.2.1 d.2.2.1 d.2.2.2 23 2).bind fun n =>
         some (n.1,n.2.1,n.2.2.1,n.2.2.2)
    else
         (zg d.2.1 d.2.2.1 d.2.2.2 [97,108,105,118,101]).bind fun e =>
         if e.1=true then
     (self.Pk e.2.1 e.2.2.1 e.2.2.2 24 1).bind fun o =>
     some (o.1,o.2.1,o.2.2.1,o.2.2.2)
         else
     (zg e.2.1 e.2.2.1 e.2.2.2 [115,116,97,114,116]).bind fun f =>
     if f.1=true then
           (kl fu f.2.1 f.2.2.1 f.2.2.2).bind fun p =>
           (self.Hn p.2.1 p.2.2.1 p.2.2.2).bind fun q =>
           some ((Ab.mk 22 0 p.1 q.1),q.2.1,q.2.2.1,q.2.2.2)
     else
           (kl fu f.2.1 f.2.2.1 f.2.2.2).bind fun g =>
           (Ul g.2.1 g.2.2.1 g.2.2.2 [40]).bind fun w =>
           if w=true then
      none
           else
      some ((Ab.mk 3 0 g.1 ([]:List Ab)),g.2.1,g.2.2.1,g.2.2.2)
 else
 none
def Vt (self:oj):Nat→(List Tb)→Int→Int→(List Ab)→Option (List Ab×List Tb×Int×Int)
 | 0,_,_,_,_=>none
 | n+1,d,i51,i52,b =>
 (zg d i51 i52 [41]).bind fun a =>
 if a.1=true then
   some (b,a.2.1,a.2.2.1,a.2.2.2)
 else
   if (0:Int)<(b.length:Int) then
  none
   else
  if (b.length:Int)=6 then
     none
  else
     (self.Ri a.2.1 a.2.2.1 a.2.2.2).bind fun c =>
     (app b [c.1]).bind fun e =>
     Vt self n c.2.1 c.2.2.1 c.2.2.2 e
def Hn (fu:Nat) (self:oj) (b:List Tb) (c:Int) (d:Int):Option (List Ab×List Tb×Int×Int):=
 (Lj b c d [[40]]).bind fun a =>
 Vt self fu a.1 a.2.1 a.2.2 []
def Ew (i63:Int) (a:Int→(List Tb)→Int→Int→(List Ab)→Option (Ab×List Tb×Int×Int)) (b:List Tb) (i135:Int) (i136:Int) (c:List Ab):Option (Ab×List Tb×Int×Int):=
 (i64 (i63+1)).bind fun i177 =>
 a i177 b i135 i136 c
def zt (self:oj) (i63:Int) (b:List Ab) (c:Int→(List Tb)→Int→Int→(List Ab)→Option (Ab×List Tb×Int×Int)) (d:List Tb) (i116:Int) (i117:Int):Option (Ab×List Tb×Int×Int):=
 (self.Ri d i116 i117).bind fun a =>
 (app b [a.1]).bind fun e =>
 Ew i63 c a.2.1 a.2.2.1 a.2.2.2 e
def oo (self:oj) (a:Int) (b:Int):Nat→Int→(List Tb)→Int→Int→(List Ab)→Option (Ab×List Tb×Int×Int)
 | 0,_,_,_,_,_=>none
 | n+1,i63,c,i68,i69,d =>
 if i63<b then
   if (0:Int)<i63 then
  (Lj c i68 i69 [[44]]).bind fun e =>
  zt self i63 d (oo self a b n) e.1 e.2.1 e.2.2
   else
  zt self i63 d (oo self a b n) c i68 i69
 else
   (Lj c i68 i69 [[41]]).bind fun f =>
   some ((Ab.mk a 0 [] d),f.1,f.2.1,f.2.2)
def Pk (self:oj) (c:List Tb) (d:Int) (e:Int) (f:Int) (b:Int):Option (Ab×List Tb×Int×Int):=
 (Lj c d e [[40]]).bind fun a =>
 oo self f b ((b - 0).toNat+1) 0 a.1 a.2.1 a.2.2 []
def Mk:Nat→oj
 | 0=>⟨fun _ _ _=>none,fun _ _ _ _=>none,fun _ _ _=>none,fun _ _ _=>none,fun _ _ _=>none,fun _ _ _ _ _=>none⟩
 | n+1=>⟨Ri (Mk n),Ok n (Mk n),fk (Mk n),vm n (Mk n),Hn n (Mk n),Pk (Mk n)⟩
structure Uo where
 Qk:(List Tb)→Int→Int→Option (List ie×List Tb×Int×Int)
 Jn:(List Tb)→Int→Int→Option (ie×List Tb×Int×Int)
def Wt (self:Uo):Nat→(List Tb)→Int→Int→(List ie)→Option (List ie×List Tb×Int×Int)
 | 0,_,_,_,_=>none
 | n+1,e,i65,i66,c =>
 (zg e i65 i66 [125]).bind fun a =>
 if a.1=true then
   (pq a.2.1 a.2.2.1 a.2.2.2).bind fun d =>
   some (c,d.1,d.2.1,d.2.2)
 else
   if (c.length:Int)=50 then
  none
   else
  (self.Jn a.2.1 a.2.2.1 a.2.2.2).bind fun b =>
  (app c [b.1]).bind fun f =>
  Wt self n b.2.1 b.2.2.1 b.2.2.2 f
def Qk (fu:Nat) (self:Uo) (c:List Tb) (d:Int) (e:Int):Option (List ie×List Tb×Int×Int):=
 (lq c d e).bind fun a =>
 (Lj a.1 a.2.1 a.2.2 [[123]]).bind fun b =>
 Wt self fu b.1 b.2.1 b.2.2 []
def Hp  (b:List Tb) (i28:Int) (i29:Int) (i30:Int) (c:List UInt8) (i33:Int) (i34:Int) (d:List UInt8) (e:List Ab):Option (ie×List Tb×Int×Int):=
 (Lj b i28 i29 [[59]]).bind fun a =>
 some ((ie.mk i30 c (Ab.mk i33 i34 d e) ([]:List ie) ([]:List ie)),a.1,a.2.1,a.2.2)
def Jn (fu:Nat) (self:Uo) (s:List Tb) (t:Int) (u:Int):Option (ie×List Tb×Int×Int):=
 (zg s t u [105,102]).bind fun j =>
 if j.1=true then
 none
 else
 (zg j.2.1 j.2.2.1 j.2.2.2 [119,104,105,108,101]).bind fun a =>
 if a.1=true then
   ((Mk fu).Ri a.2.1 a.2.2.1 a.2.2.2).bind fun b =>
   (self.Qk b.2.1 b.2.2.1 b.2.2.2).bind fun k =>
   some ((ie.mk 4 [] (Ab.mk b.1.Kind b.1.N b.1.Name b.1.Kids) k.1 ([]:List ie)),k.2.1,k.2.2.1,k.2.2.2)
 else
   (zg a.2.1 a.2.2.1 a.2.2.2 [108,101,116]).bind fun c =>
   if c.1=true then
  (kl fu c.2.1 c.2.2.1 c.2.2.2).bind fun l =>
  (Lj l.2.1 l.2.2.1 l.2.2.2 [[61]]).bind fun q =>
  ((Mk fu).Ri q.1 q.2.1 q.2.2).bind fun d =>
  Hp d.2.1 d.2.2.1 d.2.2.2 1 l.1 d.1.Kind d.1.N d.1.Name d.1.Kids
   else
  (zg c.2.1 c.2.2.1 c.2.2.2 [114,101,116,117,114,110]).bind fun m =>
  if m.1=true then
     none
  else
     (zg m.2.1 m.2.2.1 m.2.2.2 [115,116,111,112]).bind fun n =>
     if n.1=true then
   none
     else
   (zg n.2.1 n.2.2.1 n.2.2.2 [115,101,110,100]).bind fun o =>
   if o.1=true then
       none
   else
       (zg o.2.1 o.2.2.1 o.2.2.2 [111,117,116]).bind fun e =>
       if e.1=true then
    ((Mk fu).Ri e.2.1 e.2.2.1 e.2.2.2).bind fun f =>
    Hp f.2.1 f.2.2.1 f.2.2.2 8 [] f.1.Kind f.1.N f.1.Name f.1.Kids
       else
    (zg e.2.1 e.2.2.1 e.2.2.2 [100,111]).bind fun g =>
    if g.1=true then
         ((Mk fu).Ri g.2.1 g.2.2.1 g.2.2.2).bind fun h =>
         Hp h.2.1 h.2.2.1 h.2.2.2 9 [] h.1.Kind h.1.N h.1.Name h.1.Kids
    else
         (kl fu g.2.1 g.2.2.1 g.2.2.2).bind fun p =>
         (Lj p.2.1 p.2.2.1 p.2.2.2 [[61]]).bind fun r =>
         ((Mk fu).Ri r.1 r.2.1 r.2.2).bind fun i =>
         Hp i.2.1 i.2.2.1 i.2.2.2 2 p.1 i.1.Kind i.1.N i.1.Name i.1.Kids
def gr:Nat→Uo
 | 0=>⟨fun _ _ _=>none,fun _ _ _=>none⟩
 | n+1=>⟨Qk n (gr n),Jn n (gr n)⟩
def Dy (fu:Nat)  (r:List Tb) (s:Int) (t:Int):Option (Jb×List Tb×Int×Int):=
 (yv r s t).bind fun u =>
 (zg r s t [98,111,120]).bind fun b =>
 if b.1=true then
 (kl fu b.2.1 b.2.2.1 b.2.2.2).bind fun g =>
 (oq g.2.1 g.2.2.1 g.2.2.2).bind fun a =>
 (yv a.2.1 a.2.2.1 a.2.2.2).bind fun v =>
 (ru a.2.1 a.2.2.1 a.2.2.2).bind fun d =>
 if d.1<1 then
   none
 else
   if (20:Int)<d.1 then
  none
   else
  (Lj d.2.1 d.2.2.1 d.2.2.2 [[59]]).bind fun o =>
  some ((Jb.mk 1 g.1 (sc.mk a.1.Kind a.1.Mc) (sc.mk 0 []) d.1 ([]:List TParam) ([]:List ie)),o.1,o.2.1,o.2.2)
 else
 (zg b.2.1 b.2.2.1 b.2.2.2 [102,110]).bind fun h =>
 if h.1=true then
   none
 else
   (zg h.2.1 h.2.2.1 h.2.2.2 [103,101,110]).bind fun c =>
   if c.1=true then
  (kl fu c.2.1 c.2.2.1 c.2.2.2).bind fun i =>
  (ox fu i.2.1 i.2.2.1 i.2.2.2).bind fun j =>
  (Lj j.2.1 j.2.2.1 j.2.2.2 [[116,97,107,101,115]]).bind fun p =>
  (oq p.1 p.2.1 p.2.2).bind fun e =>
  (Lj e.2.1 e.2.2.1 e.2.2.2 [[121,105,101,108,100,115]]).bind fun q =>
  (oq q.1 q.2.1 q.2.2).bind fun f =>
  ((gr fu).Qk f.2.1 f.2.2.1 f.2.2.2).bind fun k =>
  some ((Jb.mk 3 i.1 (sc.mk f.1.Kind f.1.Mc) (sc.mk e.1.Kind e.1.Mc) 0 j.1 k.1),k.2.1,k.2.2.1,k.2.2.2)
   else
  (zg c.2.1 c.2.2.1 c.2.2.2 [116,97,115,107]).bind fun l =>
  if l.1=true then
     (kl fu l.2.1 l.2.2.1 l.2.2.2).bind fun m =>
     ((gr fu).Qk m.2.1 m.2.2.1 m.2.2.2).bind fun n =>
     some ((Jb.mk 4 m.1 (sc.mk 0 []) (sc.mk 0 []) 0 ([]:List TParam) n.1),n.2.1,n.2.2.1,n.2.2.2)
  else
     none
end Go.Y
namespace Go.Y
open Go.vc Go.hd
theorem RF {α:Type}{l:List Tb}{e d:Int}{k1 b:List UInt8}(m:¬ k1=b){A B C:Bool×List Tb×Int×Int→Option α}{r:α}
 (h:(Option.bind (zg l e d k1) fun x=>if x.1=true then A x else Option.bind (zg x.2.1 x.2.2.1 x.2.2.2 b) fun y=>if y.1=true then B y else C y)=some r) :
 (Option.bind (zg l e d b) fun y=>if y.1=true then B y else Option.bind (zg y.2.1 y.2.2.1 y.2.2.2 k1) fun x=>if x.1=true then A x else C x)=some r:=by
 have key:∀ k,(Ul l e d k=some false∧zg l e d k=some (false,l,e,d))∨(∃ t a,l=t::a∧t.Text=k∧zg l e d k=some (true,a,e,d)):=by
  intro k;cases l with
  | nil=>first | (left; simp [Ul,zg]; done) | (exfalso; simp [Ul,zg] at h)
  | cons t a =>
   by_cases c:t.Text=k
   ·right
    refine ⟨t,a,rfl,c,?_⟩;have f:(0:Int)<((a.length+1:Nat):Int):=by omega
    have n:(1:Int)≤((a.length+1:Nat):Int):=by omega
    have hc:cut (t::a) 1 ((t::a).length)=some a:=by
     unfold cut;rw [if_pos ⟨by omega,by simpa using n,by simp⟩];simp
    have o:Ul (t::a) e d k=some true:=by
     unfold Ul;rw [if_pos (by simp)];simp [at_,c]
    unfold zg;rw [o,Option.bind_some];simp only [if_true];rw [hc];rfl
   ·left
    have f:(0:Int)<((a.length+1:Nat):Int):=by omega
    simp [zg,Ul,at_,c,f]
 rcases key k1 with ⟨s1,i1⟩ | ⟨t,a,g,i,i1⟩
 ·rw [i1,Option.bind_some] at h
  simp only [Bool.false_eq_true,if_false] at h;rcases key b with ⟨s2,i2⟩ | ⟨t,a,g,i,i2⟩
  ·rw [i2,Option.bind_some] at h ⊢
   simp only [Bool.false_eq_true,if_false] at h ⊢;rw [i1,Option.bind_some];simpa using h
  ·rw [i2,Option.bind_some] at h ⊢
   simp only [if_true] at h ⊢;exact h
 ·rw [i1,Option.bind_some] at h
  simp only [if_true] at h;rcases key b with ⟨s2,i2⟩ | ⟨t2,q,j,p,i2⟩
  ·rw [i2,Option.bind_some]
   simp only [Bool.false_eq_true,if_false];rw [i1,Option.bind_some];simpa using h
  ·rw [g] at j
   obtain ⟨rfl,rfl⟩:=List.cons.inj j;exact absurd (i.symm.trans p) m
end Go.Y
namespace Go.Y
open Go.vc Go.hd
def PB:Option Unit:=some ()
def jw (a:(List Tb)→Int→Int→(List Jb)→Option (List Jb×yf)) (b:List Tb) (i75:Int) (i76:Int) (c:List Jb):Option (List Jb×yf):=
 a b i75 i76 c
def mw (a:List Tb×yf) (b:List Jb):Option (List Jb×yf):=
 (PB ).bind fun c =>
 some (b,a.2)
def Mq (fu:Nat) (c:List Tb×yf):Nat→(List Tb)→Int→Int→(List Jb)→Option (List Jb×yf)
 | 0,_,_,_,_=>none
 | n+1,d,i41,i42,a =>
 if (0:Int)<(d.length:Int) then
   if (a.length:Int)=30 then
  none
   else
  (Dy fu d i41 i42).bind fun b =>
  (app a [b.1]).bind fun e =>
  jw (Mq fu c n) b.2.1 b.2.2.1 b.2.2.2 e
 else
   (Tt fu a).bind fun f =>
   if f.Th≠0 then
  none
   else
  mw c a
def qx (fu:Nat)  (p_1:List UInt8):Option (List Jb×yf):=
 (Cw fu p_1).bind fun a =>
 if a.2.Th≠0 then
 none
 else
 Mq fu a fu a.1 (p_1.length:Int) 0 []
end Go.Y
namespace Go.Y
open Go.vc Go.hd
def rm  (p_1:sc):Option Bool :=
 some (decide (p_1.Kind≠3))
def Xt  (p_1:Ve) (b:Int) (a:List UInt8):Option (Option Jb×Bool):=
 if (mf p_1.named a).isSome=true then
 ((mf p_1.named a)).bind fun c =>
 some ((mf p_1.named a),decide (c.Kind=b))
 else
 none
def sx  (p_1:Ve) (a:sc):Option Int :=
 (rm a).bind fun b =>
 if b=true then
 some 0
 else
 none
def yo  (p_1:sc):Option sc :=
 (rm p_1).bind fun a =>
 if a=true then
 some (sc.mk p_1.Kind [])
 else
 none
def Eo  :Option sc :=
 some (sc.mk 1 [])
def kp  :Option sc :=
 some (sc.mk 2 [])
def Bs (a:List UInt8) (b:List (List (List UInt8×sc))):Nat→Int→Option (sc×Bool)
 | 0,_=>none
 | n+1,i48 =>
 if (0:Int)≤i48 then
   (at_ b i48).bind fun c =>
   if (mf c a).isSome=true then
  some (((mf c a).getD (sc.mk 0 [])),true)
   else
  (i64 (i48 - 1)).bind fun i88 =>
  Bs a b n i88
 else
   some ((sc.mk 0 []),false)
def Wq (fu:Nat)  (c:Ve) (d:Jb) (a:List (List (List UInt8×sc))) (b:List UInt8):Option (sc×Bool):=
 (i64 ((a.length:Int) - 1)).bind fun i27 =>
 Bs b a fu i27
structure lk where
 kf:Ve→Jb→(List (List (List UInt8×sc)))→Ab→sc→Option Int
 jn:Ve→Jb→(List (List (List UInt8×sc)))→Ab→Int→Option (Option Jb×Int)
 Fl:Ve→Jb→(List (List (List UInt8×sc)))→Ab→Option (Option Jb×Int)
 Kj:Ve→Jb→(List (List (List UInt8×sc)))→Ab→Option (sc×Int)
def kf (self:lk) (c:Ve) (d:Jb) (e:List (List (List UInt8×sc))) (f:Ab) (g:sc):Option Int :=
 (self.Kj c d e f).bind fun a =>
 if a.2=0 then
 (yo g).bind fun b =>
 if (bm [(decide (a.1.Kind=b.Kind)),(decide (a.1.Mc=b.Mc))])=true then
   some a.2
 else
   none
 else
 none
def Cs (self:lk) (b:Ab) (c:Ve) (d:Jb) (e:List (List (List UInt8×sc))) (f:Option Jb×Bool) (a:Jb):Nat→Int→Option (Option Jb×Int)
 | 0,_=>none
 | n+1,i104 =>
 if i104<(a.Params.length:Int) then
   (at_ a.Params i104).bind fun g =>
   (at_ b.Kids i104).bind fun h =>
   (self.kf c d e h g.ue).bind fun i =>
   if i≠0 then
  none
   else
  (i64 (i104+1)).bind fun i158 =>
  Cs self b c d e f a n i158
 else
   some (f.1,0)
def Vv (self:lk) (c:Ab) (d:Ve) (e:Jb) (f:List (List (List UInt8×sc))) (a:Option Jb×Bool) (g:Bool):Option (Option Jb×Int):=
 if g=true then
 none
 else
 (a.1).bind fun b =>
 Cs self c d e f a b (b.Params.length+1) 0
def jn (self:lk) (c:Ve) (d:Jb) (e:List (List (List UInt8×sc))) (a:Ab) (f:Int):Option (Option Jb×Int):=
 (Xt c f a.Name).bind fun b =>
 if b.2=true then
 (b.1).bind fun g =>
 Vv self a c d e b (decide ((g.Params.length:Int)≠(a.Kids.length:Int)))
 else
 none
def Fl (self:lk) (b:Ve) (c:Jb) (d:List (List (List UInt8×sc))) (e:Ab):Option (Option Jb×Int):=
 (self.Kj b c d e).bind fun a =>
 if a.2≠0 then
 none
 else
 (rm a.1).bind fun f =>
 if f=true then
   none
 else
   some ((mf b.named a.1.Mc),0)
def Wv  (i49:Int) (i50:Int) (a:List UInt8):Option (sc×Int):=
 some ((sc.mk i50 a),i49)
def Xv  (i125:Int) (i126:Int) (a:List UInt8):Option (sc×Int):=
 some ((sc.mk i126 a),i125)
def Yv  (a:Int) (b:Int) (c:List UInt8):Option (sc×Int):=
 some ((sc.mk b c),a)
def Ds (self:lk) (a:Ab) (c:Ve) (d:Jb) (e:List (List (List UInt8×sc))) (f:sc) (g:Int) (h:List UInt8):Nat→Int→Option (sc×Int)
 | 0,_=>none
 | n+1,b =>
 if b<(a.Kids.length:Int) then
   (at_ a.Kids b).bind fun i =>
   (self.kf c d e i f).bind fun j =>
   if j≠0 then
  none
   else
  (i64 (b+1)).bind fun k =>
  Ds self a c d e f g h n k
 else
   some ((sc.mk g h),0)
def Es (self:lk) (a:Ab) (b:Ve) (c:Jb) (d:List (List (List UInt8×sc))) (e:sc) (f:Int) (g:List UInt8):Option (sc×Int):=
 Ds self a b c d e f g (a.Kids.length+1) 0
def Kj (fu:Nat) (self:lk) (c:Ve) (b:Jb) (d:List (List (List UInt8×sc))) (a:Ab):Option (sc×Int):=
 if a.Kind=1 then
 (Eo ).bind fun o =>
 some (o,0)
 else
 if a.Kind=2 then
   (kp ).bind fun p =>
   some (p,0)
 else
   if a.Kind=3 then
  (Wq fu c b d a.Name).bind fun e =>
  if e.2=true then
     some (e.1,0)
  else
     none
   else
  if a.Kind=4 then
     (Eo ).bind fun f =>
     (at_ a.Kids 0).bind fun q =>
     (Eo ).bind fun r =>
     (self.kf c b d q r).bind fun s =>
     Wv s f.Kind f.Mc
  else
     if a.Kind=5 then
   none
     else
   if a.Kind=11 then
       none
   else
       if a.Kind=12 then
    none
       else
    if a.Kind=19 then
         none
    else
         if a.Kind=20 then
     (Xt c 1 a.Name).bind fun g =>
     if g.2=true then
           (g.1).bind fun t =>
           (yo t.ue).bind fun u =>
           some (u,0)
     else
           none
         else
     if a.Kind=21 then
           if b.Kind≠3 then
      none
           else
      (yo b.de).bind fun h =>
      (at_ a.Kids 0).bind fun v =>
      (self.kf c b d v b.ue).bind fun w =>
      Xv w h.Kind h.Mc
     else
           if a.Kind=22 then
      (self.jn c b d a 3).bind fun x =>
      some ((sc.mk 3 a.Name),x.2)
           else
      if a.Kind=23 then
             (at_ a.Kids 0).bind fun y =>
             (self.Fl c b d y).bind fun i =>
             if i.2≠0 then
       none
             else
       (i.1).bind fun j =>
       (yo j.ue).bind fun k =>
       (at_ a.Kids 1).bind fun z =>
       (self.kf c b d z j.de).bind fun A =>
       Yv A k.Kind k.Mc
      else
             if a.Kind=24 then
       (at_ a.Kids 0).bind fun B =>
       (self.Fl c b d B).bind fun C =>
       (kp ).bind fun D =>
       some (D,C.2)
             else
       (Eo ).bind fun l =>
       (Eo ).bind fun m =>
       if (17:Int)≤a.Kind then
               none
       else
               if (13:Int)≤a.Kind then
        (kp ).bind fun n =>
        Es self a c b d l n.Kind n.Mc
               else
        Es self a c b d l m.Kind m.Mc
def Ml:Nat→lk
 | 0=>⟨fun _ _ _ _ _=>none,fun _ _ _ _ _=>none,fun _ _ _ _=>none,fun _ _ _ _=>none⟩
 | n+1=>⟨kf (Ml n),jn (Ml n),Fl (Ml n),Kj n (Ml n)⟩
end Go.Y
namespace Go.Y
open Go.vc Go.hd
def nw  (a:List (List (List UInt8×sc))):Option (List (List (List UInt8×sc))):=
 some a
def tx  (c:Ve) (d:Jb) (a:List (List (List UInt8×sc))):Option (List (List (List UInt8×sc))):=
 (i64 ((a.length:Int) - 1)).bind fun i33 =>
 (cut a 0 i33).bind fun b =>
 nw b
structure Nn where
 Hl:Ve→Jb→(List (List (List UInt8×sc)))→(List ie)→Option (Int×List (List (List UInt8×sc)))
 kn:Ve→Jb→(List (List (List UInt8×sc)))→ie→Option (Int×List (List (List UInt8×sc)))
def ns (self:Nn) (a:List ie) (b:Ve) (c:Jb):Nat→Int→(List (List (List UInt8×sc)))→Option (Int×List (List (List UInt8×sc)))
 | 0,_,_=>none
 | n+1,i74,d =>
 if i74<(a.length:Int) then
   (at_ a i74).bind fun f =>
   (self.kn b c d f).bind fun e =>
   if e.1≠0 then
  none
   else
  (i64 (i74+1)).bind fun i131 =>
  ns self a b c n i131 e.2
 else
   (tx b c d).bind fun g =>
   some (0,g)
def Pv (self:Nn) (a:List ie) (b:Ve) (c:Jb) (d:List (List (List UInt8×sc))):Option (Int×List (List (List UInt8×sc))):=
 ns self a b c (a.length+1) 0 d
def Hl (self:Nn) (a:Ve) (b:Jb) (c:List (List (List UInt8×sc))) (d:List ie):Option (Int×List (List (List UInt8×sc))):=
 (app c [[]]).bind fun e =>
 Pv self d a b e
def kn (fu:Nat) (self:Nn) (c:Ve) (d:Jb) (b:List (List (List UInt8×sc))) (a:ie):Option (Int×List (List (List UInt8×sc))):=
 if a.Kind=1 then
 ((Ml fu).Kj c d b a.X).bind fun g =>
 if g.2≠0 then
   none
 else
   (Wq fu c d b a.Name).bind fun i =>
   if i.2=true then
  none
   else
  (i64 ((b.length:Int) - 1)).bind fun i53 =>
  (at_ b i53).bind fun j =>
  some (0,(b.set i53.toNat (Ae j a.Name g.1)))
 else
 if a.Kind=2 then
   (Wq fu c d b a.Name).bind fun h =>
   if h.2=true then
  ((Ml fu).kf c d b a.X h.1).bind fun k =>
  some (k,b)
   else
  none
 else
   if a.Kind=3 then
  none
   else
  if a.Kind=4 then
     (kp ).bind fun l =>
     ((Ml fu).kf c d b a.X l).bind fun m =>
     if m≠0 then
   none
     else
   (self.Hl c d b a.Body).bind fun e =>
   if e.1≠0 then
       none
   else
       if a.Kind=4 then
    some (e.1,e.2)
       else
    none
  else
     if a.Kind=5 then
   none
     else
   if a.Kind=6 then
       none
   else
       if a.Kind=7 then
    none
       else
    if a.Kind=8 then
         ((Ml fu).Kj c d b a.X).bind fun f =>
         if f.2=0 then
     (rm f.1).bind fun n =>
     if n=true then
           some (f.2,b)
     else
           none
         else
     none
    else
         if a.Kind=9 then
     ((Ml fu).Kj c d b a.X).bind fun o =>
     some (o.2,b)
         else
     none
def Yt:Nat→Nn
 | 0=>⟨fun _ _ _ _=>none,fun _ _ _ _=>none⟩
 | n+1=>⟨Hl (Yt n),kn n (Yt n)⟩
def lp  (a:Bool):Option Int :=
 if a=true then
 none
 else
 some 0
def Fs (a:Jb):Option Int :=
 if a.Kind=3 then
 (rm a.de).bind fun b =>
 if b=true then
   if a.Kind≠4 then
  (rm a.ue).bind fun c =>
  lp (!c)
   else
  lp false
 else
   none
 else
 if a.Kind≠4 then
   (rm a.ue).bind fun d =>
   lp (!d)
 else
   lp false
def Gs (p_1:Ve) (b:Jb):Nat→Int→(List (List UInt8×Int))→Option Int
 | 0,_,_=>none
 | n+1,i46,c =>
 if i46<(b.Params.length:Int) then
   (at_ b.Params i46).bind fun a =>
   (i64 (((mf c a.Name).getD 0)+1)).bind fun i90 =>
   if (1:Int)<((mf (Ae c a.Name i90) a.Name).getD 0) then
  none
   else
  (sx p_1 a.ue).bind fun d =>
  if d≠0 then
     none
  else
     (i64 (i46+1)).bind fun i102 =>
     Gs p_1 b n i102 (Ae c a.Name i90)
 else
   Fs b
def Sw  (p_1:Ve) (a:Jb):Option Int :=
 if a.Kind=2 then
 none
 else
 if a.Kind=3 then
   Gs p_1 a (a.Params.length+1) 0 ([]:List (List UInt8×Int))
 else
   Fs a
def Hs (fu:Nat) (p_1:Ve) (a:Jb) (b:List (List (List UInt8×sc))):Option Int :=
 ((Yt fu).Hl p_1 a b a.Body).bind fun c =>
 some c.1
def Zv (i63:Int) (a:Int→(List (List (List UInt8×sc)))→Option Int) (b:List (List (List UInt8×sc))):Option Int :=
 (i64 (i63+1)).bind fun i202 =>
 a i202 b
def Hq (fu:Nat) (p_1:Ve) (a:Jb):Nat→Int→(List (List (List UInt8×sc)))→Option Int
 | 0,_,_=>none
 | n+1,i63,b =>
 if i63<(a.Params.length:Int) then
   (at_ a.Params i63).bind fun c =>
   (at_ b 0).bind fun d =>
   (yo c.ue).bind fun e =>
   Zv i63 (Hq fu p_1 a n) (b.set (0:Int).toNat (Ae d c.Name e))
 else
   Hs fu p_1 a b
def Tw (fu:Nat)  (p_1:Ve) (a:Jb):Option Int :=
 if a.Kind=1 then
 some 0
 else
 if a.Kind≠4 then
   Hq fu p_1 a (a.Params.length+1) 0 [([]:List (List UInt8×sc))]
 else
   Hs fu p_1 a [([]:List (List UInt8×sc))]
def ps (fu:Nat) (p_1:List Jb) (a:List (List UInt8×Jb)):Nat→Int→Option (Ve×yf)
 | 0,_=>none
 | n+1,i317 =>
 if i317<(p_1.length:Int) then
   (at_ p_1 i317).bind fun b =>
   (Tw fu (Ve.mk p_1 a) b).bind fun c =>
   if c≠0 then
  none
   else
  (i64 (i317+1)).bind fun d =>
  ps fu p_1 a n d
 else
   some ((Ve.mk p_1 a),(yf.mk 0 0))
def qs (fu:Nat) (p_1:List Jb) (a:List (List UInt8×Jb)):Nat→Int→Option (Ve×yf)
 | 0,_=>none
 | n+1,i258 =>
 if i258<(p_1.length:Int) then
   (at_ p_1 i258).bind fun b =>
   (Sw (Ve.mk p_1 a) b).bind fun c =>
   if c≠0 then
  none
   else
  (i64 (i258+1)).bind fun i298 =>
  qs fu p_1 a n i298
 else
   ps fu p_1 a (p_1.length+1) 0
def Fq (fu:Nat) (p_1:List Jb):Nat→Int→Int→(List (List UInt8×Jb))→Option (Ve×yf)
 | 0,_,_,_=>none
 | n+1,i90,i91,a =>
 if i91<(p_1.length:Int) then
   (at_ p_1 i91).bind fun d =>
   if (mf a d.Name).isSome=true then
  none
   else
  (at_ p_1 i91).bind fun b =>
  (at_ p_1 i91).bind fun c =>
  (at_ p_1 i91).bind fun e =>
  if e.Kind=4 then
     (i64 (i90+1)).bind fun i228 =>
     (i64 (i91+1)).bind fun i230 =>
     Fq fu p_1 n i228 i230 (Ae a b.Name c)
  else
     (i64 (i91+1)).bind fun i232 =>
     Fq fu p_1 n i90 i232 (Ae a b.Name c)
 else
   if i90=0 then
  none
   else
  qs fu p_1 a (p_1.length+1) 0
def Fw (fu:Nat)  (p_1:List Jb):Option (Ve×yf):=
 (Tt fu p_1).bind fun a =>
 if a.Th≠0 then
 none
 else
 Fq fu p_1 (p_1.length+1) 0 0 ([]:List (List UInt8×Jb))
end Go.Y
namespace Go.Y
open Go.vc Go.hd
structure On where
 Nl:(List (List UInt8))→(List (List UInt8))→(List (List UInt8))→Ab→Option (List (List UInt8)×List (List UInt8)×List (List UInt8))
def Is (self:On) (a:Ab):Nat→Int→(List (List UInt8))→(List (List UInt8))→(List (List UInt8))→Option (List (List UInt8)×List (List UInt8)×List (List UInt8))
 | 0,_,_,_,_=>none
 | n+1,i104,c,d,e =>
 if i104<(a.Kids.length:Int) then
   (at_ a.Kids i104).bind fun f =>
   (self.Nl c d e f).bind fun b =>
   (i64 (i104+1)).bind fun i170 =>
   Is self a n i170 b.1 b.2.1 b.2.2
 else
   some (c,d,e)
def Iq (self:On) (a:Ab) (b:List (List UInt8)) (c:List (List UInt8)) (d:List (List UInt8)):Option (List (List UInt8)×List (List UInt8)×List (List UInt8)):=
 Is self a (a.Kids.length+1) 0 c b d
def aw (self:On) (a:Ab) (b:List (List UInt8)) (c:List (List UInt8)) (d:List (List UInt8)):Option (List (List UInt8)×List (List UInt8)×List (List UInt8)):=
 Iq self a b d c
def bw (self:On) (a:List (List UInt8)) (b:Ab) (c:List (List UInt8)) (d:List (List UInt8)):Option (List (List UInt8)×List (List UInt8)×List (List UInt8)):=
 Iq self b c a d
def Nl (self:On) (b:List (List UInt8)) (c:List (List UInt8)) (d:List (List UInt8)) (a:Ab):Option (List (List UInt8)×List (List UInt8)×List (List UInt8)):=
 if a.Kind=19 then
 none
 else
 if a.Kind=22 then
   (app b [a.Name]).bind fun e =>
   aw self a c d e
 else
   if a.Kind=20 then
  (app d [a.Name]).bind fun f =>
  bw self b a c f
   else
  Iq self a c b d
def Uw:Nat→On
 | 0=>⟨fun _ _ _ _=>none⟩
 | n+1=>⟨Nl (Uw n)⟩
structure Hr where
 Il:(List (List UInt8))→(List (List UInt8))→(List (List UInt8))→(List ie)→Option (List (List UInt8)×List (List UInt8)×List (List UInt8))
def ss (i82:Int) (a:ie) (b:Int→(List (List UInt8))→(List (List UInt8))→(List (List UInt8))→Option (List (List UInt8)×List (List UInt8)×List (List UInt8))) (c:List (List UInt8)) (d:List (List UInt8)) (e:List (List UInt8)):Option (List (List UInt8)×List (List UInt8)×List (List UInt8)):=
 if a.Kind=3 then
 none
 else
 (i64 (i82+1)).bind fun i218 =>
 b i218 c d e
def gp (fu:Nat) (self:Hr) (c:List ie):Nat→Int→(List (List UInt8))→(List (List UInt8))→(List (List UInt8))→Option (List (List UInt8)×List (List UInt8)×List (List UInt8))
 | 0,_,_,_,_=>none
 | n+1,i82,e,f,g =>
 if i82<(c.length:Int) then
   (at_ c i82).bind fun a =>
   if a.Kind=7 then
  none
   else
  if a.Kind≠6 then
     ((Uw fu).Nl e f g a.X).bind fun b =>
     if a.Kind=3 then
   none
     else
   if a.Kind=4 then
       (self.Il b.1 b.2.1 b.2.2 a.Body).bind fun d =>
       ss i82 a (gp fu self c n) d.1 d.2.1 d.2.2
   else
       ss i82 a (gp fu self c n) b.1 b.2.1 b.2.2
  else
     none
 else
   some (e,f,g)
def Il (fu:Nat) (self:Hr) (b:List (List UInt8)) (c:List (List UInt8)) (d:List (List UInt8)) (a:List ie):Option (List (List UInt8)×List (List UInt8)×List (List UInt8)):=
 gp fu self a (a.length+1) 0 b c d
def Vw:Nat→Hr
 | 0=>⟨fun _ _ _ _=>none⟩
 | n+1=>⟨Il n (Vw n)⟩
def Gq (p_1:Ve) (a:List (List UInt8)×List (List UInt8)×List (List UInt8)) (d:List (List UInt8)) (e:List (List UInt8)) (f:(List (List UInt8))→(List (Option Jb))→(List (List UInt8))→(List (List UInt8))→Option Gg):Nat→Int→(List (List UInt8))→(List (Option Jb))→Option Gg
 | 0,_,_,_=>none
 | n+1,b,c,g =>
 if b<(a.1.length:Int) then
   (at_ a.1 b).bind fun h =>
   if c.contains h=true then
  (i64 (b+1)).bind fun i =>
  Gq p_1 a d e f n i c g
   else
  (app c [h]).bind fun j =>
  (app g [(mf p_1.named h)]).bind fun k =>
  (i64 (b+1)).bind fun l =>
  Gq p_1 a d e f n l j k
 else
   f c g d e
def Qv (p_1:Ve) (b:List (List UInt8)) (c:List (Option Jb)) (a:List (List UInt8)×List (List UInt8)×List (List UInt8)) (d:(List (List UInt8))→(List (Option Jb))→(List (List UInt8))→(List (List UInt8))→Option Gg) (g:List (List UInt8)) (h:List (List UInt8)) (e:List (List UInt8)) (f:List (List UInt8)):Option Gg :=
 Gq p_1 a e f d (a.1.length+1) 0 b c
def hp (fu:Nat) (p_1:Ve):Nat→(List (List UInt8))→(List (Option Jb))→(List (List UInt8))→(List (List UInt8))→Option Gg
 | 0,_,_,_,_=>none
 | n+1,e,b,c,d =>
 if (0:Int)<(b.length:Int) then
   (at_ b 0).bind fun f =>
   (cut b 1 b.length).bind fun g =>
   (f).bind fun h =>
   ((Vw fu).Il ([]:List (List UInt8)) ([]:List (List UInt8)) ([]:List (List UInt8)) h.Body).bind fun a =>
   (app c a.2.1).bind fun i =>
   (app d a.2.2).bind fun j =>
   Qv p_1 e g a (hp fu p_1 n) a.2.1 a.2.2 i j
 else
   some (Gg.mk ([]:List (List UInt8)) c d)
def Gw (fu:Nat)  (p_1:Ve) (a:Jb):Option Gg :=
 hp fu p_1 fu ([]:List (List UInt8)) ([(some a)]:List (Option Jb)) [] []
def Lv (i88:Int) (a:Int→(List (List UInt8×Gg))→Option (List Zi×yf)) (b:List (List UInt8×Gg)):Option (List Zi×yf):=
 (i64 (i88+1)).bind fun i223 =>
 a i223 b
def hs (a:Int) (b:List UInt8) (c:Int→(List UInt8)→(List UInt8)→Option (List Zi×yf)) (d:List UInt8):Option (List Zi×yf):=
 (i64 (a+1)).bind fun e =>
 c e b d
def js (f:List (List UInt8×Gg)) (g:Jb) (a:Int) (b:List UInt8) (c:Jb) (d:Int→(List UInt8)→(List UInt8)→Option (List Zi×yf)) (e:List UInt8):Option (List Zi×yf):=
 if (((mf f c.Name).getD (Gg.mk ([]:List (List UInt8)) ([]:List (List UInt8)) ([]:List (List UInt8)))).Yl).contains g.Name=true then
 if b≠[] then
   none
 else
   hs a e d c.Name
 else
 hs a e d b
def Ym (p_1:List Jb) (b:List (List UInt8×Gg)) (e:Int) (f:List Zi) (a:Jb) (g:Int→(List Zi)→Option (List Zi×yf)):Nat→Int→(List UInt8)→(List UInt8)→Option (List Zi×yf)
 | 0,_,_,_=>none
 | n+1,c,h,i =>
 if c<(p_1.length:Int) then
   (at_ p_1 c).bind fun d =>
   if d.Kind≠4 then
  (i64 (c+1)).bind fun j =>
  Ym p_1 b e f a g n j h i
   else
  if (((mf b d.Name).getD (Gg.mk ([]:List (List UInt8)) ([]:List (List UInt8)) ([]:List (List UInt8)))).Xl).contains a.Name=true then
     if h≠[] then
   none
     else
   js b a c i d (Ym p_1 b e f a g n) d.Name
  else
     js b a c i d (Ym p_1 b e f a g n) h
 else
   (app f [(Zi.mk a.Name h i)]).bind fun k =>
   (i64 (e+1)).bind fun l =>
   g l k
def Zm (p_1:List Jb) (b:List (List UInt8×Gg)):Nat→Int→(List Zi)→Option (List Zi×yf)
 | 0,_,_=>none
 | n+1,a,c =>
 if a<(p_1.length:Int) then
   (at_ p_1 a).bind fun d =>
   if d.Kind≠1 then
  (i64 (a+1)).bind fun e =>
  Zm p_1 b n e c
   else
  Ym p_1 b a c d (Zm p_1 b n) (p_1.length+1) 0 [] []
 else
   some (c,(yf.mk 0 0))
def fp (fu:Nat) (p_1:List Jb) (a:Ve×yf):Nat→Int→(List (List UInt8×Gg))→Option (List Zi×yf)
 | 0,_,_=>none
 | n+1,i88,b =>
 if i88<(p_1.length:Int) then
   (at_ p_1 i88).bind fun c =>
   if c.Kind=4 then
  (at_ p_1 i88).bind fun d =>
  (at_ p_1 i88).bind fun e =>
  (Gw fu a.1 e).bind fun f =>
  Lv i88 (fp fu p_1 a n) (Ae b d.Name f)
   else
  (i64 (i88+1)).bind fun i225 =>
  fp fu p_1 a n i225 b
 else
   Zm p_1 b (p_1.length+1) 0 []
def ow (fu:Nat)  (p_1:List Jb):Option (List Zi×yf):=
 (Fw fu p_1).bind fun a =>
 if a.2.Th≠0 then
 none
 else
 fp fu p_1 a (p_1.length+1) 0 ([]:List (List UInt8×Gg))
def Hw (fu:Nat)  (p_1:List Jb):Option yf :=
 (ow fu p_1).bind fun a =>
 some a.2
end Go.Y
namespace Go.Y
open Go.vc Go.hd
def Ho  (p_1:jh) (a:sc):Option Int :=
 if a.Kind=3 then
 none
 else
 some a.Kind
def ux  (b:List (List UInt8×Int)) (c:List (List UInt8×Int)) (d:List (List UInt8×Jb)) (a:sc):Option Int :=
 if a.Kind=3 then
 none
 else
 some a.Kind
def ej  (l:jh) (b:Int) (c:Int) (d:List Int) (e:Int) (f:Int) (g:List Jc) (h:List (List (List UInt8×Int))) (i:Int) (j:Int) (k:Int):Option (Int×Int×Int×List Int×Int×Int×List Jc×List (List (List UInt8×Int))):=
 (app g [(Jc.mk i j k)]).bind fun a =>
 (i64 ((a.length:Int) - 1)).bind fun i44 =>
 some (i44,b,c,d,e,f,a,h)
def su  (b:jh) (c:Int) (d:Int) (e:List Int) (f:Int) (g:Int) (a:List Jc) (h:List (List (List UInt8×Int))):Option Int :=
 some (a.length:Int)
def Zt  (l:jh) (c:Int) (d:Int) (e:List Int) (f:Int) (g:Int) (h:List Jc) (a:List (List (List UInt8×Int))) (i:List UInt8) (j:Int):Option (Int×Int×Int×List Int×Int×Int×List Jc×List (List (List UInt8×Int))):=
 (app e [j]).bind fun b =>
 (i64 ((b.length:Int) - 1)).bind fun i44 =>
 (i64 ((a.length:Int) - 1)).bind fun i46 =>
 (at_ a i46).bind fun k =>
 some (i44,c,d,b,f,g,h,(a.set i46.toNat (Ae k i i44)))
def Xs (a:List UInt8) (b:List (List (List UInt8×Int))):Nat→Int→Option Int
 | 0,_=>none
 | n+1,i45 =>
 if (0:Int)≤i45 then
   (at_ b i45).bind fun c =>
   if (mf c a).isSome=true then
  some ((mf c a).getD 0)
   else
  (i64 (i45 - 1)).bind fun i77 =>
  Xs a b n i77
 else
   none
def tu (fu:Nat)  (c:jh) (d:Int) (e:Int) (f:List Int) (g:Int) (h:Int) (i:List Jc) (a:List (List (List UInt8×Int))) (b:List UInt8):Option Int :=
 (i64 ((a.length:Int) - 1)).bind fun i28 =>
 Xs b a fu i28
structure Qr where
 Nk:jh→Int→Int→(List Int)→Int→Int→(List Jc)→(List (List (List UInt8×Int)))→Ab→Option (Int×Int×Int×List Int×Int×Int×List Jc×List (List (List UInt8×Int)))
def pw (a:Int×Int×Int×List Int×Int×Int×List Jc×List (List (List UInt8×Int))) (i276:Int):Option (Int×Int×Int×List Int×Int×Int×List Jc×List (List (List UInt8×Int))):=
 some (i276,a.2.1,a.2.2.1,a.2.2.2.1,a.2.2.2.2.1,a.2.2.2.2.2.1,a.2.2.2.2.2.2.1,a.2.2.2.2.2.2.2)
def qw (a:Int×Int×Int×List Int×Int×Int×List Jc×List (List (List UInt8×Int))) (b:Int):Option (Int×Int×Int×List Int×Int×Int×List Jc×List (List (List UInt8×Int))):=
 some (b,a.2.1,a.2.2.1,a.2.2.2.1,a.2.2.2.2.1,a.2.2.2.2.2.1,a.2.2.2.2.2.2.1,a.2.2.2.2.2.2.2)
def Ys (fu:Nat) (self:Qr) (a:Ab) (b:jh):Nat→Int→Int→Int→Int→Int→(List Int)→(List Jc)→(List (List (List UInt8×Int)))→(List Int)→Option (Int×Int×Int×List Int×Int×Int×List Jc×List (List (List UInt8×Int)))
 | 0,_,_,_,_,_,_,_,_,_=>none
 | n+1,i76,i77,i78,i79,i80,d,e,f,q =>
 if i76<(a.Kids.length:Int) then
   (at_ a.Kids i76).bind fun t =>
   (self.Nk b i77 i78 d i79 i80 e f t).bind fun g =>
   (app q [g.1]).bind fun u =>
   (i64 (i76+1)).bind fun i165 =>
   Ys fu self a b n i165 g.2.1 g.2.2.1 g.2.2.2.2.1 g.2.2.2.2.2.1 g.2.2.2.1 g.2.2.2.2.2.2.1 g.2.2.2.2.2.2.2 u
 else
   if a.Kind=1 then
  (ej b i77 i78 d i79 i80 e f 1 0 a.N).bind fun k =>
  some (1,k.2.1,k.2.2.1,k.2.2.2.1,k.2.2.2.2.1,k.2.2.2.2.2.1,k.2.2.2.2.2.2.1,k.2.2.2.2.2.2.2)
   else
  if a.Kind=2 then
     (ej b i77 i78 d i79 i80 e f 2 a.N 0).bind fun l =>
     some (2,l.2.1,l.2.2.1,l.2.2.2.1,l.2.2.2.2.1,l.2.2.2.2.2.1,l.2.2.2.2.2.2.1,l.2.2.2.2.2.2.2)
  else
     if a.Kind=3 then
   (tu fu b i77 i78 d i79 i80 e f a.Name).bind fun r =>
   (ej b i77 i78 d i79 i80 e f 3 r 0).bind fun h =>
   (at_ h.2.2.2.1 r).bind fun v =>
   some (v,h.2.1,h.2.2.1,h.2.2.2.1,h.2.2.2.2.1,h.2.2.2.2.2.1,h.2.2.2.2.2.2.1,h.2.2.2.2.2.2.2)
     else
   if a.Kind=4 then
       (ej b i77 i78 d i79 i80 e f 6 0 0).bind fun m =>
       some (1,m.2.1,m.2.2.1,m.2.2.2.1,m.2.2.2.2.1,m.2.2.2.2.2.1,m.2.2.2.2.2.2.1,m.2.2.2.2.2.2.2)
   else
       if a.Kind=5 then
    none
       else
    if (6:Int)≤a.Kind then
         if a.Kind≤18 then
     (i64 (8+a.Kind)).bind fun i239 =>
     (i64 (i239 - 6)).bind fun i241 =>
     (ej b i77 i78 d i79 i80 e f i241 0 0).bind fun c =>
     if a.Kind≤10 then
           some (1,c.2.1,c.2.2.1,c.2.2.2.1,c.2.2.2.2.1,c.2.2.2.2.2.1,c.2.2.2.2.2.2.1,c.2.2.2.2.2.2.2)
     else
           some (2,c.2.1,c.2.2.1,c.2.2.2.1,c.2.2.2.2.1,c.2.2.2.2.2.1,c.2.2.2.2.2.2.1,c.2.2.2.2.2.2.2)
         else
     if a.Kind=19 then
           none
     else
           if a.Kind=20 then
      (ej b i77 i78 d i79 i80 e f 27 ((mf b.boxes a.Name).getD 0) 0).bind fun w =>
      ((mf b.defs a.Name)).bind fun x =>
      (Ho b x.ue).bind fun y =>
      pw w y
           else
      if a.Kind=22 then
             (ej b i77 i78 d i79 i80 e f 29 ((mf b.Sk a.Name).getD 0) 0).bind fun o =>
             (i64 (10+((mf b.Sk a.Name).getD 0))).bind fun z =>
             some (z,o.2.1,o.2.2.1,o.2.2.2.1,o.2.2.2.2.1,o.2.2.2.2.2.1,o.2.2.2.2.2.2.1,o.2.2.2.2.2.2.2)
      else
             if a.Kind=21 then
       (ej b i77 i78 d i79 i80 e f 31 0 0).bind fun i =>
       some (i.2.2.2.2.2.1,i.2.1,i.2.2.1,i.2.2.2.1,i.2.2.2.2.1,i.2.2.2.2.2.1,i.2.2.2.2.2.2.1,i.2.2.2.2.2.2.2)
             else
       if a.Kind=24 then
               (ej b i77 i78 d i79 i80 e f 32 0 0).bind fun p =>
               some (2,p.2.1,p.2.2.1,p.2.2.2.1,p.2.2.2.2.1,p.2.2.2.2.2.1,p.2.2.2.2.2.2.1,p.2.2.2.2.2.2.2)
       else
               (ej b i77 i78 d i79 i80 e f 30 0 0).bind fun j =>
               (at_ q 0).bind fun A =>
               (i64 (A - 10)).bind fun B =>
               (Gr b.Sk B).bind fun s =>
               if s.isSome=true then
        ((mf b.defs ((s.getD ([],0)).1))).bind fun C =>
        (Ho b C.ue).bind fun D =>
        qw j D
               else
        some (0,j.2.1,j.2.2.1,j.2.2.2.1,j.2.2.2.2.1,j.2.2.2.2.2.1,j.2.2.2.2.2.2.1,j.2.2.2.2.2.2.2)
    else
         none
def Nk (fu:Nat) (self:Qr) (b:jh) (c:Int) (d:Int) (e:List Int) (f:Int) (g:Int) (h:List Jc) (i:List (List (List UInt8×Int))) (a:Ab):Option (Int×Int×Int×List Int×Int×Int×List Jc×List (List (List UInt8×Int))):=
 Ys fu self a b (a.Kids.length+1) 0 c d f g e h i []
def uu:Nat→Qr
 | 0=>⟨fun _ _ _ _ _ _ _ _ _=>none⟩
 | n+1=>⟨Nk n (uu n)⟩
structure Vo where
 Ql:jh→Int→Int→(List Int)→Int→Int→(List Jc)→(List (List (List UInt8×Int)))→(List ie)→Option (Int×Int×List Int×Int×Int×List Jc×List (List (List UInt8×Int)))
 pn:jh→Int→Int→(List Int)→Int→Int→(List Jc)→(List (List (List UInt8×Int)))→ie→Option (Int×Int×List Int×Int×Int×List Jc×List (List (List UInt8×Int)))
def Zs (self:Vo) (b:List ie) (d:jh):Nat→Int→Int→Int→Int→Int→(List Int)→(List Jc)→(List (List (List UInt8×Int)))→Option (Int×Int×List Int×Int×Int×List Jc×List (List (List UInt8×Int)))
 | 0,_,_,_,_,_,_,_,_=>none
 | n+1,i81,i82,i83,i84,i85,e,f,c =>
 if i81<(b.length:Int) then
   (at_ b i81).bind fun g =>
   (self.pn d i82 i83 e i84 i85 f c g).bind fun a =>
   (i64 (i81+1)).bind fun i163 =>
   Zs self b d n i163 a.1 a.2.1 a.2.2.2.1 a.2.2.2.2.1 a.2.2.1 a.2.2.2.2.2.1 a.2.2.2.2.2.2
 else
   (i64 ((c.length:Int) - 1)).bind fun i165 =>
   (cut c 0 i165).bind fun h =>
   some (i82,i83,e,i84,i85,f,h)
def Ql (self:Vo) (b:jh) (c:Int) (d:Int) (e:List Int) (f:Int) (g:Int) (h:List Jc) (i:List (List (List UInt8×Int))) (a:List ie):Option (Int×Int×List Int×Int×Int×List Jc×List (List (List UInt8×Int))):=
 (app i [[]]).bind fun j =>
 Zs self a b (a.length+1) 0 c d f g e h j
def sw (a:Int×Int×Int×List Int×Int×Int×List Jc×List (List (List UInt8×Int))) (b:List Jc):Option (Int×Int×List Int×Int×Int×List Jc×List (List (List UInt8×Int))):=
 some (a.2.1,a.2.2.1,a.2.2.2.1,a.2.2.2.2.1,a.2.2.2.2.2.1,b,a.2.2.2.2.2.2.2)
def pn (fu:Nat) (self:Vo) (c:jh) (m:Int) (n:Int) (o:List Int) (p:Int) (q:Int) (r:List Jc) (s:List (List (List UInt8×Int))) (b:ie):Option (Int×Int×List Int×Int×Int×List Jc×List (List (List UInt8×Int))):=
 if b.Kind=3 then
 none
 else
 if b.Kind=4 then
   (su c m n o p q r s).bind fun u =>
   ((uu fu).Nk c m n o p q r s b.X).bind fun g =>
   (ej c g.2.1 g.2.2.1 g.2.2.2.1 g.2.2.2.2.1 g.2.2.2.2.2.1 g.2.2.2.2.2.2.1 g.2.2.2.2.2.2.2 22 0 0).bind fun e =>
   (self.Ql c e.2.1 e.2.2.1 e.2.2.2.1 e.2.2.2.2.1 e.2.2.2.2.2.1 e.2.2.2.2.2.2.1 e.2.2.2.2.2.2.2 b.Body).bind fun h =>
   (ej c h.1 h.2.1 h.2.2.1 h.2.2.2.1 h.2.2.2.2.1 h.2.2.2.2.2.1 h.2.2.2.2.2.2 21 u 0).bind fun d =>
   (su c d.2.1 d.2.2.1 d.2.2.2.1 d.2.2.2.2.1 d.2.2.2.2.2.1 d.2.2.2.2.2.2.1 d.2.2.2.2.2.2.2).bind fun v =>
   (at_ d.2.2.2.2.2.2.1 e.1).bind fun t =>
   sw d (d.2.2.2.2.2.2.1.set e.1.toNat (Jc.mk t.Op v t.N))
 else
   if b.Kind=6 then
  none
   else
  ((uu fu).Nk c m n o p q r s b.X).bind fun a =>
  if b.Kind=1 then
     (Zt c a.2.1 a.2.2.1 a.2.2.2.1 a.2.2.2.2.1 a.2.2.2.2.2.1 a.2.2.2.2.2.2.1 a.2.2.2.2.2.2.2 b.Name a.1).bind fun f =>
     (ej c f.2.1 f.2.2.1 f.2.2.2.1 f.2.2.2.2.1 f.2.2.2.2.2.1 f.2.2.2.2.2.2.1 f.2.2.2.2.2.2.2 4 f.1 0).bind fun i =>
     some (i.2.1,i.2.2.1,i.2.2.2.1,i.2.2.2.2.1,i.2.2.2.2.2.1,i.2.2.2.2.2.2.1,i.2.2.2.2.2.2.2)
  else
     if b.Kind=2 then
   (tu fu c a.2.1 a.2.2.1 a.2.2.2.1 a.2.2.2.2.1 a.2.2.2.2.2.1 a.2.2.2.2.2.2.1 a.2.2.2.2.2.2.2 b.Name).bind fun w =>
   (ej c a.2.1 a.2.2.1 a.2.2.2.1 a.2.2.2.2.1 a.2.2.2.2.2.1 a.2.2.2.2.2.2.1 a.2.2.2.2.2.2.2 4 w 0).bind fun j =>
   some (j.2.1,j.2.2.1,j.2.2.2.1,j.2.2.2.2.1,j.2.2.2.2.2.1,j.2.2.2.2.2.2.1,j.2.2.2.2.2.2.2)
     else
   if b.Kind=5 then
       none
   else
       if b.Kind=7 then
    none
       else
    if b.Kind=8 then
         (ej c a.2.1 a.2.2.1 a.2.2.2.1 a.2.2.2.2.1 a.2.2.2.2.2.1 a.2.2.2.2.2.2.1 a.2.2.2.2.2.2.2 28 0 0).bind fun k =>
         some (k.2.1,k.2.2.1,k.2.2.2.1,k.2.2.2.2.1,k.2.2.2.2.2.1,k.2.2.2.2.2.2.1,k.2.2.2.2.2.2.2)
    else
         if b.Kind=9 then
     (ej c a.2.1 a.2.2.1 a.2.2.2.1 a.2.2.2.2.1 a.2.2.2.2.2.1 a.2.2.2.2.2.2.1 a.2.2.2.2.2.2.2 5 0 0).bind fun l =>
     some (l.2.1,l.2.2.1,l.2.2.2.1,l.2.2.2.2.1,l.2.2.2.2.2.1,l.2.2.2.2.2.2.1,l.2.2.2.2.2.2.2)
         else
     none
def vu:Nat→Vo
 | 0=>⟨fun _ _ _ _ _ _ _ _ _=>none,fun _ _ _ _ _ _ _ _ _=>none⟩
 | n+1=>⟨Ql (vu n),pn n (vu n)⟩
def bt (fu:Nat) (p_1:jh) (c:Jb) (d:List (List (List UInt8×Int))) (i40:Int) (i41:Int) (i42:Int) (e:List Int) (f:List Jc) (i187:Int):Option ff :=
 ((vu fu).Ql p_1 i40 i41 e i42 i187 f d c.Body).bind fun a =>
 if c.Kind≠2 then
 (ej p_1 a.1 a.2.1 a.2.2.1 a.2.2.2.1 a.2.2.2.2.1 a.2.2.2.2.2.1 a.2.2.2.2.2.2 25 0 0).bind fun b =>
 some (ff.mk b.2.1 b.2.2.1 b.2.2.2.1 b.2.2.2.2.1 b.2.2.2.2.2.1 b.2.2.2.2.2.2.1)
 else
 none
def ct (fu:Nat) (p_1:jh) (a:Jb) (b:List (List (List UInt8×Int))) (i40:Int) (i41:Int) (i42:Int) (i43:Int) (c:List Int) (d:List Jc):Option ff :=
 if a.Kind=3 then
 (Ho p_1 a.de).bind fun e =>
 bt fu p_1 a b i40 i41 i42 c d e
 else
 bt fu p_1 a b i40 i41 i42 c d i43
def tw (i87:Int) (a:Int→(List (List (List UInt8×Int)))→Int→Int→Int→Int→(List Int)→(List Jc)→Option ff) (b:List (List (List UInt8×Int))) (i150:Int) (i151:Int) (i152:Int) (i153:Int) (c:List Int) (d:List Jc):Option ff :=
 (i64 (i87+1)).bind fun i181 =>
 a i181 b i150 i151 i152 i153 c d
def Nq (fu:Nat) (p_1:jh) (b:Jb):Nat→Int→(List (List (List UInt8×Int)))→Int→Int→Int→Int→(List Int)→(List Jc)→Option ff
 | 0,_,_,_,_,_,_,_,_=>none
 | n+1,i87,c,i92,i93,i94,i95,d,e =>
 if i87<(b.Params.length:Int) then
   (at_ b.Params i87).bind fun f =>
   (Ho p_1 f.ue).bind fun g =>
   (Zt p_1 i92 i93 d i94 i95 e c f.Name g).bind fun a =>
   tw i87 (Nq fu p_1 b n) a.2.2.2.2.2.2.2 a.2.1 a.2.2.1 a.2.2.2.2.1 a.2.2.2.2.2.1 a.2.2.2.1 a.2.2.2.2.2.2.1
 else
   ct fu p_1 b c i92 i93 i94 i95 d e
def uw (fu:Nat) (p_1:jh) (a:Jb) (i53:Int):Option ff :=
 Nq fu p_1 a (a.Params.length+1) 0 [([]:List (List UInt8×Int))] a.Kind (a.Params.length:Int) i53 0 [] []
def vx (fu:Nat)  (p_1:jh) (a:Jb):Option ff :=
 if a.Kind≠4 then
 (Ho p_1 a.ue).bind fun b =>
 uw fu p_1 a b
 else
 ct fu p_1 a [([]:List (List UInt8×Int))] a.Kind 0 0 0 [] []
def Mv (i162:Int) (a:List (List UInt8×Int)) (b:List (List UInt8×Jb)) (c:Jb) (d:Jb) (e:List (List UInt8×Int)) (f:Int→(List (List UInt8×Int))→(List (List UInt8×Int))→(List (List UInt8×Jb))→(List Yj)→Option (Sc×yf)) (g:List Yj):Option (Sc×yf):=
 (i64 (i162+1)).bind fun h =>
 f h e a (Ae b c.Name d) g
def Nv (p_1:List Jb) (i162:Int) (a:List (List UInt8×Int)) (b:List (List UInt8×Jb)) (f:List Yj) (c:Jb) (d:Jb) (g:Int→(List (List UInt8×Int))→(List (List UInt8×Int))→(List (List UInt8×Jb))→(List Yj)→Option (Sc×yf)) (e:List (List UInt8×Int)):Option (Sc×yf):=
 (at_ p_1 i162).bind fun h =>
 (at_ p_1 i162).bind fun i =>
 (ux e a (Ae b c.Name d) h.ue).bind fun r417 =>
 (app f [(Yj.mk r417 i.fh)]).bind fun j =>
 Mv i162 a b c d e g j
def Ov (i162:Int) (a:List (List UInt8×Int)) (b:List (List UInt8×Jb)) (c:List Yj) (d:Jb) (e:Jb) (f:Int→(List (List UInt8×Int))→(List (List UInt8×Int))→(List (List UInt8×Jb))→(List Yj)→Option (Sc×yf)) (g:List (List UInt8×Int)):Option (Sc×yf):=
 (i64 (i162+1)).bind fun h =>
 f h a g (Ae b d.Name e) c
def Bq (fu:Nat) (p_1:List Jb) (b:List (List UInt8×Int)) (c:List (List UInt8×Int)) (d:List (List UInt8×Jb)) (e:List Yj):Nat→Int→(List ff)→Option (Sc×yf)
 | 0,_,_=>none
 | n+1,a,f =>
 if a<(p_1.length:Int) then
   (at_ p_1 a).bind fun h =>
   if h.Kind=1 then
  (i64 (a+1)).bind fun i =>
  Bq fu p_1 b c d e n i f
   else
  (at_ p_1 a).bind fun j =>
  (vx fu (jh.mk b c d) j).bind fun g =>
  if (200:Int)<(g.od.length:Int) then
     none
  else
     if (4000:Int)<(g.Code.length:Int) then
   none
     else
   (app f [g]).bind fun k =>
   (i64 (a+1)).bind fun l =>
   Bq fu p_1 b c d e n l k
 else
   some ((Sc.mk e f),(yf.mk 0 0))
def an (fu:Nat) (p_1:List Jb):Nat→Int→(List (List UInt8×Int))→(List (List UInt8×Int))→(List (List UInt8×Jb))→(List Yj)→Option (Sc×yf)
 | 0,_,_,_,_,_=>none
 | n+1,i162,a,b,c,d =>
 if i162<(p_1.length:Int) then
   (at_ p_1 i162).bind fun e =>
   (at_ p_1 i162).bind fun f =>
   (at_ p_1 i162).bind fun g =>
   if g.Kind=1 then
  (at_ p_1 i162).bind fun h =>
  Nv p_1 i162 b c d e f (an fu p_1 n) (Ae a h.Name (a.length:Int))
   else
  (at_ p_1 i162).bind fun i =>
  Ov i162 a c d e f (an fu p_1 n) (Ae b i.Name (b.length:Int))
 else
   Bq fu p_1 a b c d (p_1.length+1) 0 []
def vw (fu:Nat)  (p_1:List Jb):Option (Sc×yf):=
 (Hw fu p_1).bind fun a =>
 if a.Th≠0 then
 none
 else
 an fu p_1 (p_1.length+1) 0 ([]:List (List UInt8×Int)) ([]:List (List UInt8×Int)) ([]:List (List UInt8×Jb)) []
end Go.Y
namespace Go.Y
open Go.vc Go.hd
def qn  (p_1:Int):Option Bool :=
 if p_1=1 then
 some true
 else
 some (decide (p_1=2))
def Iu  (p_1:Ee) (a:Int) (c:Int):Option Bool :=
 if (0:Int)≤a then
 (p_1.m).bind fun b =>
 if a<(b.Kd.length:Int) then
   (at_ b.Kd a).bind fun d =>
   some (decide (d.Kind=c))
 else
   none
 else
 none
def au  (p_1:Ee) (a:Int):Option Bool :=
 if (10:Int)≤a then
 (i64 (a - 10)).bind fun i7 =>
 (Iu p_1 i7 3).bind fun b =>
 some b
 else
 none
def dn  (Eh:Bool):Option Int :=
 if Eh=true then
 some 0
 else
 none
def dt (p_1:Ee) (b:ff) (a:Jc) (bf:Bool):Option Int :=
 if bf=true then
 if (0:Int)≤a.A then
   dn (decide (a.A<(b.Code.length:Int)))
 else
   none
 else
 if a.Op=23 then
   none
 else
   if a.Op=29 then
  (Iu p_1 a.A 3).bind fun c =>
  dn c
   else
  if a.Op=26 then
     none
  else
     if a.Op=27 then
   if (0:Int)≤a.A then
       (p_1.m).bind fun d =>
       dn (decide (a.A<(d.Re.length:Int)))
   else
       none
     else
   if a.Op<1 then
       none
   else
       if (32:Int)<a.Op then
    none
       else
    dn true
def et (p_1:Ee) (b:ff) (a:Jc) (Af:Bool):Option Int :=
 if Af=true then
 if (0:Int)≤a.A then
   dn (decide (a.A<(b.od.length:Int)))
 else
   none
 else
 if a.Op=21 then
   dt p_1 b a (decide (a.Op=21))
 else
   dt p_1 b a (decide (a.Op=22))
def wx  (p_1:Ee) (b:ff) (a:Jc):Option Int :=
 if a.Op=2 then
 if a.A=0 then
   none
 else
   dn (decide (a.A=1))
 else
 if a.Op=3 then
   et p_1 b a (decide (a.Op=3))
 else
   et p_1 b a (decide (a.Op=4))
def bu (p_1:List Int) (a:Int→Option Bool):Nat→Int→Option Int
 | 0,_=>none
 | n+1,i20 =>
 if i20<(p_1.length:Int) then
   (at_ p_1 i20).bind fun b =>
   (a b).bind fun c =>
   if c=true then
  some i20
   else
  (i64 (i20+1)).bind fun i49 =>
  bu p_1 a n i49
 else
   some (-1)
def my  (p_1:List Int) (a:Int→Option Bool):Option Int :=
 bu p_1 a (p_1.length+1) 0
def Yu  (p_1:List Int) (a:Int→Option Bool):Option Bool :=
 (my p_1 a).bind fun b =>
 some (decide ((0:Int)≤b))
def cu (p_1:List Jc) (a:Jc→Option Bool):Nat→Int→Option Int
 | 0,_=>none
 | n+1,i20 =>
 if i20<(p_1.length:Int) then
   (at_ p_1 i20).bind fun b =>
   (a b).bind fun c =>
   if c=true then
  some i20
   else
  (i64 (i20+1)).bind fun i49 =>
  cu p_1 a n i49
 else
   some (-1)
def ny  (p_1:List Jc) (a:Jc→Option Bool):Option Int :=
 cu p_1 a (p_1.length+1) 0
def oy  (p_1:List Jc) (a:Jc→Option Bool):Option Bool :=
 (ny p_1 a).bind fun b =>
 some (decide ((0:Int)≤b))
def yx  (p_1:Int) (a:Option Ee):Option Bool :=
 (qn p_1).bind fun b =>
 if b=true then
 some false
 else
 (a).bind fun c =>
 (au c p_1).bind fun d =>
 some (!d)
def Ap (p_1:Ee) (a:ff) (b:Bool):Option Int :=
 if b=true then
 none
 else
 (Yu a.od (fun c=>yx c (some p_1))).bind fun d =>
 if d=true then
   none
 else
   some 0
def At (p_1:Ee) (a:ff) (b:Bool):Option Int :=
 if b=true then
 none
 else
 if (a.Code.length:Int)<1 then
   none
 else
   if (4000:Int)<(a.Code.length:Int) then
  none
   else
  if a.Kind≠4 then
     (qn a.Result).bind fun c =>
     if c=true then
   if a.Kind=3 then
       (qn a.de).bind fun d =>
       Ap p_1 a (!d)
   else
       Ap p_1 a false
     else
   none
  else
     if a.Kind=3 then
   (qn a.de).bind fun e =>
   Ap p_1 a (!e)
     else
   Ap p_1 a false
def Bt (p_1:Ee) (a:ff) (Eh:Bool):Option Int :=
 if Eh=true then
 none
 else
 if (200:Int)<(a.od.length:Int) then
   none
 else
   if a.Params<0 then
  none
   else
  if (6:Int)<a.Params then
     none
  else
     if (a.od.length:Int)<a.Params then
   none
     else
   if a.Kind=4 then
       At p_1 a (decide ((0:Int)<a.Params))
   else
       At p_1 a false
def Qx  (p_1:Ee) (a:ff):Option Int :=
 if a.Kind≠2 then
 if a.Kind≠3 then
   Bt p_1 a (decide (a.Kind≠4))
 else
   Bt p_1 a false
 else
 none
def Ct (p_1:Ee) (i144:Int) (i145:Int) (a:ff) (b:Int→Int→Option Qh):Nat→Int→Option Qh
 | 0,_=>none
 | n+1,i249 =>
 if i249<(a.Code.length:Int) then
   (at_ a.Code i249).bind fun c =>
   (wx p_1 a c).bind fun d =>
   if d≠0 then
  none
   else
  (i64 (i249+1)).bind fun i281 =>
  Ct p_1 i144 i145 a b n i281
 else
   if a.Kind=4 then
  (i64 (i144+1)).bind fun i284 =>
  (i64 (i145+1)).bind fun i286 =>
  b i284 i286
   else
  (i64 (i145+1)).bind fun i288 =>
  b i144 i288
def Tq (p_1:Ee) (a:Sc):Nat→Int→Int→Option Qh
 | 0,_,_=>none
 | n+1,i144,i145 =>
 if i145<(a.Kd.length:Int) then
   (at_ a.Kd i145).bind fun b =>
   (Qx p_1 b).bind fun c =>
   if c≠0 then
  none
   else
  Ct p_1 i144 i145 b (Tq p_1 a n) (b.Code.length+1) 0
 else
   if i144=0 then
  none
   else
  some (Qh.mk 0 0 0)
def Dt (p_1:Ee) (a:Sc):Nat→Int→Option Qh
 | 0,_=>none
 | n+1,i39 =>
 if i39<(a.Re.length:Int) then
   (at_ a.Re i39).bind fun b =>
   (qn b.ue).bind fun c =>
   if c=true then
  if b.fh<1 then
     none
  else
     if (20:Int)<b.fh then
   none
     else
   (i64 (i39+1)).bind fun i74 =>
   Dt p_1 a n i74
   else
  none
 else
   Tq p_1 a (a.Kd.length+1) 0 0
def Rx  (p_1:Ee):Option Qh :=
 (p_1.m).bind fun a =>
 if (30:Int)<(a.Re.length:Int) then
 none
 else
 if (30:Int)<(a.Kd.length:Int) then
   none
 else
   Dt p_1 a (a.Re.length+1) 0
end Go.Y
namespace Go.Y
open Go.vc Go.hd
def cw  (a:List Int) (b:List Bool):Option Dd :=
 some (Dd.mk a b)
def Ww  (p_1:Dd):Option Dd :=
 (small p_1.stack).bind fun a =>
 (small p_1.has).bind fun b =>
 cw p_1.stack p_1.has
def Rv  (a:List Int) (b:List Bool):Option Dd :=
 some (Dd.mk a b)
def Iw  (p_1:Dd):Option Dd :=
 (small p_1.stack).bind fun a =>
 (small p_1.has).bind fun b =>
 Rv p_1.stack p_1.has
def xw (p_1:List Int):Nat→Option Bool
 | 0=>none
 | n+1 =>
 if (0:Int)<(p_1.length:Int) then
   none
 else
   some true
def Ax  (p_1:List Int) (a:List Int):Option Bool :=
 if (p_1.length:Int)≠(a.length:Int) then
 none
 else
 xw p_1 (p_1.length+1)
def uk  (h:Ee) (i:ff) (b:List (Int×Dd)) (c:List Int) (d:List Int) (e:List Bool) (f:Int) (g:Int):Option (List (Int×Dd)×List Int×List Int×List Bool×Int):=
 (app d [g]).bind fun a =>
 if (300:Int)<(a.length:Int) then
 none
 else
 some (b,c,a,e,f)
def Ko  (h:Ee) (i:ff) (b:List (Int×Dd)) (c:List Int) (a:List Int) (d:List Bool) (e:Int):Option (Int×List (Int×Dd)×List Int×List Int×List Bool×Int):=
 if (a.length:Int)=0 then
 none
 else
 (i64 ((a.length:Int) - 1)).bind fun i49 =>
 (at_ a i49).bind fun f =>
 (i64 ((a.length:Int) - 1)).bind fun i65 =>
 (cut a 0 i65).bind fun g =>
 some (f,b,c,g,d,e)
def Et (b:Ee) (c:List Int) (d:ff):Nat→Int→Int→(List (Int×Dd))→(List Int)→(List Int)→(List Bool)→Option (List (Int×Dd)×List Int×List Int×List Bool×Int)
 | 0,_,_,_,_,_,_=>none
 | n+1,i78,i79,e,f,g,h =>
 if (0:Int)≤i78 then
   (Ko b d e f g h i79).bind fun a =>
   (at_ c i78).bind fun i =>
   if a.1≠i then
  none
   else
  (i64 (i78 - 1)).bind fun i151 =>
  Et b c d n i151 a.2.2.2.2.2 a.2.1 a.2.2.1 a.2.2.2.1 a.2.2.2.2.1
 else
   some (e,f,g,h,i79)
def Em (fu:Nat)  (b:Ee) (c:ff) (d:List (Int×Dd)) (e:List Int) (f:List Int) (g:List Bool) (h:Int) (a:List Int):Option (List (Int×Dd)×List Int×List Int×List Bool×Int):=
 (i64 ((a.length:Int) - 1)).bind fun i51 =>
 Et b a c fu i51 h d e f g
def Bx (a:Int) (b:List Int) (c:List Int) (d:List Bool) (e:Int) (f:List (Int×Dd)):Option (List (Int×Dd)×List Int×List Int×List Bool×Int):=
 (app b [a]).bind fun g =>
 some (f,g,c,d,e)
def wu (i128:Int) (a:Int→Option (List (Int×Dd)×List Int×List Int×List Bool×Int)) (b:Bool):Option (List (Int×Dd)×List Int×List Int×List Bool×Int):=
 if b=true then
 none
 else
 (i64 (i128+1)).bind fun i183 =>
 a i183
def Qp (b:Int) (a:List (Int×Dd)) (d:List Int) (e:List Int) (c:List Bool) (f:Int):Nat→Int→Option (List (Int×Dd)×List Int×List Int×List Bool×Int)
 | 0,_=>none
 | n+1,i128 =>
 if i128<((((mf a b).getD (Dd.mk ([]:List Int) ([]:List Bool))).has).length:Int) then
   (at_ (((mf a b).getD (Dd.mk ([]:List Int) ([]:List Bool))).has) i128).bind fun g =>
   if g=true then
  (at_ c i128).bind fun h =>
  wu i128 (Qp b a d e c f n) (!h)
   else
  wu i128 (Qp b a d e c f n) false
 else
   some (a,d,e,c,f)
def qq  (j:Ee) (g:ff) (b:List (Int×Dd)) (f:List Int) (c:List Int) (d:List Bool) (e:Int) (a:Int):Option (List (Int×Dd)×List Int×List Int×List Bool×Int):=
 if e≠0 then
 none
 else
 if a=(g.Code.length:Int) then
   none
 else
   if (mf b a).isSome=true then
  (Ax (((mf b a).getD (Dd.mk ([]:List Int) ([]:List Bool))).stack) c).bind fun h =>
  if h=true then
     Qp a b f c d e ((((mf b a).getD (Dd.mk ([]:List Int) ([]:List Bool))).has).length+1) 0
  else
     none
   else
  (Iw (Dd.mk c d)).bind fun i =>
  Bx a f c d e (Ae b a i)
def Sx (fu:Nat)  (c:Ee) (d:ff) (e:List (Int×Dd)) (f:List Int) (g:List Int) (h:List Bool) (i:Int) (j:Int):Option (ff×List (Int×Dd)×List Int×List Int×List Bool×Int):=
 (c.m).bind fun k =>
 (at_ k.Kd j).bind fun b =>
 (cut b.od 0 b.Params).bind fun l =>
 (Em fu c d e f g h i l).bind fun a =>
 some (b,a.1,a.2.1,a.2.2.1,a.2.2.2.1,a.2.2.2.2)
def Zu  (b:Ee) (c:ff) (d:List (Int×Dd)) (e:List Int) (f:List Int) (g:List Bool) (h:Int):Option (ff×List (Int×Dd)×List Int×List Int×List Bool×Int):=
 (Ko b c d e f g h).bind fun a =>
 if a.2.2.2.2.2≠0 then
 none
 else
 (au b a.1).bind fun i =>
 if i=true then
   (b.m).bind fun j =>
   (i64 (a.1 - 10)).bind fun i90 =>
   (at_ j.Kd i90).bind fun k =>
   some (k,a.2.1,a.2.2.1,a.2.2.2.1,a.2.2.2.2.1,a.2.2.2.2.2)
 else
   none
def Tx  (f:Ee) (g:ff) (b:List (Int×Dd)) (c:List Int) (a:List Int) (d:List Bool) (e:Int):Option (Bool×List (Int×Dd)×List Int×List Int×List Bool×Int):=
 if (0:Int)<(a.length:Int) then
 none
 else
 some (false,b,c,a,d,e)
def bn  (i50:Int) (a:List (Int×Dd)) (b:List Int) (c:List Int) (d:List Bool):Option (Bool×List (Int×Dd)×List Int×List Int×List Bool×Int):=
 some (true,a,b,c,d,i50)
def Jw (fu:Nat)  (b:Ee) (a:ff) (d:List (Int×Dd)) (e:List Int) (f:List Int) (g:List Bool) (h:Int) (c:Jc):Option (Bool×List (Int×Dd)×List Int×List Int×List Bool×Int):=
 if c.Op=23 then
 none
 else
 if c.Op=29 then
   (Sx fu b a d e f g h c.A).bind fun n =>
   (i64 (10+c.A)).bind fun i93 =>
   (uk b a n.2.1 n.2.2.1 n.2.2.2.1 n.2.2.2.2.1 n.2.2.2.2.2 i93).bind fun o =>
   bn o.2.2.2.2 o.1 o.2.1 o.2.2.1 o.2.2.2.1
 else
   if c.Op=24 then
  none
   else
  if c.Op=25 then
     if a.Kind=2 then
   none
     else
   (Tx b a d e f g h).bind fun k =>
   some (k.1,k.2.1,k.2.2.1,k.2.2.2.1,k.2.2.2.2.1,k.2.2.2.2.2)
  else
     if c.Op=26 then
   none
     else
   if c.Op=27 then
       (b.m).bind fun v =>
       (at_ v.Re c.A).bind fun w =>
       (uk b a d e f g h w.ue).bind fun p =>
       bn p.2.2.2.2 p.1 p.2.1 p.2.2.1 p.2.2.2.1
   else
       if c.Op=28 then
    (Ko b a d e f g h).bind fun i =>
    if i.2.2.2.2.2=0 then
         (qn i.1).bind fun x =>
         if x=true then
     bn i.2.2.2.2.2 i.2.1 i.2.2.1 i.2.2.2.1 i.2.2.2.2.1
         else
     none
    else
         none
       else
    if c.Op=30 then
         (Ko b a d e f g h).bind fun l =>
         (Zu b a l.2.1 l.2.2.1 l.2.2.2.1 l.2.2.2.2.1 l.2.2.2.2.2).bind fun j =>
         if l.1≠j.1.de then
     none
         else
     (uk b a j.2.1 j.2.2.1 j.2.2.2.1 j.2.2.2.2.1 j.2.2.2.2.2 j.1.Result).bind fun q =>
     bn q.2.2.2.2 q.1 q.2.1 q.2.2.1 q.2.2.2.1
    else
         if c.Op=31 then
     if a.Kind≠3 then
           none
     else
           (Em fu b a d e f g h [a.Result]).bind fun r =>
           (uk b a r.1 r.2.1 r.2.2.1 r.2.2.2.1 r.2.2.2.2 a.de).bind fun s =>
           bn s.2.2.2.2 s.1 s.2.1 s.2.2.1 s.2.2.2.1
         else
     if c.Op=32 then
           (Zu b a d e f g h).bind fun t =>
           (uk b a t.2.1 t.2.2.1 t.2.2.2.1 t.2.2.2.2.1 t.2.2.2.2.2 2).bind fun u =>
           bn u.2.2.2.2 u.1 u.2.1 u.2.2.1 u.2.2.2.1
     else
           none
def cl  (i50:Int) (a:List (Int×Dd)) (b:List Int) (c:List Int) (d:List Bool):Option (Bool×List (Int×Dd)×List Int×List Int×List Bool×Int):=
 some (true,a,b,c,d,i50)
def Ux (fu:Nat)  (c:Ee) (b:ff) (e:List (Int×Dd)) (f:List Int) (g:List Int) (d:List Bool) (h:Int) (a:Jc):Option (Bool×List (Int×Dd)×List Int×List Int×List Bool×Int):=
 if a.Op=1 then
 (uk c b e f g d h 1).bind fun k =>
 cl k.2.2.2.2 k.1 k.2.1 k.2.2.1 k.2.2.2.1
 else
 if a.Op=2 then
   (uk c b e f g d h 2).bind fun l =>
   cl l.2.2.2.2 l.1 l.2.1 l.2.2.1 l.2.2.2.1
 else
   if a.Op=3 then
  (at_ d a.A).bind fun x =>
  if x=true then
     (at_ b.od a.A).bind fun y =>
     (uk c b e f g d h y).bind fun m =>
     cl m.2.2.2.2 m.1 m.2.1 m.2.2.1 m.2.2.2.1
  else
     none
   else
  if a.Op=4 then
     (at_ b.od a.A).bind fun z =>
     (Em fu c b e f g d h [z]).bind fun i =>
     (at_ i.2.2.2.1 a.A).bind fun B =>
     cl i.2.2.2.2 i.1 i.2.1 i.2.2.1 (i.2.2.2.1.set a.A.toNat true)
  else
     if a.Op=5 then
   (Ko c b e f g d h).bind fun n =>
   cl n.2.2.2.2.2 n.2.1 n.2.2.1 n.2.2.2.1 n.2.2.2.2.1
     else
   if a.Op=6 then
       (Em fu c b e f g d h [1]).bind fun o =>
       (uk c b o.1 o.2.1 o.2.2.1 o.2.2.2.1 o.2.2.2.2 1).bind fun p =>
       cl p.2.2.2.2 p.1 p.2.1 p.2.2.1 p.2.2.2.1
   else
       if a.Op=7 then
    none
       else
    if (8:Int)≤a.Op then
         if a.Op≤12 then
     (Em fu c b e f g d h [1,1]).bind fun q =>
     (uk c b q.1 q.2.1 q.2.2.1 q.2.2.2.1 q.2.2.2.2 1).bind fun r =>
     cl r.2.2.2.2 r.1 r.2.1 r.2.2.1 r.2.2.2.1
         else
     if a.Op=13 then
           none
     else
           if a.Op=14 then
      none
           else
      if (15:Int)≤a.Op then
             if a.Op≤18 then
       (Em fu c b e f g d h [1,1]).bind fun s =>
       (uk c b s.1 s.2.1 s.2.2.1 s.2.2.2.1 s.2.2.2.2 2).bind fun t =>
       cl t.2.2.2.2 t.1 t.2.1 t.2.2.1 t.2.2.2.1
             else
       if a.Op=19 then
               none
       else
               if a.Op=20 then
        none
               else
        if a.Op=21 then
                 (qq c b e f g d h a.A).bind fun u =>
                 some (false,u.1,u.2.1,u.2.2.1,u.2.2.2.1,u.2.2.2.2)
        else
                 if a.Op=22 then
         (Em fu c b e f g d h [2]).bind fun v =>
         (qq c b v.1 v.2.1 v.2.2.1 v.2.2.2.1 v.2.2.2.2 a.A).bind fun w =>
         cl w.2.2.2.2 w.1 w.2.1 w.2.2.1 w.2.2.2.1
                 else
         (Jw fu c b e f g d h a).bind fun j =>
         some (j.1,j.2.1,j.2.2.1,j.2.2.2.1,j.2.2.2.2.1,j.2.2.2.2.2)
      else
             none
    else
         none
def Ft (b:(List (Int×Dd))→Int→(List Bool)→(List Int)→(List Int)→Option Qh) (c:List (Int×Dd)) (a:Int) (d:List Bool) (e:List Int) (f:List Int):Option Qh :=
 if a≠0 then
 none
 else
 b c a d e f
def Bp (fu:Nat) (p_1:Ee) (b:ff):Nat→(List (Int×Dd))→Int→(List Bool)→(List Int)→(List Int)→Option Qh
 | 0,_,_,_,_,_=>none
 | n+1,f,i222,k,d,l =>
 if (0:Int)<(d.length:Int) then
   (at_ d 0).bind fun e =>
   (cut d 1 d.length).bind fun h =>
   (Ww ((mf f e).getD (Dd.mk ([]:List Int) ([]:List Bool)))).bind fun g =>
   (at_ b.Code e).bind fun i =>
   (Ux fu p_1 b f h g.stack g.has i222 i).bind fun a =>
   if a.1=true then
  (i64 (e+1)).bind fun j =>
  (qq p_1 b a.2.1 a.2.2.1 a.2.2.2.1 a.2.2.2.2.1 a.2.2.2.2.2 j).bind fun c =>
  Ft (Bp fu p_1 b n) c.1 c.2.2.2.2 c.2.2.2.1 c.2.1 c.2.2.1
   else
  Ft (Bp fu p_1 b n) a.2.1 a.2.2.2.2.2 a.2.2.2.2.1 a.2.2.1 a.2.2.2.1
 else
   some (Qh.mk 0 0 0)
def Gt (fu:Nat) (p_1:Ee) (b:ff):Nat→Int→(List Bool)→Option Qh
 | 0,_,_=>none
 | n+1,i60,c =>
 if i60<b.Params then
   (at_ c i60).bind fun d =>
   (i64 (i60+1)).bind fun i100 =>
   Gt fu p_1 b n i100 (c.set i60.toNat true)
 else
   (qq p_1 b ([]:List (Int×Dd)) ([]:List Int) ([]:List Int) c 0 0).bind fun a =>
   Bp fu p_1 b fu a.1 a.2.2.2.2 a.2.2.2.1 a.2.1 a.2.2.1
def Vx (fu:Nat)  (p_1:Ee) (b:Int):Option Qh :=
 (p_1.m).bind fun c =>
 (at_ c.Kd b).bind fun a =>
 (Uk (a.od.length:Int)).bind fun d =>
 Gt fu p_1 a ((a.Params - 0).toNat+1) 0 (List.replicate d (false:Bool))
def ft (a:Int) (b:List Int) (d:Jc) (c:Int→(List Int)→Option (List Int)) (e:Bool):Option (List Int):=
 if e=true then
 (app b [d.A]).bind fun f =>
 (i64 (a+1)).bind fun g =>
 c g f
 else
 (i64 (a+1)).bind fun h =>
 c h b
def tp (i141:Int) (b:ff) (e:Int→(List Int)→Option (List Int)):Nat→Int→(List Int)→Option (List Int)
 | 0,_,_=>none
 | n+1,c,d =>
 if c<(b.Code.length:Int) then
   (at_ b.Code c).bind fun a =>
   if a.Op=23 then
  none
   else
  if a.Op=29 then
     ft c d a (tp i141 b e n) (!(d.contains a.A))
  else
     ft c d a (tp i141 b e n) false
 else
   (i64 (i141+1)).bind fun f =>
   e f d
def vp (p_1:Ee):Nat→Int→(List Int)→Option (List Int)
 | 0,_,_=>none
 | n+1,i141,a =>
 if i141<(a.length:Int) then
   (at_ a i141).bind fun c =>
   (p_1.m).bind fun d =>
   (at_ d.Kd c).bind fun b =>
   tp i141 b (vp p_1 n) (b.Code.length+1) 0 a
 else
   some a
def Cx (fu:Nat)  (p_1:Ee) (a:Int):Option (List Int):=
 vp p_1 fu 0 ([a]:List Int)
def Kw  (p_1:Jc) (a:Int) (b:Int):Option Bool :=
 if p_1.Op=a then
 some (decide (p_1.A=b))
 else
 some false
def Xw  (p_1:Int) (a:Option Ee) (b:Int) (c:Int):Option Bool :=
 (a).bind fun d =>
 (d.m).bind fun e =>
 (at_ e.Kd p_1).bind fun f =>
 (oy f.Code (fun g=>Kw g b c)).bind fun h =>
 some h
def ht (a:Int) (b:Int) (c:Int→Int→Option Qh) (d:Bool):Option Qh :=
 if d=true then
 (i64 (a+1)).bind fun e =>
 (i64 (b+1)).bind fun f =>
 c e f
 else
 (i64 (b+1)).bind fun g =>
 c a g
def xp (fu:Nat) (p_1:Ee) (b:Sc) (c:Int) (d:Int) (e:Int) (f:Int→Option Qh):Nat→Int→Int→Option Qh
 | 0,_,_=>none
 | n+1,g,a =>
 if a<(b.Kd.length:Int) then
   (at_ b.Kd a).bind fun h =>
   if h.Kind=4 then
  (Cx fu p_1 a).bind fun i =>
  (Yu i (fun j=>Xw j (some p_1) e c)).bind fun k =>
  ht g a (xp fu p_1 b c d e f n) k
   else
  ht g a (xp fu p_1 b c d e f n) false
 else
   if (1:Int)<g then
  none
   else
  (i64 (d+1)).bind fun l =>
  f l
def yp (fu:Nat) (p_1:Ee) (a:Sc) (b:Int) (d:Int→Option Qh):Nat→Int→Option Qh
 | 0,_=>none
 | n+1,c =>
 if c<2 then
   (at_ [26,27] c).bind fun e =>
   xp fu p_1 a b c e (yp fu p_1 a b d n) (a.Kd.length+1) 0 0
 else
   (i64 (b+1)).bind fun f =>
   d f
def mo (fu:Nat) (p_1:Ee) (a:Sc):Nat→Int→Option Qh
 | 0,_=>none
 | n+1,b =>
 if b<(a.Re.length:Int) then
   yp fu p_1 a b (mo fu p_1 a n) 3 0
 else
   some (Qh.mk 0 0 0)
def Dx (fu:Nat)  (p_1:Ee):Option Qh :=
 (p_1.m).bind fun a =>
 mo fu p_1 a (a.Re.length+1) 0
def Js (fu:Nat) (p_1:Sc):Nat→Int→Option Qh
 | 0,_=>none
 | n+1,i30 =>
 if i30<(p_1.Kd.length:Int) then
   (Vx fu (Ee.mk (some p_1)) i30).bind fun a =>
   if a.Th≠0 then
  none
   else
  (i64 (i30+1)).bind fun i46 =>
  Js fu p_1 n i46
 else
   (Dx fu (Ee.mk (some p_1))).bind fun b =>
   some b
def du (fu:Nat)  (p_1:Sc):Option Qh :=
 (Rx (Ee.mk (some p_1))).bind fun a =>
 if a.Th≠0 then
 none
 else
 Js fu p_1 (p_1.Kd.length+1) 0
end Go.Y
namespace Go.Y
open Go.vc Go.hd
def av  (p_1:Int) (a:Int):Option (List Int×Int×Int×Int):=
 (Uk p_1).bind fun b =>
 some ((List.replicate b (0:Int)),0,p_1,a)
def Sl  (a:Int):Option Int :=
 some a
def Rp  (b:List Int) (a:Int) (c:Int) (d:Int) (e:Int):Option (List Int×Int×Int×Int):=
 (Uk e).bind fun f =>
 (cut b 0 a).bind fun g =>
 some ((Yo (List.replicate f (0:Int)) g),a,c,d)
def Cp (b:Int) (i14:Int) (i15:Int) (i16:Int) (a:List Int):Option (Bool×List Int×Int×Int×Int):=
 (at_ a i14).bind fun c =>
 (i64 (i14+1)).bind fun i56 =>
 some (true,(a.set i14.toNat b),i56,i15,i16)
def Lw (a:Int) (i22:Int) (i23:Int) (i24:Int) (b:List Int):Option (Bool×List Int×Int×Int×Int):=
 Cp a i22 i23 i24 b
def Ht (a:List Int) (e:Int) (c:Int) (f:Int) (d:Int):Option (Bool×List Int×Int×Int×Int):=
 if c=(a.length:Int) then
 (i64 (2*(a.length:Int))).bind fun i29 =>
 (Rp a c f d (min i29 d)).bind fun b =>
 Lw e b.2.1 b.2.2.1 b.2.2.2 b.1
 else
 Cp e c f d a
def Yp  (c:List Int) (a:Int) (d:Int) (b:Int) (e:Int):Option (Bool×List Int×Int×Int×Int):=
 if a=b then
 none
 else
 Ht c e a d b
def Yw  (i20:Int) (i21:Int) (i22:Int) (a:List Int):Option (List Int×Int×Int×Int):=
 some (a,i20,i21,i22)
def Ip (b:List Int) (c:Int) (d:Int) (i12:Int) (e:Bool):Option (List Int×Int×Int×Int):=
 if e=true then
 (quo (b.length:Int) 2).bind fun i27 =>
 (Rp b i12 c d (max i27 c)).bind fun a =>
 Yw a.2.1 a.2.2.1 a.2.2.2 a.1
 else
 some (b,i12,c,d)
def Lo  (a:List Int) (d:Int) (b:Int) (c:Int) (e:Int):Option (List Int×Int×Int×Int):=
 (i64 (d - e)).bind fun i12 =>
 (quo (a.length:Int) 4).bind fun i15 =>
 if i12≤i15 then
 Ip a b c i12 (decide (b<(a.length:Int)))
 else
 Ip a b c i12 false
def yn  (a:Int) (b:Int) (c:Int):Option Unit :=
 some ()
def hl  (p_1:Bool):Option Int :=
 if p_1=true then
 some 1
 else
 some 0
def ln (p_1:Int) (a:Int) (b:Int) (xf:Bool):Option Int :=
 if xf=true then
 (hl (decide (p_1=11))).bind fun c =>
 some (Ag (c*a))
 else
 if p_1=11 then
   (quo a b).bind fun i16 =>
   some i16
 else
   (tv a b).bind fun i18 =>
   some i18
def zo (p_1:Int) (a:Int) (b:Int) (vf:Bool):Option Int :=
 if vf=true then
 if a=(-9223372036854775808) then
   ln p_1 a b (decide (b=(-1)))
 else
   ln p_1 a b false
 else
 if p_1=13 then
   (hl (decide (a=b))).bind fun c =>
   some c
 else
   if p_1=14 then
  (hl (decide (a≠b))).bind fun d =>
  some d
   else
  if p_1=15 then
     (hl (decide (a<b))).bind fun e =>
     some e
  else
     if p_1=16 then
   (hl (decide (a≤b))).bind fun f =>
   some f
     else
   if p_1=17 then
       (hl (decide (b<a))).bind fun g =>
       some g
   else
       none
def xr  (p_1:Int) (a:Int) (b:Int):Option Int :=
 if p_1=8 then
 some (Ag (a+b))
 else
 if p_1=9 then
   some (Ag (a - b))
 else
   if p_1=10 then
  some (Ag (a*b))
   else
  if p_1=11 then
     zo p_1 a b (decide (p_1=11))
  else
     zo p_1 a b (decide (p_1=12))
def Oq (p_1:Sc):Nat→Int→(List Int)→Option (List Int)
 | 0,_,_=>none
 | n+1,i43,a =>
 if i43<(p_1.Kd.length:Int) then
   (at_ p_1.Kd i43).bind fun b =>
   if b.Kind=4 then
  (app a [i43]).bind fun c =>
  (i64 (i43+1)).bind fun i104 =>
  Oq p_1 n i104 c
   else
  (i64 (i43+1)).bind fun i106 =>
  Oq p_1 n i106 a
 else
   some a
def xu  (p_1:Sc):Option (List Int):=
 Oq p_1 (p_1.Kd.length+1) 0 []
end Go.Y
namespace Go.Y
open Go.vc Go.hd
structure Ic where
 unit:Int
 Wc:Int
 base:Int
 deriving DecidableEq,Inhabited,Repr
instance:Ua Ic where
 sz:=3
 pos:=by decide
 cs μ l x:=l=[.int .i64 x.unit,.int .i64 x.Wc,.int .i64 x.base]
 rh h:=by obtain rfl:=h;rfl
 up le h:=by exact h
 Rg h:=by obtain rfl:=h;rfl
def hr  (a:List (List Int)) (b:List Int) (d:List (List Int)) (c:Int):Option (Bool×List (List Int)×List Int×List (List Int)):=
 (at_ a c).bind fun e =>
 (at_ b c).bind fun f =>
 some (decide (f=(e.length:Int)),a,b,d)
def mr  (c:List (List Int)) (b:List Int) (d:List (List Int)) (a:Int):Option (Int×List (List Int)×List Int×List (List Int)):=
 (at_ b a).bind fun e =>
 (i64 (e+1)).bind fun i37 =>
 (at_ b a).bind fun i =>
 (at_ (b.set a.toNat i37) a).bind fun f =>
 (i64 (f - 1)).bind fun i68 =>
 (at_ c a).bind fun g =>
 (at_ g i68).bind fun h =>
 some (h,c,(b.set a.toNat i37),d)
def gk  (b:Int) (c:Int) (d:Int) (e:List Int) (f:Int) (g:Int) (h:Int) (i:Int):Option (Int×Int×Int×List Int×Int×Int×Int):=
 (Yp e f g h i).bind fun a =>
 if a.1=true then
 some (b,c,d,a.2.1,a.2.2.1,a.2.2.2.1,a.2.2.2.2)
 else
 none
def ik  (d:Int) (e:Int) (f:Int) (b:List Int) (c:Int) (g:Int) (h:Int):Option (Int×Int×Int×Int×List Int×Int×Int×Int):=
 (Sl c).bind fun i =>
 (i64 (i - 1)).bind fun i27 =>
 (at_ b i27).bind fun j =>
 (Lo b c g h 1).bind fun a =>
 some (j,d,e,f,a.1,a.2.1,a.2.2.1,a.2.2.2)
def Pq (a:Int) (i33:Int) (i34:Int) (b:List (List Int)) (c:List (List Int)) (d:List Int):Option (Bool×Int×Int×Int×List (List Int)×List Int×List (List Int)):=
 some (decide (i33≠1),i33,i34,a,b,d,c)
def jt (a:Jc) (b:Int) (c:List (List Int)) (d:List (List Int)) (e:List Int):Option (Bool×Int×Int×Int×List (List Int)×List Int×List (List Int)):=
 Pq b 3 a.A c d e
def Qq (e:Jc) (a:Int) (f:Bool) (b:List (List Int)) (c:List (List Int)) (d:List Int):Option (Bool×Int×Int×Int×List (List Int)×List Int×List (List Int)):=
 if f=true then
 jt e a b c d
 else
 Pq a 1 0 b c d
def ir  (g:Int) (h:Int) (c:Int) (d:List (List Int)) (e:List Int) (f:List (List Int)) (a:Jc):Option (Bool×Int×Int×Int×List (List Int)×List Int×List (List Int)):=
 if a.Op=26 then
 none
 else
 if a.Op=27 then
   (hr d e f a.A).bind fun b =>
   Qq a c b.1 b.2.1 b.2.2.2 b.2.2.1
 else
   Qq a c false d f e
def It (d:Sc) (e:Int) (f:Int) (g:Int) (h:List (List Int)) (i:List Int) (j:List (List Int)) (b:List Ic) (i53:Int):Option (Int×Int×Int×List (List Int)×List Int×List (List Int)×List Ic):=
 (at_ b i53).bind fun c =>
 (at_ d.Kd c.unit).bind fun k =>
 (at_ k.Code c.Wc).bind fun l =>
 (ir e f g h i j l).bind fun a =>
 some (a.2.1,a.2.2.1,a.2.2.2.1,a.2.2.2.2.1,a.2.2.2.2.2.1,a.2.2.2.2.2.2,b)
def zn  (c:Sc) (b:Int) (d:Int) (e:Int) (f:List (List Int)) (g:List Int) (h:List (List Int)) (a:List Ic):Option (Int×Int×Int×List (List Int)×List Int×List (List Int)×List Ic):=
 if b≤3 then
 (i64 ((a.length:Int) - 1)).bind fun i55 =>
 (at_ a i55).bind fun i =>
 It c b d e f g h a i55
 else
 none
def po (b:List Ic) (i68:Int):Nat→Int→Int→Int→Int→Int→Int→Int→(List Int)→Option (Int×Int×Int×List Ic×List Int×Int×Int×Int)
 | 0,_,_,_,_,_,_,_,_=>none
 | n+1,i78,i79,i80,i81,i82,i83,i84,c =>
 if i78<i68 then
   (gk i79 i80 i81 c i82 i83 i84 0).bind fun a =>
   (i64 (i78+1)).bind fun i106 =>
   po b i68 n i106 a.1 a.2.1 a.2.2.1 a.2.2.2.2.1 a.2.2.2.2.2.1 a.2.2.2.2.2.2 a.2.2.2.1
 else
   some (i79,i80,i81,b,c,i82,i83,i84)
def Jt (c:Int) (d:Int) (e:Int) (f:Int) (a:List Ic) (g:List Int) (h:Int) (i:Int) (j:Int) (b:ff) (i53:Int):Option (Int×Int×Int×List Ic×List Int×Int×Int×Int):=
 if (a.length:Int)=40 then
 none
 else
 (app a [(Ic.mk c 0 i53)]).bind fun k =>
 (i64 ((b.od.length:Int) - b.Params)).bind fun i68 =>
 po k i68 ((i68 - 0).toNat+1) 0 d e f h i j g
def nr  (d:Sc) (e:Int) (f:Int) (g:Int) (h:List Ic) (i:List Int) (a:Int) (j:Int) (k:Int) (b:Int):Option (Int×Int×Int×List Ic×List Int×Int×Int×Int):=
 (at_ d.Kd b).bind fun c =>
 (Sl a).bind fun l =>
 (i64 (l - c.Params)).bind fun i57 =>
 Jt b e f g h i a j k c i57
def kt (c:Int) (b:Int×Int×Int×Int×List Int×Int×Int×Int) (d:List Ic) (i111:Int) (i112:Int) (i113:Int) (e:List Int):Option (Int×Int×Int×Int×List Ic×List Int×Int×Int×Int):=
 (gk b.2.1 b.2.2.1 b.2.2.2.1 e i111 i112 i113 b.1).bind fun a =>
 some (a.1,a.2.1,a.2.2.1,c,d,a.2.2.2.1,a.2.2.2.2.1,a.2.2.2.2.2.1,a.2.2.2.2.2.2)
def nt (c:Int) (a:Int×Int×Int×Int×List Int×Int×Int×Int) (i61:Int) (d:List Ic):Option (Int×Int×Int×Int×List Ic×List Int×Int×Int×Int):=
 (Sl a.2.2.2.2.2.1).bind fun e =>
 (i64 (e - i61)).bind fun i121 =>
 (Lo a.2.2.2.2.1 a.2.2.2.2.2.1 a.2.2.2.2.2.2.1 a.2.2.2.2.2.2.2 i121).bind fun b =>
 kt c a d b.2.1 b.2.2.1 b.2.2.2 b.1
def Rq (b:Int) (a:List Ic) (c:Int×Int×Int×Int×List Int×Int×Int×Int) (i59:Int) (i60:Int) (i61:Int):Option (Int×Int×Int×Int×List Ic×List Int×Int×Int×Int):=
 (i64 ((a.length:Int) - 1)).bind fun i99 =>
 (cut a 0 i99).bind fun d =>
 nt b c i61 d
def jr  (m:Sc) (e:Int) (f:Int) (g:Int) (h:Int) (b:List Ic) (i:List Int) (j:Int) (k:Int) (l:Int) (c:Jc):Option (Int×Int×Int×Int×List Ic×List Int×Int×Int×Int):=
 if c.Op=23 then
 (nr m e f g b i j k l c.A).bind fun a =>
 some (a.1,a.2.1,a.2.2.1,h,a.2.2.2.1,a.2.2.2.2.1,a.2.2.2.2.2.1,a.2.2.2.2.2.2.1,a.2.2.2.2.2.2.2)
 else
 if c.Op=24 then
   (ik e f g i j k l).bind fun n =>
   (i64 ((b.length:Int) - 1)).bind fun i62 =>
   (at_ b i62).bind fun d =>
   Rq h b n d.unit d.Wc d.base
 else
   if c.Op=25 then
  none
   else
  none
end Go.Y
namespace Go.Y
open Go.vc Go.hd
def dj (b:Sc) (i145:Int) (i146:Int) (i147:Int) (c:List Int) (d:List (List Int)) (e:List (List Int)) (f:List Int) (i164:Int) (g:List Ic) (i169:Int) (i170:Int) (i171:Int) (h:List Int):Option (Bool×Int×Int×Int×List Int×List (List Int)×List Int×List (List Int)×Int×List Ic×List Int×Int×Int×Int):=
 (zn b i145 i146 i147 d f e g).bind fun a =>
 some (true,a.1,a.2.1,a.2.2.1,c,a.2.2.2.1,a.2.2.2.2.1,a.2.2.2.2.2.1,i164,a.2.2.2.2.2.2,h,i169,i170,i171)
def Kt (c:Sc) (d:List Int) (e:Int) (a:Int×Int×Int×List (List Int)×List Int×List (List Int)×List Ic) (i84:Int) (b:Ic) (i142:Int) (i191:Int) (i192:Int) (i193:Int) (i194:Int) (i195:Int) (i196:Int) (f:List Int):Option (Bool×Int×Int×Int×List Int×List (List Int)×List Int×List (List Int)×Int×List Ic×List Int×Int×Int×Int):=
 dj c i191 i192 i193 d a.2.2.2.1 a.2.2.2.2.2.1 a.2.2.2.2.1 e (a.2.2.2.2.2.2.set i84.toNat (Ic.mk b.unit i142 b.base)) i194 i195 i196 f
def Lt (d:Sc) (e:List Int) (f:Int) (b:Int×Int×Int×List (List Int)×List Int×List (List Int)×List Ic) (i84:Int) (c:Ic) (i142:Int) (a:Int×Int×Int×Int×List Int×Int×Int×Int) (g:List Int):Option (Bool×Int×Int×Int×List Int×List (List Int)×List Int×List (List Int)×Int×List Ic×List Int×Int×Int×Int):=
 dj d a.2.1 a.2.2.1 a.2.2.2.1 e b.2.2.2.1 b.2.2.2.2.2.1 b.2.2.2.2.1 f (b.2.2.2.2.2.2.set i84.toNat (Ic.mk c.unit i142 c.base)) a.2.2.2.2.2.1 a.2.2.2.2.2.2.1 a.2.2.2.2.2.2.2 g
def qo (e:Sc) (f:List Int) (g:Int) (c:Int×Int×Int×List (List Int)×List Int×List (List Int)×List Ic) (i84:Int) (d:Ic) (h:Jc) (i142:Int) (i:Int×Int×Int×Int×List Int×Int×Int×Int) (a:Int×Int×Int×Int×List Int×Int×Int×Int) (j:Bool):Option (Bool×Int×Int×Int×List Int×List (List Int)×List Int×List (List Int)×Int×List Ic×List Int×Int×Int×Int):=
 if j=true then
 none
 else
 (xr h.Op a.1 i.1).bind fun k =>
 (gk a.2.1 a.2.2.1 a.2.2.2.1 a.2.2.2.2.1 a.2.2.2.2.2.1 a.2.2.2.2.2.2.1 a.2.2.2.2.2.2.2 k).bind fun b =>
 dj e b.1 b.2.1 b.2.2.1 f c.2.2.2.1 c.2.2.2.2.2.1 c.2.2.2.2.1 g (c.2.2.2.2.2.2.set i84.toNat (Ic.mk d.unit i142 d.base)) b.2.2.2.2.1 b.2.2.2.2.2.1 b.2.2.2.2.2.2 b.2.2.2.1
def Mt (d:Sc) (e:List Int) (f:Int) (h:List Int) (i:Int) (j:Int) (k:Int) (a:Int×Int×Int×List (List Int)×List Int×List (List Int)×List Ic) (i84:Int):Option (Bool×Int×Int×Int×List Int×List (List Int)×List Int×List (List Int)×Int×List Ic×List Int×Int×Int×Int):=
 (at_ a.2.2.2.2.2.2 i84).bind fun b =>
 (at_ d.Kd b.unit).bind fun y =>
 (at_ y.Code b.Wc).bind fun c =>
 (i64 (b.Wc+1)).bind fun i142 =>
 if c.Op=1 then
 (gk a.1 a.2.1 a.2.2.1 h i j k c.N).bind fun p =>
 dj d p.1 p.2.1 p.2.2.1 e a.2.2.2.1 a.2.2.2.2.2.1 a.2.2.2.2.1 f (a.2.2.2.2.2.2.set i84.toNat (Ic.mk b.unit i142 b.base)) p.2.2.2.2.1 p.2.2.2.2.2.1 p.2.2.2.2.2.2 p.2.2.2.1
 else
 if c.Op=2 then
   (gk a.1 a.2.1 a.2.2.1 h i j k c.A).bind fun q =>
   dj d q.1 q.2.1 q.2.2.1 e a.2.2.2.1 a.2.2.2.2.2.1 a.2.2.2.2.1 f (a.2.2.2.2.2.2.set i84.toNat (Ic.mk b.unit i142 b.base)) q.2.2.2.2.1 q.2.2.2.2.2.1 q.2.2.2.2.2.2 q.2.2.2.1
 else
   if c.Op=3 then
  (i64 (b.base+c.A)).bind fun i201 =>
  (at_ h i201).bind fun z =>
  (gk a.1 a.2.1 a.2.2.1 h i j k z).bind fun r =>
  Kt d e f a i84 b i142 r.1 r.2.1 r.2.2.1 r.2.2.2.2.1 r.2.2.2.2.2.1 r.2.2.2.2.2.2 r.2.2.2.1
   else
  if c.Op=4 then
     (ik a.1 a.2.1 a.2.2.1 h i j k).bind fun w =>
     (i64 (b.base+c.A)).bind fun i237 =>
     (at_ w.2.2.2.2.1 i237).bind fun C =>
     Lt d e f a i84 b i142 w (w.2.2.2.2.1.set i237.toNat w.1)
  else
     if c.Op=5 then
   (ik a.1 a.2.1 a.2.2.1 h i j k).bind fun s =>
   dj d s.2.1 s.2.2.1 s.2.2.2.1 e a.2.2.2.1 a.2.2.2.2.2.1 a.2.2.2.2.1 f (a.2.2.2.2.2.2.set i84.toNat (Ic.mk b.unit i142 b.base)) s.2.2.2.2.2.1 s.2.2.2.2.2.2.1 s.2.2.2.2.2.2.2 s.2.2.2.2.1
     else
   if c.Op=6 then
       (ik a.1 a.2.1 a.2.2.1 h i j k).bind fun o =>
       (gk o.2.1 o.2.2.1 o.2.2.2.1 o.2.2.2.2.1 o.2.2.2.2.2.1 o.2.2.2.2.2.2.1 o.2.2.2.2.2.2.2 (Ag (0 - o.1))).bind fun t =>
       dj d t.1 t.2.1 t.2.2.1 e a.2.2.2.1 a.2.2.2.2.2.1 a.2.2.2.2.1 f (a.2.2.2.2.2.2.set i84.toNat (Ic.mk b.unit i142 b.base)) t.2.2.2.2.1 t.2.2.2.2.2.1 t.2.2.2.2.2.2 t.2.2.2.1
   else
       if c.Op=7 then
    none
       else
    if (8:Int)≤c.Op then
         if c.Op≤20 then
     (ik a.1 a.2.1 a.2.2.1 h i j k).bind fun l =>
     (ik l.2.1 l.2.2.1 l.2.2.2.1 l.2.2.2.2.1 l.2.2.2.2.2.1 l.2.2.2.2.2.2.1 l.2.2.2.2.2.2.2).bind fun x =>
     if c.Op=11 then
           qo d e f a i84 b c i142 l x (decide (l.1=0))
     else
           if c.Op=12 then
      qo d e f a i84 b c i142 l x (decide (l.1=0))
           else
      qo d e f a i84 b c i142 l x false
         else
     if c.Op=21 then
           dj d a.1 a.2.1 a.2.2.1 e a.2.2.2.1 a.2.2.2.2.2.1 a.2.2.2.2.1 f (a.2.2.2.2.2.2.set i84.toNat (Ic.mk b.unit c.A b.base)) i j k h
     else
           if c.Op=22 then
      (ik a.1 a.2.1 a.2.2.1 h i j k).bind fun g =>
      if g.1=0 then
             dj d g.2.1 g.2.2.1 g.2.2.2.1 e a.2.2.2.1 a.2.2.2.2.2.1 a.2.2.2.2.1 f (a.2.2.2.2.2.2.set i84.toNat (Ic.mk b.unit c.A b.base)) g.2.2.2.2.2.1 g.2.2.2.2.2.2.1 g.2.2.2.2.2.2.2 g.2.2.2.2.1
      else
             dj d g.2.1 g.2.2.1 g.2.2.2.1 e a.2.2.2.1 a.2.2.2.2.2.1 a.2.2.2.2.1 f (a.2.2.2.2.2.2.set i84.toNat (Ic.mk b.unit i142 b.base)) g.2.2.2.2.2.1 g.2.2.2.2.2.2.1 g.2.2.2.2.2.2.2 g.2.2.2.2.1
           else
      if c.Op=26 then
             none
      else
             if c.Op=27 then
       (mr a.2.2.2.1 a.2.2.2.2.1 a.2.2.2.2.2.1 c.A).bind fun v =>
       (yn 3 c.A v.1).bind fun D =>
       (gk a.1 a.2.1 a.2.2.1 h i j k v.1).bind fun u =>
       dj d u.1 u.2.1 u.2.2.1 e v.2.1 v.2.2.2 v.2.2.1 f (a.2.2.2.2.2.2.set i84.toNat (Ic.mk b.unit i142 b.base)) u.2.2.2.2.1 u.2.2.2.2.2.1 u.2.2.2.2.2.2 u.2.2.2.1
             else
       if c.Op=28 then
               (ik a.1 a.2.1 a.2.2.1 h i j k).bind fun m =>
               (app e [m.1]).bind fun B =>
               (yn 1 0 m.1).bind fun F =>
               dj d m.2.1 m.2.2.1 m.2.2.2.1 B a.2.2.2.1 a.2.2.2.2.2.1 a.2.2.2.2.1 f (a.2.2.2.2.2.2.set i84.toNat (Ic.mk b.unit i142 b.base)) m.2.2.2.2.2.1 m.2.2.2.2.2.2.1 m.2.2.2.2.2.2.2 m.2.2.2.2.1
       else
               (jr d a.1 a.2.1 a.2.2.1 f (a.2.2.2.2.2.2.set i84.toNat (Ic.mk b.unit i142 b.base)) h i j k c).bind fun n =>
               dj d n.1 n.2.1 n.2.2.1 e a.2.2.2.1 a.2.2.2.2.2.1 a.2.2.2.2.1 n.2.2.2.1 n.2.2.2.2.1 n.2.2.2.2.2.2.1 n.2.2.2.2.2.2.2.1 n.2.2.2.2.2.2.2.2 n.2.2.2.2.2.1
    else
         none
def An  (b:Sc) (i:Int) (j:Int) (k:Int) (c:List Int) (l:List (List Int)) (m:List Int) (n:List (List Int)) (d:Int) (o:List Ic) (e:List Int) (f:Int) (g:Int) (h:Int):Option (Bool×Int×Int×Int×List Int×List (List Int)×List Int×List (List Int)×Int×List Ic×List Int×Int×Int×Int):=
 (zn b i j k l m n o).bind fun a =>
 if a.1≠1 then
 some (false,a.1,a.2.1,a.2.2.1,c,a.2.2.2.1,a.2.2.2.2.1,a.2.2.2.2.2.1,d,a.2.2.2.2.2.2,e,f,g,h)
 else
 (i64 ((a.2.2.2.2.2.2.length:Int) - 1)).bind fun i86 =>
 (at_ a.2.2.2.2.2.2 i86).bind fun p =>
 Mt b c d e f g h a i86
end Go.Y
namespace Go.Y
open Go.vc Go.hd
def zp (i74:Int) (i75:Int) (i76:Int) (i77:Int) (b:List Int) (c:Int→Int→Int→Int→(List Int)→Option (Int×List Ic×List Int×Int×Int×Int)) (i102:Int):Option (Int×List Ic×List Int×Int×Int×Int):=
 (Yp b i75 i76 i77 i102).bind fun a =>
 (i64 (i74+1)).bind fun i119 =>
 c i119 a.2.2.1 a.2.2.2.1 a.2.2.2.2 a.2.1
def om (b:Int) (a:List Int) (c:ff):Nat→Int→Int→Int→Int→(List Int)→Option (Int×List Ic×List Int×Int×Int×Int)
 | 0,_,_,_,_,_=>none
 | n+1,i74,i75,i76,i77,d =>
 if i74<(c.od.length:Int) then
   if i74<(a.length:Int) then
  (at_ a i74).bind fun e =>
  zp i74 i75 i76 i77 d (om b a c n) e
   else
  zp i74 i75 i76 i77 d (om b a c n) 0
 else
   some (0,([(Ic.mk b 0 0)]:List Ic),d,i75,i76,i77)
def Sp  (d:Sc) (b:Int) (e:List Int):Option (Int×List Ic×List Int×Int×Int×Int):=
 (av 8 400).bind fun a =>
 (at_ d.Kd b).bind fun c =>
 om b e c (c.od.length+1) 0 a.2.1 a.2.2.1 a.2.2.2 a.1
def yu  (a:List Int) (b:Int) (e:Int) (f:Int):Option (List Int):=
 (cut a 0 b).bind fun c =>
 (app ([]:List Int) c).bind fun d =>
 some d
def Ju  (h:Int) (i:Int) (j:Int) (c:List Int) (b:Int) (d:Int) (e:Int) (f:Int):Option (List Int×Int×Int×Int×List Int×Int×Int×Int):=
 (yu c b d e).bind fun g =>
 (Sl b).bind fun k =>
 (i64 (k - f)).bind fun i36 =>
 (cut g i36 g.length).bind fun l =>
 (Lo c b d e f).bind fun a =>
 some (l,h,i,j,a.1,a.2.1,a.2.2.1,a.2.2.2)
end Go.Y
namespace Go.Y
open Go.vc Go.hd
structure Yh where
 state:Int
 up:Option Nat
 fr:List Ic
 l:List Int
 live:Int
 Cg:Int
 jg:Int
structure ed where
 cs:List Yh
 now:Nat
def ed.length (p:ed):Nat:=p.cs.length
def ed.put (p:ed) (c:Yh):ed:=⟨p.cs.set p.now c,p.now⟩
def Zp (m:Sc) (p:ed) (s bx t:Int) (fd:List (List Int)) (Xc:List Int) (jb:List (List Int)):Option (ed×Int×Int×Int×List (List Int)×List Int×List (List Int)):=
 (p.cs[p.now]?).bind fun c =>
 (zn m s bx t fd Xc jb c.fr).bind fun r =>
 some (p.put { c with fr:=r.2.2.2.2.2.2 },r.1,r.2.1,r.2.2.1,r.2.2.2.1,r.2.2.2.2.1,r.2.2.2.2.2.1)
def Bn (p:ed) (s bx t v:Int):Option (ed×Int×Int×Int):=
 (p.cs[p.now]?).bind fun c =>
 (gk s bx t c.l c.live c.Cg c.jg v).bind fun r =>
 some (p.put { c with l:=r.2.2.2.1,live:=r.2.2.2.2.1,Cg:=r.2.2.2.2.2.1,jg:=r.2.2.2.2.2.2 },r.1,r.2.1,r.2.2.1)
def Kn (p:ed) (s bx t:Int):Option (Int×ed×Int×Int×Int):=
 (p.cs[p.now]?).bind fun c =>
 (ik s bx t c.l c.live c.Cg c.jg).bind fun r =>
 some (r.1,p.put { c with l:=r.2.2.2.2.1,live:=r.2.2.2.2.2.1,Cg:=r.2.2.2.2.2.2.1,jg:=r.2.2.2.2.2.2.2 },r.2.1,r.2.2.1,r.2.2.2.1)
def Ku (p:ed) (s bx t n:Int):Option (List Int×ed×Int×Int×Int):=
 (p.cs[p.now]?).bind fun c =>
 (Ju s bx t c.l c.live c.Cg c.jg n).bind fun r =>
 some (r.1,p.put { c with l:=r.2.2.2.2.1,live:=r.2.2.2.2.2.1,Cg:=r.2.2.2.2.2.2.1,jg:=r.2.2.2.2.2.2.2 },r.2.1,r.2.2.1,r.2.2.2.1)
def Ex (m:Sc) (p:ed) (s bx t:Int) (x:Jc):Option (ed×Int×Int×Int):=
 (at_ m.Kd x.A).bind fun u =>
 (Ku p s bx t u.Params).bind fun a =>
 if (30:Int)<a.2.1.length then none else
 (Sp m x.A a.1).bind fun b =>
 (yn 6 0 x.A).bind fun _ =>
 (i64 (((a.2.1.cs++[Yh.mk b.1 none b.2.1 b.2.2.1 b.2.2.2.1 b.2.2.2.2.1 b.2.2.2.2.2]).length:Int) - 1)).bind fun n =>
 Bn ⟨a.2.1.cs++[Yh.mk b.1 none b.2.1 b.2.2.1 b.2.2.2.1 b.2.2.2.2.1 b.2.2.2.2.2],a.2.1.now⟩ a.2.2.1 a.2.2.2.1 a.2.2.2.2 n
def Xq (p:ed) (s bx t:Int) (j:Nat) (v:Int):Option (ed×Int×Int×Int):=
 if j=p.now then none else
 (p.cs[j]?).bind fun d =>
 if d.state=0 then some (⟨p.cs.set j { d with state:=2,up:=some p.now },j⟩,s,bx,t)
 else if d.state=1 then Bn ⟨p.cs.set j { d with state:=2,up:=some p.now },j⟩ s bx t v
 else none
def Io (p:ed) (s bx t st v:Int):Option (ed×Int×Int×Int):=
 (p.cs[p.now]?).bind fun c=>c.up.bind fun j =>
 Bn ⟨p.cs.set p.now { c with state:=st,up:=none },j⟩ s bx t v
def oi (m:Sc) (p:ed) (s bx t:Int) (x:Jc):Option (ed×Int×Int×Int):=
 if x.Op=25 then Io p s bx t 3 0
 else if x.Op=29 then Ex m p s bx t x
 else if x.Op=30 then (Kn p s bx t).bind fun a=>(Kn a.2.1 a.2.2.1 a.2.2.2.1 a.2.2.2.2).bind fun b =>
 if b.1<0 then none else Xq b.2.1 b.2.2.1 b.2.2.2.1 b.2.2.2.2 b.1.toNat a.1
 else if x.Op=31 then (Kn p s bx t).bind fun a=>Io a.2.1 a.2.2.1 a.2.2.2.1 a.2.2.2.2 1 a.1
 else if x.Op=32 then (Kn p s bx t).bind fun a=>if a.1<0 then none else (a.2.1.cs[a.1.toNat]?).bind fun d =>
 (hl (decide (d.state≠3))).bind fun b=>Bn a.2.1 a.2.2.1 a.2.2.2.1 a.2.2.2.2 b
 else none
def eu (m:Sc) (p:ed) (c:Yh) (out:List Int) (a:Int×Int×Int×List (List Int)×List Int×List (List Int)×List Ic) (i84:Int):Option (Bool×ed×Int×Int×Int×List Int×List (List Int)×List Int×List (List Int)):=
 (at_ a.2.2.2.2.2.2 i84).bind fun b =>
 (at_ m.Kd b.unit).bind fun d =>
 (at_ d.Code b.Wc).bind fun e =>
 (i64 (b.Wc+1)).bind fun i142 =>
 (oi m (p.put { c with fr:=a.2.2.2.2.2.2.set i84.toNat (Ic.mk b.unit i142 b.base) }) a.1 a.2.1 a.2.2.1 e).bind fun q =>
 (Zp m q.1 q.2.1 q.2.2.1 q.2.2.2 a.2.2.2.1 a.2.2.2.2.1 a.2.2.2.2.2.1).bind fun z =>
 some (true,z.1,z.2.1,z.2.2.1,z.2.2.2.1,out,z.2.2.2.2.1,z.2.2.2.2.2.1,z.2.2.2.2.2.2)
def Ln (m:Sc) (p:ed) (s bx t:Int) (out:List Int) (fd:List (List Int)) (Xc:List Int) (jb:List (List Int)):Option (Bool×ed×Int×Int×Int×List Int×List (List Int)×List Int×List (List Int)):=
 (p.cs[p.now]?).bind fun c =>
 (zn m s bx t fd Xc jb c.fr).bind fun a =>
 if a.1≠1 then none else
 (i64 ((a.2.2.2.2.2.2.length:Int) - 1)).bind fun i86 =>
 (at_ a.2.2.2.2.2.2 i86).bind fun b =>
 eu m p c out a i86
def zu (m:Sc) (p:ed) (s bx t:Int) (out:List Int) (fd:List (List Int)) (Xc:List Int) (jb:List (List Int)):Option (Bool×ed×Int×Int×Int×List Int×List (List Int)×List Int×List (List Int)):=
 (p.cs[p.now]?).bind fun c =>
 (An m s bx t out fd Xc jb c.state c.fr c.l c.live c.Cg c.jg).bind fun r =>
 some (r.1,p.put { c with state:=r.2.2.2.2.2.2.2.2.1,fr:=r.2.2.2.2.2.2.2.2.2.1,l:=r.2.2.2.2.2.2.2.2.2.2.1,live:=r.2.2.2.2.2.2.2.2.2.2.2.1,Cg:=r.2.2.2.2.2.2.2.2.2.2.2.2.1,jg:=r.2.2.2.2.2.2.2.2.2.2.2.2.2 },r.2.1,r.2.2.1,r.2.2.2.1,r.2.2.2.2.1,r.2.2.2.2.2.1,r.2.2.2.2.2.2.1,r.2.2.2.2.2.2.2.1)
def Cn (m:Sc) (p:ed) (s bx t:Int) (out:List Int) (fd:List (List Int)) (Xc:List Int) (jb:List (List Int)):Option (Bool×ed×Int×Int×Int×List Int×List (List Int)×List Int×List (List Int)):=
 match Ln m p s bx t out fd Xc jb with
 | some r=>some r
 | none=>zu m p s bx t out fd Xc jb
def cv (m:Sc) (u:Int):Option (ed×Int×Int×Int×List Int):=
 (Sp m u ([]:List Int)).bind fun r =>
 some (⟨[Yh.mk 2 none r.2.1 r.2.2.1 r.2.2.2.1 r.2.2.2.2.1 r.2.2.2.2.2],0⟩,1,0,0,([]:List Int))
end Go.Y
namespace Go.Y
open Go.vc Go.hd
def tm (p_1:Sc) (c:Int):Nat→Int→Int→Int→Int→ed→(List Int)→(List Int)→(List (List Int))→(List (List Int))→Option (Uj×Int)
 | 0,_,_,_,_,_,_,_,_,_=>none
 | n+1,b,d,e,f,g,h,i,j,k =>
 if b<c then
   (Cn p_1 g d e f h j i k).bind fun a =>
   if a.1=true then
  (i64 (b+1)).bind fun l =>
  tm p_1 c n l a.2.2.1 a.2.2.2.1 a.2.2.2.2.1 a.2.1 a.2.2.2.2.2.1 a.2.2.2.2.2.2.2.1 a.2.2.2.2.2.2.1 a.2.2.2.2.2.2.2.2
   else
  some ((Uj.mk a.2.2.1 a.2.2.2.1 a.2.2.2.2.1 a.2.2.2.2.2.1 a.2.2.2.2.2.2.2.2 a.2.2.2.2.2.2.2.1 b),0)
 else
   none
def Uq (fu:Nat) (p_1:Sc) (c:Int) (d:List (List Int)) (e:Int) (f:List Int) (g:List Int) (h:List (List Int)):Option (Uj×Int):=
 (at_ f c).bind fun i =>
 (cv p_1 i).bind fun b =>
 (Zp p_1 b.1 b.2.1 b.2.2.1 b.2.2.2.1 d g h).bind fun a =>
 tm p_1 e fu 0 a.2.1 a.2.2.1 a.2.2.2.1 a.1 b.2.2.2.2 a.2.2.2.2.2.1 a.2.2.2.2.1 a.2.2.2.2.2.2
def so (i231:Int) (a:Int→Option (Uj×Int)) (b:Bool):Option (Uj×Int):=
 if b=true then
 none
 else
 (i64 (i231+1)).bind fun i276 =>
 a i276
def Jl (p_1:Sc) (i119:Int) (a:List Int) (b:Int→Option (Uj×Int)):Nat→Int→Option (Uj×Int)
 | 0,_=>none
 | n+1,i231 =>
 if i231<(a.length:Int) then
   (at_ a i231).bind fun c =>
   (at_ p_1.Re i119).bind fun d =>
   if d.ue=2 then
  if c≠0 then
     so i231 (Jl p_1 i119 a b n) (decide (c≠1))
  else
     so i231 (Jl p_1 i119 a b n) false
   else
  so i231 (Jl p_1 i119 a b n) false
 else
   (i64 (i119+1)).bind fun i278 =>
   b i278
def um (fu:Nat) (p_1:Sc) (b:Int) (a:List (List Int)) (c:Int) (d:List Int):Nat→Int→Option (Uj×Int)
 | 0,_=>none
 | n+1,i119 =>
 if i119<(a.length:Int) then
   (at_ a i119).bind fun e =>
   Jl p_1 i119 e (um fu p_1 b a c d n) (e.length+1) 0
 else
   (Uk (a.length:Int)).bind fun f =>
   (Uk (a.length:Int)).bind fun g =>
   Uq fu p_1 b a c d (List.replicate f (0:Int)) (List.replicate g (([]:List Int):List Int))
def pr (fu:Nat)  (p_1:Sc) (a:Int) (b:List (List Int)) (c:Int):Option (Uj×Int):=
 (du fu p_1).bind fun e =>
 if e.Th≠0 then
 none
 else
 (xu p_1).bind fun d =>
 if a<0 then
   none
 else
   if (d.length:Int)≤a then
  none
   else
  if c<0 then
     none
  else
     if (5000:Int)<c then
   none
     else
   if (b.length:Int)≠(p_1.Re.length:Int) then
       none
   else
       um fu p_1 a b c d (b.length+1) 0
end Go.Y
namespace Go.Y
open Go.vc Go.hd
def ez:List UInt8:=[98,111,120,32,105,110,32,110,117,109,32,50,48,32,59,10,103,101,110,32,109,101,97,110,40,41,32,116,97,107,101,115,32,110,117,109,32,121,105,101,108,100,115,32,110,117,109,32,123,10,32,32,108,101,116,32,115,32,61,32,48,32,59,10,32,32,108,101,116,32,110,32,61,32,48,32,59,10,32,32,108,101,116,32,120,32,61,32,121,105,101,108,100,40,48,41,32,59,10,32,32,119,104,105,108,101,32,116,114,117,101,32,123,32,115,32,61,32,115,32,43,32,120,32,59,32,110,32,61,32,110,32,43,32,49,32,59,32,120,32,61,32,121,105,101,108,100,40,115,32,47,32,110,41,32,59,32,125,10,125,10,116,97,115,107,32,109,97,105,110,32,123,10,32,32,108,101,116,32,109,32,61,32,115,116,97,114,116,32,109,101,97,110,40,41,32,59,10,32,32,100,111,32,114,101,115,117,109,101,40,109,44,32,48,41,32,59,10,32,32,119,104,105,108,101,32,116,114,117,101,32,123,32,111,117,116,32,114,101,115,117,109,101,40,109,44,32,114,101,99,118,40,105,110,41,41,32,59,32,125,10,125,10]
def fz:List UInt8:=[98,111,120,32,105,110,32,110,117,109,32,50,48,32,59,10,116,97,115,107,32,109,97,105,110,32,123,10,32,32,119,104,105,108,101,32,116,114,117,101,32,123,10,32,32,32,32,108,101,116,32,120,32,61,32,114,101,99,118,40,105,110,41,32,59,10,32,32,32,32,108,101,116,32,110,32,61,32,48,32,59,10,32,32,32,32,119,104,105,108,101,32,120,32,62,32,48,32,123,32,110,32,61,32,110,32,43,32,120,32,37,32,50,32,59,32,120,32,61,32,120,32,47,32,50,32,59,32,125,10,32,32,32,32,111,117,116,32,110,32,59,10,32,32,125,10,125,10]
def gz:List UInt8:=[98,111,120,32,105,110,32,110,117,109,32,50,48,32,59,10,116,97,115,107,32,109,97,105,110,32,123,10,32,32,108,101,116,32,108,97,115,116,32,61,32,114,101,99,118,40,105,110,41,32,59,10,32,32,108,101,116,32,110,32,61,32,49,32,59,10,32,32,119,104,105,108,101,32,116,114,117,101,32,123,10,32,32,32,32,108,101,116,32,120,32,61,32,114,101,99,118,40,105,110,41,32,59,10,32,32,32,32,105,102,32,120,32,61,61,32,108,97,115,116,32,123,32,110,32,61,32,110,32,43,32,49,32,59,32,125,32,101,108,115,101,32,123,32,111,117,116,32,108,97,115,116,32,59,32,111,117,116,32,110,32,59,32,108,97,115,116,32,61,32,120,32,59,32,110,32,61,32,49,32,59,32,125,10,32,32,125,10,125,10]
def hz:List UInt8:=[98,111,120,32,105,110,32,110,117,109,32,50,48,32,59,10,116,97,115,107,32,109,97,105,110,32,123,10,32,32,119,104,105,108,101,32,116,114,117,101,32,123,10,32,32,32,32,108,101,116,32,110,32,61,32,114,101,99,118,40,105,110,41,32,59,10,32,32,32,32,108,101,116,32,107,32,61,32,48,32,59,10,32,32,32,32,119,104,105,108,101,32,110,32,62,32,49,32,123,10,32,32,32,32,32,32,105,102,32,110,32,37,32,50,32,61,61,32,48,32,123,32,110,32,61,32,110,32,47,32,50,32,59,32,125,32,101,108,115,101,32,123,32,110,32,61,32,51,32,42,32,110,32,43,32,49,32,59,32,125,10,32,32,32,32,32,32,107,32,61,32,107,32,43,32,49,32,59,10,32,32,32,32,125,10,32,32,32,32,111,117,116,32,107,32,59,10,32,32,125,10,125,10]
def iz:List UInt8:=[98,111,120,32,105,110,32,110,117,109,32,50,48,32,59,10,116,97,115,107,32,109,97,105,110,32,123,10,32,32,108,101,116,32,108,97,115,116,32,61,32,114,101,99,118,40,105,110,41,32,59,10,32,32,111,117,116,32,108,97,115,116,32,59,10,32,32,119,104,105,108,101,32,116,114,117,101,32,123,10,32,32,32,32,108,101,116,32,120,32,61,32,114,101,99,118,40,105,110,41,32,59,10,32,32,32,32,105,102,32,120,32,33,61,32,108,97,115,116,32,123,32,111,117,116,32,120,32,59,32,108,97,115,116,32,61,32,120,32,59,32,125,10,32,32,125,10,125,10]
def jz:List UInt8:=[98,111,120,32,105,110,32,110,117,109,32,50,48,32,59,10,116,97,115,107,32,109,97,105,110,32,123,10,32,32,119,104,105,108,101,32,116,114,117,101,32,123,10,32,32,32,32,108,101,116,32,120,32,61,32,114,101,99,118,40,105,110,41,32,59,10,32,32,32,32,108,101,116,32,115,32,61,32,48,32,59,10,32,32,32,32,119,104,105,108,101,32,120,32,62,32,48,32,123,32,115,32,61,32,115,32,43,32,120,32,37,32,49,48,32,59,32,120,32,61,32,120,32,47,32,49,48,32,59,32,125,10,32,32,32,32,111,117,116,32,115,32,59,10,32,32,125,10,125,10]
def kz:List UInt8:=[98,111,120,32,105,110,32,110,117,109,32,50,48,32,59,10,116,97,115,107,32,109,97,105,110,32,123,10,32,32,119,104,105,108,101,32,116,114,117,101,32,123,32,111,117,116,32,114,101,99,118,40,105,110,41,32,42,32,50,32,59,32,125,10,125,10]
def lz:List UInt8:=[98,111,120,32,105,110,32,110,117,109,32,50,48,32,59,10,116,97,115,107,32,109,97,105,110,32,123,10,32,32,119,104,105,108,101,32,116,114,117,101,32,123,10,32,32,32,32,108,101,116,32,120,32,61,32,114,101,99,118,40,105,110,41,32,59,10,32,32,32,32,105,102,32,120,32,37,32,50,32,61,61,32,48,32,123,32,111,117,116,32,120,32,59,32,125,10,32,32,125,10,125,10]
def mz:List UInt8:=[98,111,120,32,105,110,32,110,117,109,32,50,48,32,59,10,102,110,32,102,97,99,116,40,110,32,110,117,109,41,32,110,117,109,32,123,10,32,32,105,102,32,110,32,60,32,50,32,123,32,114,101,116,117,114,110,32,49,32,59,32,125,10,32,32,114,101,116,117,114,110,32,110,32,42,32,102,97,99,116,40,110,32,45,32,49,41,32,59,10,125,10,116,97,115,107,32,109,97,105,110,32,123,10,32,32,119,104,105,108,101,32,116,114,117,101,32,123,32,111,117,116,32,102,97,99,116,40,114,101,99,118,40,105,110,41,41,32,59,32,125,10,125,10]
def Ey:List UInt8:=[98,111,120,32,105,110,32,110,117,109,32,50,48,32,59,10,35,32,101,97,99,104,32,110,117,109,98,101,114,32,97,115,107,115,32,102,111,114,32,97,115,32,109,97,110,121,10,103,101,110,32,102,105,98,115,40,41,32,116,97,107,101,115,32,98,111,111,108,32,121,105,101,108,100,115,32,110,117,109,32,123,10,32,32,108,101,116,32,97,32,61,32,48,32,59,10,32,32,108,101,116,32,98,32,61,32,49,32,59,10,32,32,119,104,105,108,101,32,121,105,101,108,100,40,97,41,32,123,32,108,101,116,32,99,32,61,32,97,32,43,32,98,32,59,32,97,32,61,32,98,32,59,32,98,32,61,32,99,32,59,32,125,10,125,10,116,97,115,107,32,109,97,105,110,32,123,10,32,32,108,101,116,32,102,32,61,32,115,116,97,114,116,32,102,105,98,115,40,41,32,59,10,32,32,119,104,105,108,101,32,116,114,117,101,32,123,10,32,32,32,32,108,101,116,32,110,32,61,32,114,101,99,118,40,105,110,41,32,59,10,32,32,32,32,119,104,105,108,101,32,110,32,62,32,48,32,123,32,111,117,116,32,114,101,115,117,109,101,40,102,44,32,116,114,117,101,41,32,59,32,110,32,61,32,110,32,45,32,49,32,59,32,125,10,32,32,125,10,125,10]
def Fy:List UInt8:=[98,111,120,32,105,110,32,110,117,109,32,50,48,32,59,10,98,111,120,32,111,112,101,110,32,98,111,111,108,32,50,48,32,59,10,116,97,115,107,32,109,97,105,110,32,123,10,32,32,119,104,105,108,101,32,116,114,117,101,32,123,10,32,32,32,32,108,101,116,32,120,32,61,32,114,101,99,118,40,105,110,41,32,59,10,32,32,32,32,105,102,32,114,101,99,118,40,111,112,101,110,41,32,123,32,111,117,116,32,120,32,59,32,125,10,32,32,125,10,125,10]
def Gy:List UInt8:=[98,111,120,32,105,110,32,110,117,109,32,50,48,32,59,10,102,110,32,103,99,100,40,97,32,110,117,109,44,32,98,32,110,117,109,41,32,110,117,109,32,123,10,32,32,105,102,32,98,32,61,61,32,48,32,123,32,114,101,116,117,114,110,32,97,32,59,32,125,10,32,32,114,101,116,117,114,110,32,103,99,100,40,98,44,32,97,32,37,32,98,41,32,59,10,125,10,116,97,115,107,32,109,97,105,110,32,123,10,32,32,119,104,105,108,101,32,116,114,117,101,32,123,32,111,117,116,32,103,99,100,40,114,101,99,118,40,105,110,41,44,32,114,101,99,118,40,105,110,41,41,32,59,32,125,10,125,10]
def Hy:List UInt8:=[98,111,120,32,105,110,32,110,117,109,32,50,48,32,59,10,102,110,32,109,97,120,40,97,32,110,117,109,44,32,98,32,110,117,109,41,32,110,117,109,32,123,10,32,32,105,102,32,97,32,60,32,98,32,123,32,114,101,116,117,114,110,32,98,32,59,32,125,10,32,32,114,101,116,117,114,110,32,97,32,59,10,125,10,116,97,115,107,32,109,97,105,110,32,123,10,32,32,108,101,116,32,109,32,61,32,114,101,99,118,40,105,110,41,32,59,10,32,32,119,104,105,108,101,32,116,114,117,101,32,123,32,111,117,116,32,109,32,59,32,109,32,61,32,109,97,120,40,109,44,32,114,101,99,118,40,105,110,41,41,32,59,32,125,10,125,10]
def Iy:List UInt8:=[98,111,120,32,97,32,110,117,109,32,50,48,32,59,10,98,111,120,32,98,32,110,117,109,32,50,48,32,59,10,116,97,115,107,32,109,97,105,110,32,123,10,32,32,108,101,116,32,120,32,61,32,114,101,99,118,40,97,41,32,59,10,32,32,108,101,116,32,121,32,61,32,114,101,99,118,40,98,41,32,59,10,32,32,119,104,105,108,101,32,116,114,117,101,32,123,10,32,32,32,32,105,102,32,120,32,60,61,32,121,32,123,32,111,117,116,32,120,32,59,32,120,32,61,32,114,101,99,118,40,97,41,32,59,32,125,32,101,108,115,101,32,123,32,111,117,116,32,121,32,59,32,121,32,61,32,114,101,99,118,40,98,41,32,59,32,125,10,32,32,125,10,125,10]
def Jy:List UInt8:=[98,111,120,32,105,110,32,110,117,109,32,50,48,32,59,10,116,97,115,107,32,109,97,105,110,32,123,10,32,32,119,104,105,108,101,32,116,114,117,101,32,123,32,111,117,116,32,114,101,99,118,40,105,110,41,32,45,32,114,101,99,118,40,105,110,41,32,59,32,125,10,125,10]
def Ky:List UInt8:=[98,111,120,32,112,105,110,103,32,110,117,109,32,49,32,59,10,98,111,120,32,112,111,110,103,32,110,117,109,32,49,32,59,10,116,97,115,107,32,111,110,101,32,123,10,32,32,108,101,116,32,120,32,61,32,49,32,59,10,32,32,119,104,105,108,101,32,120,32,60,32,49,48,48,32,123,32,115,101,110,100,32,112,105,110,103,32,120,32,59,32,120,32,61,32,114,101,99,118,40,112,111,110,103,41,32,59,32,111,117,116,32,120,32,59,32,125,10,125,10,116,97,115,107,32,111,116,104,101,114,32,123,10,32,32,119,104,105,108,101,32,116,114,117,101,32,123,32,115,101,110,100,32,112,111,110,103,32,114,101,99,118,40,112,105,110,103,41,32,42,32,50,32,59,32,125,10,125,10]
def Ly:List UInt8:=[98,111,120,32,105,110,32,110,117,109,32,50,48,32,59,10,116,97,115,107,32,109,97,105,110,32,123,10,32,32,119,104,105,108,101,32,116,114,117,101,32,123,10,32,32,32,32,108,101,116,32,120,32,61,32,114,101,99,118,40,105,110,41,32,59,10,32,32,32,32,108,101,116,32,110,32,61,32,114,101,99,118,40,105,110,41,32,59,10,32,32,32,32,108,101,116,32,112,32,61,32,49,32,59,10,32,32,32,32,119,104,105,108,101,32,110,32,62,32,48,32,123,10,32,32,32,32,32,32,105,102,32,110,32,37,32,50,32,61,61,32,49,32,123,32,112,32,61,32,112,32,42,32,120,32,59,32,125,10,32,32,32,32,32,32,120,32,61,32,120,32,42,32,120,32,59,10,32,32,32,32,32,32,110,32,61,32,110,32,47,32,50,32,59,10,32,32,32,32,125,10,32,32,32,32,111,117,116,32,112,32,59,10,32,32,125,10,125,10]
def My:List UInt8:=[98,111,120,32,105,110,32,110,117,109,32,50,48,32,59,10,102,110,32,112,114,105,109,101,40,110,32,110,117,109,41,32,98,111,111,108,32,123,10,32,32,105,102,32,110,32,60,32,50,32,123,32,114,101,116,117,114,110,32,102,97,108,115,101,32,59,32,125,10,32,32,108,101,116,32,100,32,61,32,50,32,59,10,32,32,119,104,105,108,101,32,100,32,42,32,100,32,60,61,32,110,32,123,10,32,32,32,32,105,102,32,110,32,37,32,100,32,61,61,32,48,32,123,32,114,101,116,117,114,110,32,102,97,108,115,101,32,59,32,125,10,32,32,32,32,100,32,61,32,100,32,43,32,49,32,59,10,32,32,125,10,32,32,114,101,116,117,114,110,32,116,114,117,101,32,59,10,125,10,116,97,115,107,32,109,97,105,110,32,123,10,32,32,119,104,105,108,101,32,116,114,117,101,32,123,32,111,117,116,32,112,114,105,109,101,40,114,101,99,118,40,105,110,41,41,32,59,32,125,10,125,10]
def Ny:List UInt8:=[98,111,120,32,105,110,32,110,117,109,32,50,48,32,59,10,35,32,97,32,103,101,110,101,114,97,116,111,114,32,119,105,116,104,105,110,32,97,32,103,101,110,101,114,97,116,111,114,10,103,101,110,32,105,110,110,101,114,40,110,32,110,117,109,41,32,116,97,107,101,115,32,98,111,111,108,32,121,105,101,108,100,115,32,110,117,109,32,123,10,32,32,108,101,116,32,105,32,61,32,48,32,59,10,32,32,119,104,105,108,101,32,105,32,60,32,110,32,123,32,100,111,32,121,105,101,108,100,40,105,41,32,59,32,105,32,61,32,105,32,43,32,49,32,59,32,125,10,125,10,103,101,110,32,111,117,116,101,114,40,41,32,116,97,107,101,115,32,110,117,109,32,121,105,101,108,100,115,32,110,117,109,32,123,10,32,32,108,101,116,32,110,32,61,32,121,105,101,108,100,40,48,41,32,59,10,32,32,119,104,105,108,101,32,116,114,117,101,32,123,10,32,32,32,32,108,101,116,32,103,32,61,32,115,116,97,114,116,32,105,110,110,101,114,40,110,41,32,59,10,32,32,32,32,108,101,116,32,115,32,61,32,48,32,59,10,32,32,32,32,119,104,105,108,101,32,97,108,105,118,101,40,103,41,32,123,32,115,32,61,32,115,32,43,32,114,101,115,117,109,101,40,103,44,32,116,114,117,101,41,32,59,32,125,10,32,32,32,32,110,32,61,32,121,105,101,108,100,40,115,41,32,59,10,32,32,125,10,125,10,116,97,115,107,32,109,97,105,110,32,123,10,32,32,108,101,116,32,111,32,61,32,115,116,97,114,116,32,111,117,116,101,114,40,41,32,59,10,32,32,100,111,32,114,101,115,117,109,101,40,111,44,32,48,41,32,59,10,32,32,119,104,105,108,101,32,116,114,117,101,32,123,32,111,117,116,32,114,101,115,117,109,101,40,111,44,32,114,101,99,118,40,105,110,41,41,32,59,32,125,10,125,10]
def Oy:List UInt8:=[98,111,120,32,105,110,116,115,32,110,117,109,32,49,32,59,10,98,111,120,32,111,100,100,32,110,117,109,32,49,32,59,10,98,111,120,32,114,101,115,116,32,110,117,109,32,49,32,59,10,116,97,115,107,32,110,117,109,98,101,114,115,32,123,10,32,32,108,101,116,32,105,32,61,32,50,32,59,10,32,32,119,104,105,108,101,32,105,32,60,32,50,54,32,123,32,115,101,110,100,32,105,110,116,115,32,105,32,59,32,105,32,61,32,105,32,43,32,49,32,59,32,125,10,125,10,116,97,115,107,32,116,119,111,32,123,10,32,32,111,117,116,32,50,32,59,10,32,32,119,104,105,108,101,32,116,114,117,101,32,123,32,108,101,116,32,120,32,61,32,114,101,99,118,40,105,110,116,115,41,32,59,32,105,102,32,120,32,37,32,50,32,33,61,32,48,32,123,32,115,101,110,100,32,111,100,100,32,120,32,59,32,125,32,125,10,125,10,116,97,115,107,32,116,104,114,101,101,32,123,10,32,32,111,117,116,32,51,32,59,10,32,32,119,104,105,108,101,32,116,114,117,101,32,123,32,108,101,116,32,120,32,61,32,114,101,99,118,40,111,100,100,41,32,59,32,105,102,32,120,32,37,32,51,32,33,61,32,48,32,123,32,115,101,110,100,32,114,101,115,116,32,120,32,59,32,125,32,125,10,125,10,116,97,115,107,32,111,116,104,101,114,115,32,123,10,32,32,119,104,105,108,101,32,116,114,117,101,32,123,32,108,101,116,32,120,32,61,32,114,101,99,118,40,114,101,115,116,41,32,59,32,105,102,32,120,32,37,32,53,32,33,61,32,48,32,123,32,111,117,116,32,120,32,59,32,125,32,101,108,115,101,32,123,32,105,102,32,120,32,61,61,32,53,32,123,32,111,117,116,32,120,32,59,32,125,32,125,32,125,10,125,10]
def Py:List UInt8:=[98,111,120,32,105,110,32,110,117,109,32,50,48,32,59,10,116,97,115,107,32,109,97,105,110,32,123,10,32,32,108,101,116,32,115,32,61,32,48,32,59,10,32,32,119,104,105,108,101,32,116,114,117,101,32,123,32,115,32,61,32,115,32,43,32,114,101,99,118,40,105,110,41,32,59,32,111,117,116,32,115,32,59,32,125,10,125,10]
def Qy:List UInt8:=[98,111,120,32,105,110,32,110,117,109,32,50,48,32,59,10,35,32,116,119,111,32,116,104,97,116,32,116,97,107,101,32,116,117,114,110,115,10,103,101,110,32,112,108,117,115,40,107,32,110,117,109,41,32,116,97,107,101,115,32,110,117,109,32,121,105,101,108,100,115,32,110,117,109,32,123,10,32,32,108,101,116,32,120,32,61,32,121,105,101,108,100,40,48,41,32,59,10,32,32,119,104,105,108,101,32,116,114,117,101,32,123,32,120,32,61,32,121,105,101,108,100,40,120,32,43,32,107,41,32,59,32,125,10,125,10,116,97,115,107,32,109,97,105,110,32,123,10,32,32,108,101,116,32,97,32,61,32,115,116,97,114,116,32,112,108,117,115,40,49,41,32,59,10,32,32,108,101,116,32,98,32,61,32,115,116,97,114,116,32,112,108,117,115,40,45,49,41,32,59,10,32,32,100,111,32,114,101,115,117,109,101,40,97,44,32,48,41,32,59,10,32,32,100,111,32,114,101,115,117,109,101,40,98,44,32,48,41,32,59,10,32,32,119,104,105,108,101,32,116,114,117,101,32,123,32,111,117,116,32,114,101,115,117,109,101,40,97,44,32,114,101,99,118,40,105,110,41,41,32,59,32,111,117,116,32,114,101,115,117,109,101,40,98,44,32,114,101,99,118,40,105,110,41,41,32,59,32,125,10,125,10]
def Ry:List UInt8:=[98,111,120,32,105,110,32,110,117,109,32,50,48,32,59,10,116,97,115,107,32,109,97,105,110,32,123,10,32,32,108,101,116,32,120,32,61,32,114,101,99,118,40,105,110,41,32,59,10,32,32,119,104,105,108,101,32,120,32,33,61,32,48,32,123,32,111,117,116,32,120,32,59,32,120,32,61,32,114,101,99,118,40,105,110,41,32,59,32,125,10,125,10]
def Sy:List UInt8:=[98,111,120,32,105,110,32,110,117,109,32,50,48,32,59,10,116,97,115,107,32,109,97,105,110,32,123,10,32,32,108,101,116,32,97,32,61,32,114,101,99,118,40,105,110,41,32,59,10,32,32,108,101,116,32,98,32,61,32,114,101,99,118,40,105,110,41,32,59,10,32,32,119,104,105,108,101,32,116,114,117,101,32,123,10,32,32,32,32,108,101,116,32,99,32,61,32,114,101,99,118,40,105,110,41,32,59,10,32,32,32,32,111,117,116,32,97,32,43,32,98,32,43,32,99,32,59,10,32,32,32,32,97,32,61,32,98,32,59,10,32,32,32,32,98,32,61,32,99,32,59,10,32,32,125,10,125,10]
def Ty:List UInt8:=[98,111,120,32,97,32,110,117,109,32,50,48,32,59,10,98,111,120,32,98,32,110,117,109,32,50,48,32,59,10,116,97,115,107,32,109,97,105,110,32,123,10,32,32,119,104,105,108,101,32,116,114,117,101,32,123,32,111,117,116,32,114,101,99,118,40,97,41,32,43,32,114,101,99,118,40,98,41,32,59,32,125,10,125,10]
def Fx  :Option (List Nc):=
 some [(Nc.mk [97,118,101,114,97,103,101] ez),(Nc.mk [98,105,116,115] fz),(Nc.mk [99,104,97,110,103,101,115] gz),(Nc.mk [99,111,108,108,97,116,122] hz),(Nc.mk [100,101,100,117,112,101] iz),(Nc.mk [100,105,103,105,116,115] jz),(Nc.mk [100,111,117,98,108,101] kz),(Nc.mk [101,118,101,110,115] lz),(Nc.mk [102,97,99,116] mz)]
def Zw  :Option (List Nc):=
 some [(Nc.mk [102,105,98] Ey),(Nc.mk [103,97,116,101] Fy),(Nc.mk [103,99,100] Gy),(Nc.mk [103,114,101,97,116,101,115,116] Hy),(Nc.mk [109,101,114,103,101] Iy),(Nc.mk [112,97,105,114,115] Jy),(Nc.mk [112,105,110,103,112,111,110,103] Ky),(Nc.mk [112,111,119,101,114] Ly),(Nc.mk [112,114,105,109,101] My)]
def Wx  :Option (List Nc):=
 some [(Nc.mk [114,111,117,110,100,115] Ny),(Nc.mk [115,105,101,118,101] Oy),(Nc.mk [115,117,109,115] Py),(Nc.mk [116,117,114,110,115] Qy),(Nc.mk [117,110,116,105,108] Ry),(Nc.mk [119,105,110,100,111,119] Sy),(Nc.mk [122,105,112] Ty)]
def Gx  (p_1:Nc) (a:List UInt8):Option Bool :=
 some (decide (p_1.name=a))
def Zr (p_1:List Nc) (a:Nc→Option Bool):Nat→Int→Option Int
 | 0,_=>none
 | n+1,i20 =>
 if i20<(p_1.length:Int) then
   (at_ p_1 i20).bind fun b =>
   (a b).bind fun c =>
   if c=true then
  some i20
   else
  (i64 (i20+1)).bind fun i49 =>
  Zr p_1 a n i49
 else
   none
def Kv  (p_1:List Nc) (a:Nc→Option Bool):Option Int :=
 Zr p_1 a (p_1.length+1) 0
end Go.Y
namespace Go.Y
open Go.vc Go.hd
def yw  (a:Int):Option (List Nc):=
 if a<0 then
 none
 else
 (i64 (0 - 0)).bind fun i5 =>
 (i64 (a - i5)).bind fun i7 =>
 if (0:Int)<i7 then
   (uv i7).bind fun na =>
   (cut (List.replicate na ((Nc.mk [] []):Nc)) 0 0).bind fun b =>
   some b
 else
   none
def bs (p_1:List (List Nc)):Nat→Int→(List Nc)→Option (List Nc)
 | 0,_,_=>none
 | n+1,i83,a =>
 if i83<(p_1.length:Int) then
   (at_ p_1 i83).bind fun b =>
   (app a b).bind fun c =>
   (i64 (i83+1)).bind fun i129 =>
   bs p_1 n i129 c
 else
   some a
def fs (p_1:List (List Nc)):Nat→Int→Int→Option (List Nc)
 | 0,_,_=>none
 | n+1,i22,i23 =>
 if i23<(p_1.length:Int) then
   (at_ p_1 i23).bind fun a =>
   (i64 (i22+(a.length:Int))).bind fun i52 =>
   if i52<0 then
  none
   else
  (i64 (i23+1)).bind fun i55 =>
  fs p_1 n i52 i55
 else
   (yw i22).bind fun b =>
   bs p_1 (p_1.length+1) 0 b
def Sv  (p_1:List (List Nc)):Option (List Nc):=
 fs p_1 (p_1.length+1) 0 0
def py  :Option (List Nc):=
 (Fx ).bind fun a =>
 (Zw ).bind fun b =>
 (Wx ).bind fun c =>
 (Sv [a,b,c]).bind fun d =>
 some d
def Xx  (p_1:List UInt8):Option (List UInt8×Int):=
 (py ).bind fun a =>
 (Kv a (fun c=>Gx c p_1)).bind fun b =>
 if b<0 then
 none
 else
 (at_ a b).bind fun d =>
 some (d.text,0)
def dw (a:Sc×yf):Option (Sc×Int):=
 some (a.1,a.2.Th)
def Yq (fu:Nat)  (p_1:List UInt8):Option (Sc×Int):=
 (Xx p_1).bind fun a =>
 if a.2≠0 then
 none
 else
 (qx fu a.1).bind fun b =>
 if b.2.Th≠0 then
   none
 else
   (vw fu b.1).bind fun c =>
   dw c
def dv (fu:Nat)  (p_1:List UInt8) (c:List (List Int)):Option (Uj×Int):=
 (Yq fu p_1).bind fun a =>
 if a.2≠0 then
 none
 else
 (pr fu a.1 0 c 5000).bind fun b =>
 some (b.1,b.2)
end Go.Y
