/- The shelf: texts of Md. -/
import Derived.Test.YthdpoglpdpfnbaaGreatDoorCXu
set_option linter.unusedSimpArgs false
set_option linter.unusedVariables false
set_option linter.unusedSectionVars false
namespace Go.Y
open Go.wc Go.hd
structure zb where
 Kind:Int
 N:Int
 Name:List UInt8
 Kids:List zb
 deriving Inhabited,Repr
structure ee where
 Kind:Int
 Name:List UInt8
 X:zb
 Body:List ee
 Dj:List ee
 deriving Inhabited,Repr
def Ek {α:Type}(sz:Nat) (μ:M) (a:Option Addr) (c:Nat) (xs:List α) (g:Nat→List Value):Prop :=
 xs.length≤c∧c≤maxLen∧(xs=[]∨∃ b o,a=some ⟨b,o,none⟩∧∀ (i:Nat) (y:α),xs[i]?=some y→uc μ b (o+i*sz) (g i))
inductive Cm (μ:M):List Value→zb→Prop where
 | mk (x:zb) (a:Option Addr) (c:Nat) (g:Nat→List Value) (h:Ek 4 μ a c x.Kids g) (k:∀ (i:Nat) (y:zb),x.Kids[i]?=some y→Cm μ (g i) y) :
 Cm μ [.int .i64 x.Kind,.int .i64 x.N,S x.Name,.slice a x.Kids.length c] x
theorem Ek.rq {α:Type}{sz:Nat}{μ:M}{a:Option Addr}{c:Nat}{xs:List α}{g:Nat→List Value}{R:List Value→α→Prop}(h:Ek sz μ a c xs g) (k:∀ (i:Nat) (y:α),xs[i]?=some y→R (g i) y):Ec sz R μ a c xs:=by
 refine ⟨h.1,h.2.1,?_⟩;rcases h.2.2 with h | ⟨b,o,e,f⟩
 ·exact .inl h
 ·exact .inr ⟨b,o,e,g,fun i x d=>⟨f i x d,k i x d⟩⟩
theorem Ek.of {α:Type}{sz:Nat}{μ:M}{a:Option Addr}{c:Nat}{xs:List α}{R:List Value→α→Prop}(h:Ec sz R μ a c xs):∃ g,Ek sz μ a c xs g∧∀ (i:Nat) (y:α),xs[i]?=some y→R (g i) y:=by
 rcases h.el with e | ⟨b,o,j,g,f⟩
 ·exact ⟨fun _=>[],⟨h.le,h.cap,.inl e⟩,fun i y d=>by simp [e] at d⟩
 ·exact ⟨g,⟨h.le,h.cap,.inr ⟨b,o,j,fun i y d=>(f i y d).1⟩⟩,fun i y d=>(f i y d).2⟩
theorem Ek.up {α:Type}{sz:Nat}{μ I:M}{a:Option Addr}{c:Nat}{xs:List α}{g:Nat→List Value}(h:Ek sz μ a c xs g) (l:ga μ I):Ek sz I a c xs g:=by
 refine ⟨h.1,h.2.1,?_⟩;rcases h.2.2 with h | ⟨b,o,d,e⟩
 ·exact .inl h
 ·exact .inr ⟨b,o,d,fun i y f=>(e i y f).up l⟩
theorem Cm.up {μ I:M}(l:ga μ I){cs:List Value}{x:zb}(h:Cm μ cs x):Cm I cs x:=by
 induction h with
 | mk x a c g h k b=>exact .mk x a c g (h.up l) b
instance:Ta zb where
 sz:=4
 pos:=by decide
 cs:=Cm
 nh h:=by cases h;rfl
 up l h:=Cm.up l h
 Rg h:=by cases h;rfl
theorem zb.o {μ:M}{l:List Value}{x:zb}(h:Ta.cs μ l x):∃ a c,l=[.int .i64 x.Kind,.int .i64 x.N,S x.Name,.slice a x.Kids.length c]∧ua μ a c x.Kids:=by
 have b:Cm μ l x:=h;cases b with
 | mk _ a c g d k1=>exact ⟨a,c,rfl,d.rq k1⟩
theorem zb.i {μ:M}{l:List Value}{x:zb}(h:∃ a c,l=[.int .i64 x.Kind,.int .i64 x.N,S x.Name,.slice a x.Kids.length c]∧ua μ a c x.Kids):Ta.cs μ l x:=by
 obtain ⟨a,c,rfl,h⟩:=h;obtain ⟨g,h,k⟩:=Ek.of h;exact Cm.mk x a c g h k
inductive Ol (μ:M):List Value→ee→Prop where
 | mk (x:ee) (O:Option Addr) (a:Nat) (a2:Option Addr) (c2:Nat) (a3:Option Addr) (c3:Nat) (g2 g3:Nat→List Value) (b:ua μ O a x.X.Kids)
   (c:Ek 8 μ a2 c2 x.Body g2) (d:∀ (i:Nat) (y:ee),x.Body[i]?=some y→Ol μ (g2 i) y)
   (e:Ek 8 μ a3 c3 x.Dj g3) (f:∀ (i:Nat) (y:ee),x.Dj[i]?=some y→Ol μ (g3 i) y) :
 Ol μ [.int .i64 x.Kind,S x.Name,.int .i64 x.X.Kind,.int .i64 x.X.N,S x.X.Name,.slice O x.X.Kids.length a,.slice a2 x.Body.length c2,.slice a3 x.Dj.length c3] x
theorem Ol.up {μ I:M}(l:ga μ I){cs:List Value}{x:ee}(h:Ol μ cs x):Ol I cs x:=by
 induction h with
 | mk x O a a2 c2 a3 c3 g2 g3 b c g d i e f=>exact .mk x O a a2 c2 a3 c3 g2 g3 (b.up l) (c.up l) e (d.up l) f
instance:Ta ee where
 sz:=8
 pos:=by decide
 cs:=Ol
 nh h:=by cases h;rfl
 up l h:=Ol.up l h
 Rg h:=by cases h;rfl
theorem ee.o {μ:M}{l:List Value}{x:ee}(h:Ta.cs μ l x):∃ O a a2 c2 a3 c3,l=[.int .i64 x.Kind,S x.Name,.int .i64 x.X.Kind,.int .i64 x.X.N,S x.X.Name,.slice O x.X.Kids.length a,.slice a2 x.Body.length c2,.slice a3 x.Dj.length c3]∧ua μ O a x.X.Kids∧ua μ a2 c2 x.Body∧ua μ a3 c3 x.Dj:=by
 have b:Ol μ l x:=h;cases b with
 | mk _ O a a2 c2 a3 c3 g2 g3 c d e f g=>exact ⟨O,a,a2,c2,a3,c3,rfl,c,d.rq e,f.rq g⟩
theorem ee.i {μ:M}{l:List Value}{x:ee}(h:∃ O a a2 c2 a3 c3,l=[.int .i64 x.Kind,S x.Name,.int .i64 x.X.Kind,.int .i64 x.X.N,S x.X.Name,.slice O x.X.Kids.length a,.slice a2 x.Body.length c2,.slice a3 x.Dj.length c3]∧ua μ O a x.X.Kids∧ua μ a2 c2 x.Body∧ua μ a3 c3 x.Dj):Ta.cs μ l x:=by
 obtain ⟨O,a,a2,c2,a3,c3,rfl,d,b,c⟩:=h;obtain ⟨g2,b,e⟩:=Ek.of b;obtain ⟨g3,c,f⟩:=Ek.of c;exact Ol.mk x O a a2 c2 a3 c3 g2 g3 d b e c f
structure Tb where
 Kind:Int
 Text:List UInt8
 qC:Int
 uc:Int
 deriving DecidableEq,Inhabited,Repr
instance:Ta Tb where
 sz:=4
 pos:=by decide
 cs μ l x:=l=[.int .i64 x.Kind,S x.Text,.int .i64 x.qC,.int .i64 x.uc]
 nh h:=by obtain rfl:=h;rfl
 up le h:=by exact h
 Rg h:=by obtain rfl:=h;rfl
structure yf where
 Th:Int
 uc:Int
 deriving DecidableEq,Inhabited,Repr
structure sc where
 Kind:Int
 Lc:List UInt8
 deriving DecidableEq,Inhabited,Repr
instance:Ta sc where
 sz:=2
 pos:=by decide
 cs μ l x:=l=[.int .i64 x.Kind,S x.Lc]
 nh h:=by obtain rfl:=h;rfl
 up le h:=by exact h
 Rg h:=by obtain rfl:=h;rfl
structure TParam where
 Name:List UInt8
 ue:sc
 deriving DecidableEq,Inhabited,Repr
instance:Ta TParam where
 sz:=3
 pos:=by decide
 cs μ l x:=l=[S x.Name,.int .i64 x.ue.Kind,S x.ue.Lc]
 nh h:=by obtain rfl:=h;rfl
 up le h:=by exact h
 Rg h:=by obtain rfl:=h;rfl
structure Kb where
 Kind:Int
 Name:List UInt8
 ue:sc
 ae:sc
 dh:Int
 Params:List TParam
 Body:List ee
 deriving Inhabited,Repr
instance:Ta Kb where
 sz:=9
 pos:=by decide
 cs μ l x:=∃ O a a2 c2,l=[.int .i64 x.Kind,S x.Name,.int .i64 x.ue.Kind,S x.ue.Lc,.int .i64 x.ae.Kind,S x.ae.Lc,.int .i64 x.dh,.slice O x.Params.length a,.slice a2 x.Body.length c2]∧ua μ O a x.Params∧ua μ a2 c2 x.Body
 nh h:=by obtain ⟨O,a,a2,c2,rfl,m1,m2⟩:=h;rfl
 up le h:=by obtain ⟨O,a,a2,c2,rfl,m1,m2⟩:=h;exact ⟨O,a,a2,c2,rfl,m1.up le,m2.up le⟩
 Rg h:=by obtain ⟨O,a,a2,c2,rfl,m1,m2⟩:=h;rfl
theorem Kb.i {μ:M}{l:List Value}{x:Kb}(h:∃ O a a2 c2,l=[.int .i64 x.Kind,S x.Name,.int .i64 x.ue.Kind,S x.ue.Lc,.int .i64 x.ae.Kind,S x.ae.Lc,.int .i64 x.dh,.slice O x.Params.length a,.slice a2 x.Body.length c2]∧ua μ O a x.Params∧ua μ a2 c2 x.Body):Ta.cs μ l x:=h
structure Zi where
 tv:List UInt8
 Writer:List UInt8
 Reader:List UInt8
 deriving DecidableEq,Inhabited,Repr
instance:Ta Zi where
 sz:=3
 pos:=by decide
 cs μ l x:=l=[S x.tv,S x.Writer,S x.Reader]
 nh h:=by obtain rfl:=h;rfl
 up le h:=by exact h
 Rg h:=by obtain rfl:=h;rfl
instance:Fh sc:=⟨Pm,Pm.up⟩
instance:Fh Kb:=⟨dm,dm.up⟩
structure Ue where
 defs:List Kb
 named:List (List UInt8×Kb)
 deriving Inhabited,Repr
structure Fg where
 calls:List (List UInt8)
 Sl:List (List UInt8)
 Tl:List (List UInt8)
 deriving DecidableEq,Inhabited,Repr
instance:Ta Fg where
 sz:=3
 pos:=by decide
 cs μ l x:=∃ O a a2 c2 a3 c3,l=[.slice O x.calls.length a,.slice a2 x.Sl.length c2,.slice a3 x.Tl.length c3]∧ua μ O a x.calls∧ua μ a2 c2 x.Sl∧ua μ a3 c3 x.Tl
 nh h:=by obtain ⟨O,a,a2,c2,a3,c3,rfl,m1,m2,m3⟩:=h;rfl
 up le h:=by obtain ⟨O,a,a2,c2,a3,c3,rfl,m1,m2,m3⟩:=h;exact ⟨O,a,a2,c2,a3,c3,rfl,m1.up le,m2.up le,m3.up le⟩
 Rg h:=by obtain ⟨O,a,a2,c2,a3,c3,rfl,m1,m2,m3⟩:=h;rfl
theorem Fg.i {μ:M}{l:List Value}{x:Fg}(h:∃ O a a2 c2 a3 c3,l=[.slice O x.calls.length a,.slice a2 x.Sl.length c2,.slice a3 x.Tl.length c3]∧ua μ O a x.calls∧ua μ a2 c2 x.Sl∧ua μ a3 c3 x.Tl):Ta.cs μ l x:=h
structure yh where
 En:List (List UInt8×Int)
 once:Bool
 deriving DecidableEq,Inhabited,Repr
instance:Ta yh where
 sz:=2
 pos:=by decide
 cs μ l x:=∃ L,l=[.map (some L),.bool x.once]∧Sf μ L x.En
 nh h:=by obtain ⟨L,rfl,m1⟩:=h;rfl
 up le h:=by obtain ⟨L,rfl,m1⟩:=h;exact ⟨L,rfl,m1.up le⟩
 Rg h:=by obtain ⟨L,rfl,m1⟩:=h;rfl
theorem yh.i {μ:M}{l:List Value}{x:yh}(h:∃ L,l=[.map (some L),.bool x.once]∧Sf μ L x.En):Ta.cs μ l x:=h
structure hh where
 boxes:List (List UInt8×Int)
 Ok:List (List UInt8×Int)
 defs:List (List UInt8×Kb)
 deriving Inhabited,Repr
instance:Fh Fg:=⟨Pm,Pm.up⟩
structure Vj where
 ue:Int
 dh:Int
 deriving DecidableEq,Inhabited,Repr
instance:Ta Vj where
 sz:=2
 pos:=by decide
 cs μ l x:=l=[.int .i64 x.ue,.int .i64 x.dh]
 nh h:=by obtain rfl:=h;rfl
 up le h:=by exact h
 Rg h:=by obtain rfl:=h;rfl
structure Ic where
 Op:Int
 A:Int
 N:Int
 deriving DecidableEq,Inhabited,Repr
instance:Ta Ic where
 sz:=3
 pos:=by decide
 cs μ l x:=l=[.int .i64 x.Op,.int .i64 x.A,.int .i64 x.N]
 nh h:=by obtain rfl:=h;rfl
 up le h:=by exact h
 Rg h:=by obtain rfl:=h;rfl
structure ef where
 Kind:Int
 Params:Int
 od:List Int
 Result:Int
 ae:Int
 Code:List Ic
 deriving DecidableEq,Inhabited,Repr
instance:Ta ef where
 sz:=6
 pos:=by decide
 cs μ l x:=∃ O a a2 c2,l=[.int .i64 x.Kind,.int .i64 x.Params,.slice O x.od.length a,.int .i64 x.Result,.int .i64 x.ae,.slice a2 x.Code.length c2]∧ua μ O a x.od∧ua μ a2 c2 x.Code
 nh h:=by obtain ⟨O,a,a2,c2,rfl,m1,m2⟩:=h;rfl
 up le h:=by obtain ⟨O,a,a2,c2,rfl,m1,m2⟩:=h;exact ⟨O,a,a2,c2,rfl,m1.up le,m2.up le⟩
 Rg h:=by obtain ⟨O,a,a2,c2,rfl,m1,m2⟩:=h;rfl
theorem ef.i {μ:M}{l:List Value}{x:ef}(h:∃ O a a2 c2,l=[.int .i64 x.Kind,.int .i64 x.Params,.slice O x.od.length a,.int .i64 x.Result,.int .i64 x.ae,.slice a2 x.Code.length c2]∧ua μ O a x.od∧ua μ a2 c2 x.Code):Ta.cs μ l x:=h
structure Wc where
 Qe:List Vj
 Gd:List ef
 deriving DecidableEq,Inhabited,Repr
instance:Ta Wc where
 sz:=2
 pos:=by decide
 cs μ l x:=∃ O a a2 c2,l=[.slice O x.Qe.length a,.slice a2 x.Gd.length c2]∧ua μ O a x.Qe∧ua μ a2 c2 x.Gd
 nh h:=by obtain ⟨O,a,a2,c2,rfl,m1,m2⟩:=h;rfl
 up le h:=by obtain ⟨O,a,a2,c2,rfl,m1,m2⟩:=h;exact ⟨O,a,a2,c2,rfl,m1.up le,m2.up le⟩
 Rg h:=by obtain ⟨O,a,a2,c2,rfl,m1,m2⟩:=h;rfl
theorem Wc.i {μ:M}{l:List Value}{x:Wc}(h:∃ O a a2 c2,l=[.slice O x.Qe.length a,.slice a2 x.Gd.length c2]∧ua μ O a x.Qe∧ua μ a2 c2 x.Gd):Ta.cs μ l x:=h
structure Qh where
 Th:Int
 Unit:Int
 uc:Int
 deriving DecidableEq,Inhabited,Repr
structure Qj where
 State:Int
 tv:Int
 jC:Int
 Out:List Int
 ov:List (List Int)
 pv:List Int
 Steps:Int
 deriving DecidableEq,Inhabited,Repr
structure Mc where
 name:List UInt8
 text:List UInt8
 deriving DecidableEq,Inhabited,Repr
instance:Ta Mc where
 sz:=2
 pos:=by decide
 cs μ l x:=l=[S x.name,S x.text]
 nh h:=by obtain rfl:=h;rfl
 up le h:=by exact h
 Rg h:=by obtain rfl:=h;rfl
structure Cd where
 stack:List Int
 has:List Bool
 deriving DecidableEq,Inhabited,Repr
instance:Ta Cd where
 sz:=2
 pos:=by decide
 cs μ l x:=∃ O a a2 c2,l=[.slice O x.stack.length a,.slice a2 x.has.length c2]∧ua μ O a x.stack∧ua μ a2 c2 x.has
 nh h:=by obtain ⟨O,a,a2,c2,rfl,m1,m2⟩:=h;rfl
 up le h:=by obtain ⟨O,a,a2,c2,rfl,m1,m2⟩:=h;exact ⟨O,a,a2,c2,rfl,m1.up le,m2.up le⟩
 Rg h:=by obtain ⟨O,a,a2,c2,rfl,m1,m2⟩:=h;rfl
theorem Cd.i {μ:M}{l:List Value}{x:Cd}(h:∃ O a a2 c2,l=[.slice O x.stack.length a,.slice a2 x.has.length c2]∧ua μ O a x.stack∧ua μ a2 c2 x.has):Ta.cs μ l x:=h
structure Be where
 m:Option Wc
 deriving DecidableEq,Inhabited,Repr
instance:Ta Be where
 sz:=1
 pos:=by decide
 cs μ l x:=∃ v1,l=[v1]∧Ke μ v1 x.m
 nh h:=by obtain ⟨v1,rfl,m1⟩:=h;rfl
 up le h:=by obtain ⟨v1,rfl,m1⟩:=h;exact ⟨v1,rfl,m1.up le⟩
 Rg h:=by obtain ⟨v1,rfl,m1⟩:=h;simp [m1.Kd]
theorem Be.i {μ:M}{l:List Value}{x:Be}(h:∃ v1,l=[v1]∧Ke μ v1 x.m):Ta.cs μ l x:=h
instance:Fh Cd:=⟨Pm,Pm.up⟩
end Go.Y
namespace Go.Y
open Go.wc Go.hd
def xI : List UInt8 := [32,98,111,120,32,102,110,32,103,101,110,32,116,97,115,107,32,116,97,107,101,115,32,121,105,101,108,100,115,32,108,101,116,32,105,102,32,101,108,115,101,32,119,104,105,108,101,32,114,101,116,117,114,110,32,115,116,111,112,32,115,101,110,100,32,111,117,116,32,100,111,32,114,101,99,118,32,121,105,101,108,100,32,115,116,97,114,116,32,114,101,115,117,109,101,32,97,108,105,118,101,32,110,117,109,32,98,111,111,108,32,116,114,117,101,32,102,97,108,115,101,32,97,110,100,32,111,114,32,110,111,116,32]
def zp  (p_1 : UInt8) : Option Bool :=
 if (97 : Int) ≤ (p_1.toNat : Int) then
  if (p_1.toNat : Int) ≤ 122 then
   some true
  else
   some (decide ((p_1.toNat : Int) = 95))
 else
  some (decide ((p_1.toNat : Int) = 95))
def Wq  (p_1 : UInt8) : Option Bool :=
 if (48 : Int) ≤ (p_1.toNat : Int) then
  some (decide ((p_1.toNat : Int) ≤ 57))
 else
  some false
def Cs (i13 : Int) (a : Int → Option Int) (b : Bool) : Option Int :=
 if b = true then
  (i64 (i13 + 1)).bind fun i33 =>
  a i33
 else
  some i13
def dp (p_1 : List UInt8) (a : UInt8 → Option Bool) : Nat → Int → Option Int
 | 0, _ => none
 | n + 1, i13 =>
  if i13 < (p_1.length : Int) then
   (at_ p_1 i13).bind fun b =>
   (a b).bind fun c =>
   Cs i13 (dp p_1 a n) c
  else
   Cs i13 (dp p_1 a n) false
def Hp (fu : Nat)  (p_1 : List UInt8) (a : UInt8 → Option Bool) : Option Int :=
 dp p_1 a fu 0
def oy  (p_1 : UInt8) : Option Bool :=
 (zp p_1).bind fun a =>
 if a = true then
  some true
 else
  (Wq p_1).bind fun b =>
  some b
def py  (p_1 : UInt8) : Option Bool :=
 some (decide ((p_1.toNat : Int) ≠ 10))
def qy  (p_1 : UInt8) : Option Bool :=
 (zp p_1).bind fun a =>
 if a = true then
  some true
 else
  none
def ay  (p_1 a : List UInt8) : Option Bool :=
 if (a.length : Int) ≤ (p_1.length : Int) then
  (cut p_1 0 (a.length : Int)).bind fun s2 =>
  some (decide (s2 = a))
 else
  none
def ry  (p_1 a : List UInt8) : Option Bool :=
 (ay p_1 a).bind fun b =>
 some b
def dt (p_1 : List UInt8) : Nat → Int → Option (List UInt8)
 | 0, _ => none
 | n + 1, i18 =>
  if i18 < 18 then
   (at_ [[61, 61], [33, 61], [60, 61], [62, 61], [60], [62], [61], [43], [45], [42], [47], [37], [40], [41], [123], [125], [44], [59]] i18).bind fun a =>
   (ry p_1 a).bind fun b =>
   if b = true then
    some a
   else
    (i64 (i18 + 1)).bind fun i46 =>
    dt p_1 n i46
  else
   none
def Ex  (p_1 : List UInt8) : Option (List UInt8):=
 dt p_1 19 0
def Ds (fu : Nat) (p_1 : List UInt8) (i13 : Int) (b : UInt8) (a : Int → Option Int) (Nj : Bool) : Option Int :=
 if Nj = true then
  (i64 (i13 + 1)).bind fun i35 =>
  a i35
 else
  if (b.toNat : Int) = 35 then
   (cut p_1 i13 p_1.length).bind fun c =>
   (Hp fu c py).bind fun d =>
   (i64 (i13 + d)).bind fun i43 =>
   a i43
  else
   some i13
def ep (fu : Nat) (p_1 : List UInt8) : Nat → Int → Option Int
 | 0, _ => none
 | n + 1, i13 =>
  if i13 < (p_1.length : Int) then
   (at_ p_1 i13).bind fun a =>
   if (a.toNat : Int) = 32 then
    Ds fu p_1 i13 a (ep fu p_1 n) (decide ((a.toNat : Int) = 32))
   else
    if (a.toNat : Int) = 9 then
     none
    else
     Ds fu p_1 i13 a (ep fu p_1 n) (decide ((a.toNat : Int) = 10))
  else
   some i13
def gu (fu : Nat)  (p_1 : List UInt8) : Option Int :=
 ep fu p_1 fu 0
def Fl (fu : Nat)  (p_1 : List UInt8) : Option Bool :=
 if (p_1.length : Int) < 1 then
  none
 else
  if (12 : Int) < (p_1.length : Int) then
   none
  else
   (at_ p_1 0).bind fun a =>
   (zp a).bind fun b =>
   if b = true then
    (cat [32] p_1).bind fun c =>
    (cat c [32]).bind fun d =>
    (ny xI d).bind fun Zg =>
    if Zg = true then
     none
    else
     (Hp fu p_1 qy).bind fun e =>
     some (decide (e = (p_1.length : Int)))
   else
    none
def xq (fu : Nat) (p_1 : List UInt8) (i58 : Int) (b : List Tb) (c : Int → (List Tb) → Option (List Tb × yf)) (i118 : Int) (a : List UInt8) (i120 : Int) : Option (List Tb × yf):=
 (app b [(Tb.mk i118 a i120 i58)]).bind fun d =>
 (i64 (i58 + (a.length : Int))).bind fun i154 =>
 (cut p_1 i154 p_1.length).bind fun e =>
 (gu fu e).bind fun f =>
 (i64 (i154 + f)).bind fun i161 =>
 c i161 d
def ao (fu : Nat) (p_1 : List UInt8) : Nat → Int → (List Tb) → Option (List Tb × yf)
 | 0, _, _ => none
 | n + 1, i58, b =>
  if i58 < (p_1.length : Int) then
   (cut p_1 i58 p_1.length).bind fun a =>
   (at_ a 0).bind fun d =>
   (zp d).bind fun f =>
   if f = true then
    (Hp fu a oy).bind fun g =>
    (cut a 0 g).bind fun h =>
    xq fu p_1 i58 b (ao fu p_1 n) 1 h 0
   else
    (Wq d).bind fun i =>
    if i = true then
     (Hp fu a Wq).bind fun j =>
     (cut a 0 j).bind fun c =>
     if (15 : Int) < (c.length : Int) then
      none
     else
      (Ty c).bind fun i140 =>
      xq fu p_1 i58 b (ao fu p_1 n) 2 c i140
    else
     (Ex a).bind fun e =>
     if e = [] then
      none
     else
      xq fu p_1 i58 b (ao fu p_1 n) 3 e 0
  else
   some (b, (yf.mk 0 0))
def uw (fu : Nat)  (p_1 : List UInt8) : Option (List Tb × yf):=
 if (6000 : Int) < (p_1.length : Int) then
  none
 else
  (gu fu p_1).bind fun a =>
  ao fu p_1 fu a []
end Go.Y
namespace Go.Y
open Go.wc Go.hd
def Es  (mi:Bool):Option Int :=
 if mi=true then
 some 2
 else
 some (-1)
def Cq (p_1:Int) (eg:Bool):Option Int :=
 if eg=true then
 some 1
 else
 if p_1≤18 then
   Es true
 else
   Es (decide (p_1=23))
def Fs (p_1:Int) (L:Bool):Option Int :=
 if L=true then
 some 0
 else
 if p_1≤5 then
   Cq p_1 true
 else
   if p_1=21 then
  Cq p_1 true
   else
  Cq p_1 (decide (p_1=24))
def gx  (p_1:Int):Option Int :=
 if p_1≤3 then
 Fs p_1 true
 else
 Fs p_1 (decide (p_1=20))
def Xq  (a:Int) (b:Int):Option (Int×Int):=
 (i64 (a+1)).bind fun i3 =>
 if (2000:Int)<i3 then
 none
 else
 if (40:Int)<b then
   none
 else
   some (0,i3)
def dr  (p_1:sc):Option Int :=
 if p_1.Kind<1 then
 none
 else
 if (3:Int)<p_1.Kind then
   none
 else
   if p_1.Kind=3 then
  none
   else
  some 0
structure Ml where
 Kl:Int→zb→Int→Option (Int×Int)
def Gs (self:Ml) (a:zb) (b:Int):Nat→Int→Int→Option (Int×Int)
 | 0,_,_=>none
 | n+1,i69,i70 =>
 if i69<(a.Kids.length:Int) then
   (at_ a.Kids i69).bind fun d =>
   (i64 (b+1)).bind fun i102 =>
   (self.Kl i70 d i102).bind fun c =>
   if c.1≠0 then
  none
   else
  (i64 (i69+1)).bind fun i108 =>
  Gs self a b n i108 c.2
 else
   some (0,i70)
def Hs (self:Ml) (a:zb) (b:Int) (c:Int×Int) (d:Bool):Option (Int×Int):=
 if d=true then
 none
 else
 Gs self a b (a.Kids.length+1) 0 c.2
def Is (self:Ml) (a:zb) (b:Int) (c:Int×Int) (d:Int) (e:Bool):Option (Int×Int):=
 if e=true then
 none
 else
 if d<0 then
   Hs self a b c (decide ((6:Int)<(a.Kids.length:Int)))
 else
   Hs self a b c false
def fp (self:Ml) (b:zb) (c:Int) (d:Int×Int) (a:Int) (e:Bool):Option (Int×Int):=
 if e=true then
 none
 else
 if (0:Int)≤a then
   Is self b c d a (decide ((b.Kids.length:Int)≠a))
 else
   Is self b c d a false
def Js (fu:Nat) (self:Ml) (a:zb) (c:Int) (d:Int×Int) (b:Int) (e:Bool):Option (Int×Int):=
 if e=true then
 none
 else
 if a.Kind=3 then
   (Fl fu a.Name).bind fun f =>
   fp self a c d b (!f)
 else
   if a.Kind=20 then
  (Fl fu a.Name).bind fun g =>
  fp self a c d b (!g)
   else
  if b<0 then
     (Fl fu a.Name).bind fun h =>
     fp self a c d b (!h)
  else
     fp self a c d b false
def Ks (fu:Nat) (self:Ml) (a:zb) (b:Int) (c:Int×Int) (d:Int) (mh:Bool):Option (Int×Int):=
 if mh=true then
 none
 else
 if a.Kind=2 then
   if a.N≠0 then
  Js fu self a b c d (decide (a.N≠1))
   else
  none
 else
   Js fu self a b c d false
def Kl (fu:Nat) (self:Ml) (e:Int) (a:zb) (b:Int):Option (Int×Int):=
 (Xq e b).bind fun c =>
 if c.1≠0 then
 none
 else
 if a.Kind<1 then
   none
 else
   if (24:Int)<a.Kind then
  none
   else
  (gx a.Kind).bind fun d =>
  if a.Kind=1 then
     if a.N<0 then
   none
     else
   Ks fu self a b c d (decide ((999999999999999:Int)<a.N))
  else
     Ks fu self a b c d false
def aw:Nat→Ml
 | 0=>⟨fun _ _ _=>none⟩
 | n+1=>⟨Kl n (aw n)⟩
structure pn where
 Gl:Int→(List ee)→Int→Option (Int×Int)
 gn:Int→ee→Int→Option (Int×Int)
def hs (self:pn) (a:List ee) (b:Int):Nat→Int→Int→Option (Int×Int)
 | 0,_,_=>none
 | n+1,i29,i30 =>
 if i29<(a.length:Int) then
   (at_ a i29).bind fun d =>
   (self.gn i30 d b).bind fun c =>
   if c.1≠0 then
  none
   else
  (i64 (i29+1)).bind fun i76 =>
  hs self a b n i76 c.2
 else
   some (0,i30)
def Gl (self:pn) (b:Int) (a:List ee) (c:Int):Option (Int×Int):=
 if (50:Int)<(a.length:Int) then
 none
 else
 hs self a c (a.length+1) 0 b
def Ls (a:ee) (i41:Int):Option (Int×Int):=
 if a.Kind=3 then
 none
 else
 some (0,i41)
def Dq (fu:Nat) (self:pn) (a:ee) (c:Int) (e:Int×Int) (f:Bool):Option (Int×Int):=
 if f=true then
 none
 else
 if a.Kind=6 then
   none
 else
   (i64 (c+1)).bind fun i34 =>
   ((aw fu).Kl e.2 a.X i34).bind fun b =>
   if b.1≠0 then
  none
   else
  if a.Kind=3 then
     none
  else
     if a.Kind=4 then
   (i64 (c+1)).bind fun i43 =>
   (self.Gl b.2 a.Body i43).bind fun d =>
   if d.1≠0 then
       none
   else
       Ls a d.2
     else
   Ls a b.2
def gn (fu:Nat) (self:pn) (d:Int) (a:ee) (b:Int):Option (Int×Int):=
 (Xq d b).bind fun c =>
 if c.1≠0 then
 none
 else
 if a.Kind<1 then
   none
 else
   if (9:Int)<a.Kind then
  none
   else
  if a.Kind=1 then
     (Fl fu a.Name).bind fun e =>
     Dq fu self a b c (!e)
  else
     if a.Kind=2 then
   (Fl fu a.Name).bind fun f =>
   Dq fu self a b c (!f)
     else
   if a.Kind=7 then
       none
   else
       Dq fu self a b c false
def Ms:Nat→pn
 | 0=>⟨fun _ _ _=>none,fun _ _ _=>none⟩
 | n+1=>⟨Gl (Ms n),gn n (Ms n)⟩
def et (fu:Nat) (a:Kb) (b:Int×Int):Option (Int×Int):=
 if a.Kind≠1 then
 ((Ms fu).Gl b.2 a.Body 2).bind fun c =>
 some (c.1,c.2)
 else
 if a.dh<1 then
   none
 else
   if (20:Int)<a.dh then
  none
   else
  some (0,b.2)
def ft (fu:Nat) (a:Kb) (b:Int×Int):Option (Int×Int):=
 if a.Kind≠4 then
 (dr a.ue).bind fun c =>
 if c≠0 then
   none
 else
   et fu a b
 else
 et fu a b
def ht (fu:Nat) (a:Kb) (b:Int×Int):Option (Int×Int):=
 if a.Kind=3 then
 (dr a.ae).bind fun c =>
 if c≠0 then
   none
 else
   ft fu a b
 else
 ft fu a b
def jt (fu:Nat) (a:Kb) (b:Int×Int):Nat→Int→Option (Int×Int)
 | 0,_=>none
 | n+1,i43 =>
 if i43<(a.Params.length:Int) then
   (at_ a.Params i43).bind fun c =>
   (Fl fu c.Name).bind fun d =>
   if d=true then
  (dr c.ue).bind fun e =>
  if e≠0 then
     none
  else
     (i64 (i43+1)).bind fun i82 =>
     jt fu a b n i82
   else
  none
 else
   ht fu a b
def Fx (fu:Nat)  (c:Int) (a:Kb):Option (Int×Int):=
 (Xq c 1).bind fun b =>
 if b.1≠0 then
 none
 else
 if a.Kind<1 then
   none
 else
   if (4:Int)<a.Kind then
  none
   else
  (Fl fu a.Name).bind fun d =>
  if d=true then
     if a.Kind=2 then
   none
     else
   if a.Kind=3 then
       if (6:Int)<(a.Params.length:Int) then
    none
       else
    jt fu a b (a.Params.length+1) 0
   else
       ht fu a b
  else
     none
def js (fu:Nat) (p_1:List Kb):Nat→Int→Int→Option yf
 | 0,_,_=>none
 | n+1,i28,i29 =>
 if i28<(p_1.length:Int) then
   (at_ p_1 i28).bind fun b =>
   (Fx fu i29 b).bind fun a =>
   if a.1≠0 then
  none
   else
  (i64 (i28+1)).bind fun i69 =>
  js fu p_1 n i69 a.2
 else
   some (yf.mk 0 0)
def Lt (fu:Nat)  (p_1:List Kb):Option yf :=
 if (30:Int)<(p_1.length:Int) then
 none
 else
 js fu p_1 (p_1.length+1) 0 0
end Go.Y
namespace Go.Y
open Go.wc Go.hd
def qv  (a:List Tb) (c:Int) (d:Int):Option Int :=
 if (a.length:Int)=0 then
 none
 else
 (at_ a 0).bind fun b =>
 some b.uc
def Pl  (a:List Tb) (d:Int) (e:Int) (b:List UInt8):Option Bool :=
 if (0:Int)<(a.length:Int) then
 (at_ a 0).bind fun c =>
 some (decide (c.Text=b))
 else
 none
def yg  (a:List Tb) (b:Int) (c:Int) (d:List UInt8):Option (Bool×List Tb×Int×Int):=
 (Pl a b c d).bind fun e =>
 if e=true then
 (cut a 1 a.length).bind fun f =>
 some (true,f,b,c)
 else
 some (false,a,b,c)
def Mt (b:List (List UInt8)):Nat→Int→(List Tb)→Int→Int→Option (List Tb×Int×Int)
 | 0,_,_,_,_=>none
 | n+1,i30,c,i35,i36 =>
 if i30<(b.length:Int) then
   (at_ b i30).bind fun d =>
   (yg c i35 i36 d).bind fun a =>
   if a.1=true then
  (i64 (i30+1)).bind fun i71 =>
  Mt b n i71 a.2.1 a.2.2.1 a.2.2.2
   else
  none
 else
   some (c,i35,i36)
def Ij  (b:List Tb) (c:Int) (d:Int) (a:List (List UInt8)):Option (List Tb×Int×Int):=
 Mt a (a.length+1) 0 b c d
def gl (fu:Nat)  (a:List Tb) (c:Int) (d:Int):Option (List UInt8×List Tb×Int×Int):=
 if (a.length:Int)=0 then
 none
 else
 (at_ a 0).bind fun e =>
 if e.Kind≠1 then
   none
 else
   (at_ a 0).bind fun b =>
   (Fl fu b.Text).bind fun f =>
   if f=true then
  (cut a 1 a.length).bind fun g =>
  some (b.Text,g,c,d)
   else
  none
def iu  (a:List Tb) (b:Int) (c:Int):Option (Int×List Tb×Int×Int):=
 if (a.length:Int)=0 then
 none
 else
 (at_ a 0).bind fun d =>
 if d.Kind≠2 then
   none
 else
   (at_ a 0).bind fun e =>
   (cut a 1 a.length).bind fun f =>
   some (e.qC,f,b,c)
def iq  (c:List Tb) (d:Int) (e:Int):Option (sc×List Tb×Int×Int):=
 (yg c d e [110,117,109]).bind fun a =>
 if a.1=true then
 some ((sc.mk 1 []),a.2.1,a.2.2.1,a.2.2.2)
 else
 (yg a.2.1 a.2.2.1 a.2.2.2 [98,111,111,108]).bind fun b =>
 if b.1=true then
   some ((sc.mk 2 []),b.2.1,b.2.2.1,b.2.2.2)
 else
   none
def Ns (fu:Nat):Nat→(List Tb)→Int→Int→(List TParam)→Option (List TParam×List Tb×Int×Int)
 | 0,_,_,_,_=>none
 | n+1,e,i54,i55,c =>
 (yg e i54 i55 [41]).bind fun a =>
 if a.1=true then
   some (c,a.2.1,a.2.2.1,a.2.2.2)
 else
   if (0:Int)<(c.length:Int) then
  none
   else
  if (c.length:Int)=6 then
     none
  else
     (gl fu a.2.1 a.2.2.1 a.2.2.2).bind fun d =>
     (iq d.2.1 d.2.2.1 d.2.2.2).bind fun b =>
     (app c [(TParam.mk d.1 (sc.mk b.1.Kind b.1.Lc))]).bind fun f =>
     Ns fu n b.2.1 b.2.2.1 b.2.2.2 f
def hx (fu:Nat)  (b:List Tb) (c:Int) (d:Int):Option (List TParam×List Tb×Int×Int):=
 (Ij b c d [[40]]).bind fun a =>
 Ns fu fu a.1 a.2.1 a.2.2 []
def ix  :Option (List yh):=
 some [(yh.mk (xe ([]:List (List UInt8×Int)) [111,114] 18) false),(yh.mk (xe ([]:List (List UInt8×Int)) [97,110,100] 17) false),(yh.mk (xe (xe (xe (xe (xe (xe ([]:List (List UInt8×Int)) [61,61] 11) [33,61] 12) [60] 13) [60,61] 14) [62] 15) [62,61] 16) true),(yh.mk (xe (xe ([]:List (List UInt8×Int)) [43] 6) [45] 7) false),(yh.mk (xe (xe (xe ([]:List (List UInt8×Int)) [42] 8) [47] 9) [37] 10) false)]
def fq  (a:List Tb) (b:Int) (c:Int):Option (List Tb×Int×Int):=
 (i64 (c+1)).bind fun i14 =>
 if (200:Int)<i14 then
 none
 else
 some (a,b,i14)
def jq  (a:List Tb) (b:Int) (c:Int):Option (List Tb×Int×Int):=
 (i64 (c - 1)).bind fun i12 =>
 some (a,b,i12)
end Go.Y
namespace Go.Y
open Go.wc Go.hd
structure oj where
 Oi:(List Tb)→Int→Int→Option (zb×List Tb×Int×Int)
 Kk:(List Tb)→Int→Int→Int→Option (zb×List Tb×Int×Int)
 ck:(List Tb)→Int→Int→Option (zb×List Tb×Int×Int)
 nm:(List Tb)→Int→Int→Option (zb×List Tb×Int×Int)
 An:(List Tb)→Int→Int→Option (List zb×List Tb×Int×Int)
 Lk:(List Tb)→Int→Int→Int→Int→Option (zb×List Tb×Int×Int)
def Oi (self:oj) (d:List Tb) (e:Int) (f:Int):Option (zb×List Tb×Int×Int):=
 (fq d e f).bind fun b =>
 (self.Kk b.1 b.2.1 b.2.2 0).bind fun a =>
 (jq a.2.1 a.2.2.1 a.2.2.2).bind fun c =>
 some (a.1,c.1,c.2.1,c.2.2)
def kt  (a:List Tb) (i50:Int) (i51:Int) (i52:Int) (i53:Int) (b:List UInt8) (c:List zb):Option (zb×List Tb×Int×Int):=
 some ((zb.mk i52 i53 b c),a,i50,i51)
def vw (e:Int) (f:List yh) (a:yh) (b:Tb) (g:(List Tb)→Int→Int→Int→Int→(List UInt8)→(List zb)→Option (zb×List Tb×Int×Int)) (c:List Tb) (i217:Int) (i218:Int) (d:List zb):Option (zb×List Tb×Int×Int):=
 (at_ f e).bind fun h =>
 if h.once=true then
 kt c i217 i218 ((mf a.En b.Text).getD 0) 0 [] d
 else
 g c i217 i218 ((mf a.En b.Text).getD 0) 0 [] d
def Lq (self:oj) (b:Int) (d:List yh):Nat→(List Tb)→Int→Int→Int→Int→(List UInt8)→(List zb)→Option (zb×List Tb×Int×Int)
 | 0,_,_,_,_,_,_,_=>none
 | n+1,a,i116,i117,i118,i119,e,f =>
 if (0:Int)<(a.length:Int) then
   (at_ d b).bind fun g =>
   (at_ a 0).bind fun h =>
   if ((mf g.En h.Text).getD 0)=0 then
  kt a i116 i117 i118 i119 e f
   else
  (cut a 1 a.length).bind fun i =>
  (i64 (b+1)).bind fun i231 =>
  (self.Kk i i116 i117 i231).bind fun c =>
  vw b d g h (Lq self b d n) c.2.1 c.2.2.1 c.2.2.2 [(zb.mk i118 i119 e f),c.1]
 else
   none
def Kk (fu:Nat) (self:oj) (d:List Tb) (e:Int) (f:Int) (c:Int):Option (zb×List Tb×Int×Int):=
 (ix ).bind fun g =>
 if c=(g.length:Int) then
 (self.ck d e f).bind fun b =>
 some (b.1,b.2.1,b.2.2.1,b.2.2.2)
 else
 (i64 (c+1)).bind fun i33 =>
 (self.Kk d e f i33).bind fun a =>
 Lq self c g fu a.2.1 a.2.2.1 a.2.2.2 a.1.Kind a.1.N a.1.Name a.1.Kids
def ck (self:oj) (j:List Tb) (k:Int) (l:Int):Option (zb×List Tb×Int×Int):=
 (yg j k l [45]).bind fun a =>
 if a.1=true then
 (fq a.2.1 a.2.2.1 a.2.2.2).bind fun f =>
 (self.ck f.1 f.2.1 f.2.2).bind fun c =>
 (jq c.2.1 c.2.2.1 c.2.2.2).bind fun g =>
 some ((zb.mk 4 0 [] [c.1]),g.1,g.2.1,g.2.2)
 else
 (yg a.2.1 a.2.2.1 a.2.2.2 [110,111,116]).bind fun b =>
 if b.1=true then
   (fq b.2.1 b.2.2.1 b.2.2.2).bind fun h =>
   (self.ck h.1 h.2.1 h.2.2).bind fun d =>
   (jq d.2.1 d.2.2.1 d.2.2.2).bind fun i =>
   some ((zb.mk 5 0 [] [d.1]),i.1,i.2.1,i.2.2)
 else
   (self.nm b.2.1 b.2.2.1 b.2.2.2).bind fun e =>
   some (e.1,e.2.1,e.2.2.1,e.2.2.2)
def nm (fu:Nat) (self:oj) (h:List Tb) (t:Int) (u:Int):Option (zb×List Tb×Int×Int):=
 if (0:Int)<(h.length:Int) then
 (at_ h 0).bind fun v =>
 if v.Kind=2 then
   (iu h t u).bind fun i =>
   some ((zb.mk 1 i.1 [] ([]:List zb)),i.2.1,i.2.2.1,i.2.2.2)
 else
   (yg h t u [116,114,117,101]).bind fun a =>
   if a.1=true then
  some ((zb.mk 2 1 [] ([]:List zb)),a.2.1,a.2.2.1,a.2.2.2)
   else
  (yg a.2.1 a.2.2.1 a.2.2.2 [102,97,108,115,101]).bind fun j =>
  if j.1=true then
     none
  else
     (yg j.2.1 j.2.2.1 j.2.2.2 [40]).bind fun k =>
     if k.1=true then
   none
     else
   (yg k.2.1 k.2.2.1 k.2.2.2 [114,101,99,118]).bind fun b =>
   if b.1=true then
       (Ij b.2.1 b.2.2.1 b.2.2.2 [[40]]).bind fun r =>
       (gl fu r.1 r.2.1 r.2.2).bind fun l =>
       (Ij l.2.1 l.2.2.1 l.2.2.2 [[41]]).bind fun s =>
       some ((zb.mk 20 0 l.1 ([]:List zb)),s.1,s.2.1,s.2.2)
   else
       (yg b.2.1 b.2.2.1 b.2.2.2 [121,105,101,108,100]).bind fun c =>
       if c.1=true then
    (self.Lk c.2.1 c.2.2.1 c.2.2.2 21 1).bind fun m =>
    some (m.1,m.2.1,m.2.2.1,m.2.2.2)
       else
    (yg c.2.1 c.2.2.1 c.2.2.2 [114,101,115,117,109,101]).bind fun d =>
    if d.1=true then
         (self.Lk d.2.1 d.2.2.1 d.2.2.2 23 2).bind fun n =>
         some (n.1,n.2.1,n.2.2.1,n.2.2.2)
    else
         (yg d.2.1 d.2.2.1 d.2.2.2 [97,108,105,118,101]).bind fun e =>
         if e.1=true then
     (self.Lk e.2.1 e.2.2.1 e.2.2.2 24 1).bind fun o =>
     some (o.1,o.2.1,o.2.2.1,o.2.2.2)
         else
     (yg e.2.1 e.2.2.1 e.2.2.2 [115,116,97,114,116]).bind fun f =>
     if f.1=true then
           (gl fu f.2.1 f.2.2.1 f.2.2.2).bind fun p =>
           (self.An p.2.1 p.2.2.1 p.2.2.2).bind fun q =>
           some ((zb.mk 22 0 p.1 q.1),q.2.1,q.2.2.1,q.2.2.2)
     else
           (gl fu f.2.1 f.2.2.1 f.2.2.2).bind fun g =>
           (Pl g.2.1 g.2.2.1 g.2.2.2 [40]).bind fun w =>
           if w=true then
      none
           else
      some ((zb.mk 3 0 g.1 ([]:List zb)),g.2.1,g.2.2.1,g.2.2.2)
 else
 none
def Nt (self:oj):Nat→(List Tb)→Int→Int→(List zb)→Option (List zb×List Tb×Int×Int)
 | 0,_,_,_,_=>none
 | n+1,d,i51,i52,b =>
 (yg d i51 i52 [41]).bind fun a =>
 if a.1=true then
   some (b,a.2.1,a.2.2.1,a.2.2.2)
 else
   if (0:Int)<(b.length:Int) then
  none
   else
  if (b.length:Int)=6 then
     none
  else
     (self.Oi a.2.1 a.2.2.1 a.2.2.2).bind fun c =>
     (app b [c.1]).bind fun e =>
     Nt self n c.2.1 c.2.2.1 c.2.2.2 e
def An (fu:Nat) (self:oj) (b:List Tb) (c:Int) (d:Int):Option (List zb×List Tb×Int×Int):=
 (Ij b c d [[40]]).bind fun a =>
 Nt self fu a.1 a.2.1 a.2.2 []
def xw (i63:Int) (a:Int→(List Tb)→Int→Int→(List zb)→Option (zb×List Tb×Int×Int)) (b:List Tb) (i135:Int) (i136:Int) (c:List zb):Option (zb×List Tb×Int×Int):=
 (i64 (i63+1)).bind fun i177 =>
 a i177 b i135 i136 c
def nt (self:oj) (i63:Int) (b:List zb) (c:Int→(List Tb)→Int→Int→(List zb)→Option (zb×List Tb×Int×Int)) (d:List Tb) (i116:Int) (i117:Int):Option (zb×List Tb×Int×Int):=
 (self.Oi d i116 i117).bind fun a =>
 (app b [a.1]).bind fun e =>
 xw i63 c a.2.1 a.2.2.1 a.2.2.2 e
def fo (self:oj) (a:Int) (b:Int):Nat→Int→(List Tb)→Int→Int→(List zb)→Option (zb×List Tb×Int×Int)
 | 0,_,_,_,_,_=>none
 | n+1,i63,c,i68,i69,d =>
 if i63<b then
   if (0:Int)<i63 then
  (Ij c i68 i69 [[44]]).bind fun e =>
  nt self i63 d (fo self a b n) e.1 e.2.1 e.2.2
   else
  nt self i63 d (fo self a b n) c i68 i69
 else
   (Ij c i68 i69 [[41]]).bind fun f =>
   some ((zb.mk a 0 [] d),f.1,f.2.1,f.2.2)
def Lk (self:oj) (c:List Tb) (d:Int) (e:Int) (f:Int) (b:Int):Option (zb×List Tb×Int×Int):=
 (Ij c d e [[40]]).bind fun a =>
 fo self f b ((b - 0).toNat+1) 0 a.1 a.2.1 a.2.2 []
def Ik:Nat→oj
 | 0=>⟨fun _ _ _=>none,fun _ _ _ _=>none,fun _ _ _=>none,fun _ _ _=>none,fun _ _ _=>none,fun _ _ _ _ _=>none⟩
 | n+1=>⟨Oi (Ik n),Kk n (Ik n),ck (Ik n),nm n (Ik n),An n (Ik n),Lk (Ik n)⟩
structure No where
 Mk:(List Tb)→Int→Int→Option (List ee×List Tb×Int×Int)
 Bn:(List Tb)→Int→Int→Option (ee×List Tb×Int×Int)
def Ot (self:No):Nat→(List Tb)→Int→Int→(List ee)→Option (List ee×List Tb×Int×Int)
 | 0,_,_,_,_=>none
 | n+1,e,i65,i66,c =>
 (yg e i65 i66 [125]).bind fun a =>
 if a.1=true then
   (jq a.2.1 a.2.2.1 a.2.2.2).bind fun d =>
   some (c,d.1,d.2.1,d.2.2)
 else
   if (c.length:Int)=50 then
  none
   else
  (self.Bn a.2.1 a.2.2.1 a.2.2.2).bind fun b =>
  (app c [b.1]).bind fun f =>
  Ot self n b.2.1 b.2.2.1 b.2.2.2 f
def Mk (fu:Nat) (self:No) (c:List Tb) (d:Int) (e:Int):Option (List ee×List Tb×Int×Int):=
 (fq c d e).bind fun a =>
 (Ij a.1 a.2.1 a.2.2 [[123]]).bind fun b =>
 Ot self fu b.1 b.2.1 b.2.2 []
def Ap  (b:List Tb) (i28:Int) (i29:Int) (i30:Int) (c:List UInt8) (i33:Int) (i34:Int) (d:List UInt8) (e:List zb):Option (ee×List Tb×Int×Int):=
 (Ij b i28 i29 [[59]]).bind fun a =>
 some ((ee.mk i30 c (zb.mk i33 i34 d e) ([]:List ee) ([]:List ee)),a.1,a.2.1,a.2.2)
def Bn (fu:Nat) (self:No) (s:List Tb) (t:Int) (u:Int):Option (ee×List Tb×Int×Int):=
 (yg s t u [105,102]).bind fun j =>
 if j.1=true then
 none
 else
 (yg j.2.1 j.2.2.1 j.2.2.2 [119,104,105,108,101]).bind fun a =>
 if a.1=true then
   ((Ik fu).Oi a.2.1 a.2.2.1 a.2.2.2).bind fun b =>
   (self.Mk b.2.1 b.2.2.1 b.2.2.2).bind fun k =>
   some ((ee.mk 4 [] (zb.mk b.1.Kind b.1.N b.1.Name b.1.Kids) k.1 ([]:List ee)),k.2.1,k.2.2.1,k.2.2.2)
 else
   (yg a.2.1 a.2.2.1 a.2.2.2 [108,101,116]).bind fun c =>
   if c.1=true then
  (gl fu c.2.1 c.2.2.1 c.2.2.2).bind fun l =>
  (Ij l.2.1 l.2.2.1 l.2.2.2 [[61]]).bind fun q =>
  ((Ik fu).Oi q.1 q.2.1 q.2.2).bind fun d =>
  Ap d.2.1 d.2.2.1 d.2.2.2 1 l.1 d.1.Kind d.1.N d.1.Name d.1.Kids
   else
  (yg c.2.1 c.2.2.1 c.2.2.2 [114,101,116,117,114,110]).bind fun m =>
  if m.1=true then
     none
  else
     (yg m.2.1 m.2.2.1 m.2.2.2 [115,116,111,112]).bind fun n =>
     if n.1=true then
   none
     else
   (yg n.2.1 n.2.2.1 n.2.2.2 [115,101,110,100]).bind fun o =>
   if o.1=true then
       none
   else
       (yg o.2.1 o.2.2.1 o.2.2.2 [111,117,116]).bind fun e =>
       if e.1=true then
    ((Ik fu).Oi e.2.1 e.2.2.1 e.2.2.2).bind fun f =>
    Ap f.2.1 f.2.2.1 f.2.2.2 8 [] f.1.Kind f.1.N f.1.Name f.1.Kids
       else
    (yg e.2.1 e.2.2.1 e.2.2.2 [100,111]).bind fun g =>
    if g.1=true then
         ((Ik fu).Oi g.2.1 g.2.2.1 g.2.2.2).bind fun h =>
         Ap h.2.1 h.2.2.1 h.2.2.2 9 [] h.1.Kind h.1.N h.1.Name h.1.Kids
    else
         (gl fu g.2.1 g.2.2.1 g.2.2.2).bind fun p =>
         (Ij p.2.1 p.2.2.1 p.2.2.2 [[61]]).bind fun r =>
         ((Ik fu).Oi r.1 r.2.1 r.2.2).bind fun i =>
         Ap i.2.1 i.2.2.1 i.2.2.2 2 p.1 i.1.Kind i.1.N i.1.Name i.1.Kids
def Yq:Nat→No
 | 0=>⟨fun _ _ _=>none,fun _ _ _=>none⟩
 | n+1=>⟨Mk n (Yq n),Bn n (Yq n)⟩
def sy (fu:Nat)  (r:List Tb) (s:Int) (t:Int):Option (Kb×List Tb×Int×Int):=
 (qv r s t).bind fun u =>
 (yg r s t [98,111,120]).bind fun b =>
 if b.1=true then
 (gl fu b.2.1 b.2.2.1 b.2.2.2).bind fun g =>
 (iq g.2.1 g.2.2.1 g.2.2.2).bind fun a =>
 (qv a.2.1 a.2.2.1 a.2.2.2).bind fun v =>
 (iu a.2.1 a.2.2.1 a.2.2.2).bind fun d =>
 if d.1<1 then
   none
 else
   if (20:Int)<d.1 then
  none
   else
  (Ij d.2.1 d.2.2.1 d.2.2.2 [[59]]).bind fun o =>
  some ((Kb.mk 1 g.1 (sc.mk a.1.Kind a.1.Lc) (sc.mk 0 []) d.1 ([]:List TParam) ([]:List ee)),o.1,o.2.1,o.2.2)
 else
 (yg b.2.1 b.2.2.1 b.2.2.2 [102,110]).bind fun h =>
 if h.1=true then
   none
 else
   (yg h.2.1 h.2.2.1 h.2.2.2 [103,101,110]).bind fun c =>
   if c.1=true then
  (gl fu c.2.1 c.2.2.1 c.2.2.2).bind fun i =>
  (hx fu i.2.1 i.2.2.1 i.2.2.2).bind fun j =>
  (Ij j.2.1 j.2.2.1 j.2.2.2 [[116,97,107,101,115]]).bind fun p =>
  (iq p.1 p.2.1 p.2.2).bind fun e =>
  (Ij e.2.1 e.2.2.1 e.2.2.2 [[121,105,101,108,100,115]]).bind fun q =>
  (iq q.1 q.2.1 q.2.2).bind fun f =>
  ((Yq fu).Mk f.2.1 f.2.2.1 f.2.2.2).bind fun k =>
  some ((Kb.mk 3 i.1 (sc.mk f.1.Kind f.1.Lc) (sc.mk e.1.Kind e.1.Lc) 0 j.1 k.1),k.2.1,k.2.2.1,k.2.2.2)
   else
  (yg c.2.1 c.2.2.1 c.2.2.2 [116,97,115,107]).bind fun l =>
  if l.1=true then
     (gl fu l.2.1 l.2.2.1 l.2.2.2).bind fun m =>
     ((Yq fu).Mk m.2.1 m.2.2.1 m.2.2.2).bind fun n =>
     some ((Kb.mk 4 m.1 (sc.mk 0 []) (sc.mk 0 []) 0 ([]:List TParam) n.1),n.2.1,n.2.2.1,n.2.2.2)
  else
     none
end Go.Y
namespace Go.Y
open Go.wc Go.hd
theorem GF {α:Type}{l:List Tb}{e d:Int}{k1 b:List UInt8}(m:¬ k1=b){A B C:Bool×List Tb×Int×Int→Option α}{r:α}
 (h:(Option.bind (yg l e d k1) fun x=>if x.1=true then A x else Option.bind (yg x.2.1 x.2.2.1 x.2.2.2 b) fun y=>if y.1=true then B y else C y)=some r) :
 (Option.bind (yg l e d b) fun y=>if y.1=true then B y else Option.bind (yg y.2.1 y.2.2.1 y.2.2.2 k1) fun x=>if x.1=true then A x else C x)=some r:=by
 have key:∀ k,(Pl l e d k=some false∧yg l e d k=some (false,l,e,d))∨(∃ t a,l=t::a∧t.Text=k∧yg l e d k=some (true,a,e,d)):=by
  intro k;cases l with
  | nil=>first | (left; simp [Pl,yg]; done) | (exfalso; simp [Pl,yg] at h)
  | cons t a =>
   by_cases c:t.Text=k
   ·right
    refine ⟨t,a,rfl,c,?_⟩;have f:(0:Int)<((a.length+1:Nat):Int):=by omega
    have n:(1:Int)≤((a.length+1:Nat):Int):=by omega
    have hc:cut (t::a) 1 ((t::a).length)=some a:=by
     unfold cut;rw [if_pos ⟨by omega,by simpa using n,by simp⟩];simp
    have o:Pl (t::a) e d k=some true:=by
     unfold Pl;rw [if_pos (by simp)];simp [at_,c]
    unfold yg;rw [o,Option.bind_some];simp only [if_true];rw [hc];rfl
   ·left
    have f:(0:Int)<((a.length+1:Nat):Int):=by omega
    simp [yg,Pl,at_,c,f]
 rcases key k1 with ⟨s1,i1⟩ | ⟨t,a,g,i,i1⟩
 ·rw [i1,Option.bind_some] at h
  simp only [Bool.false_eq_true,if_false] at h;rcases key b with ⟨s2,i2⟩ | ⟨t,a,g,i,i2⟩
  ·rw [i2,Option.bind_some] at h ⊢
   simp only [Bool.false_eq_true,if_false] at h ⊢;rw [i1,Option.bind_some];simpa using h
  ·rw [i2,Option.bind_some] at h ⊢
   simp only [if_true] at h ⊢;exact h
 ·rw [i1,Option.bind_some] at h
  simp only [if_true] at h;rcases key b with ⟨s2,i2⟩ | ⟨t2,q,j,p,i2⟩
  ·rw [i2,Option.bind_some]
   simp only [Bool.false_eq_true,if_false];rw [i1,Option.bind_some];simpa using h
  ·rw [g] at j
   obtain ⟨rfl,rfl⟩:=List.cons.inj j;exact absurd (i.symm.trans p) m
end Go.Y
namespace Go.Y
open Go.wc Go.hd
def FB:Option Unit:=some ()
def bw (a:(List Tb)→Int→Int→(List Kb)→Option (List Kb×yf)) (b:List Tb) (i75:Int) (i76:Int) (c:List Kb):Option (List Kb×yf):=
 a b i75 i76 c
def cw (a:List Tb×yf) (b:List Kb):Option (List Kb×yf):=
 (FB ).bind fun c =>
 some (b,a.2)
def Fq (fu:Nat) (c:List Tb×yf):Nat→(List Tb)→Int→Int→(List Kb)→Option (List Kb×yf)
 | 0,_,_,_,_=>none
 | n+1,d,i41,i42,a =>
 if (0:Int)<(d.length:Int) then
   if (a.length:Int)=30 then
  none
   else
  (sy fu d i41 i42).bind fun b =>
  (app a [b.1]).bind fun e =>
  bw (Fq fu c n) b.2.1 b.2.2.1 b.2.2.2 e
 else
   (Lt fu a).bind fun f =>
   if f.Th≠0 then
  none
   else
  cw c a
def jx (fu:Nat)  (p_1:List UInt8):Option (List Kb×yf):=
 (uw fu p_1).bind fun a =>
 if a.2.Th≠0 then
 none
 else
 Fq fu a fu a.1 (p_1.length:Int) 0 []
end Go.Y
namespace Go.Y
open Go.wc Go.hd
def jm  (p_1:sc):Option Bool :=
 some (decide (p_1.Kind≠3))
def Pt  (p_1:Ue) (b:Int) (a:List UInt8):Option (Option Kb×Bool):=
 if (mf p_1.named a).isSome=true then
 ((mf p_1.named a)).bind fun c =>
 some ((mf p_1.named a),decide (c.Kind=b))
 else
 none
def kx  (p_1:Ue) (a:sc):Option Int :=
 (jm a).bind fun b =>
 if b=true then
 some 0
 else
 none
def oo  (p_1:sc):Option sc :=
 (jm p_1).bind fun a =>
 if a=true then
 some (sc.mk p_1.Kind [])
 else
 none
def vo  :Option sc :=
 some (sc.mk 1 [])
def bp  :Option sc :=
 some (sc.mk 2 [])
def ks (a:List UInt8) (b:List (List (List UInt8×sc))):Nat→Int→Option (sc×Bool)
 | 0,_=>none
 | n+1,i48 =>
 if (0:Int)≤i48 then
   (at_ b i48).bind fun c =>
   if (mf c a).isSome=true then
  some (((mf c a).getD (sc.mk 0 [])),true)
   else
  (i64 (i48 - 1)).bind fun i88 =>
  ks a b n i88
 else
   some ((sc.mk 0 []),false)
def Pq (fu:Nat)  (c:Ue) (d:Kb) (a:List (List (List UInt8×sc))) (b:List UInt8):Option (sc×Bool):=
 (i64 ((a.length:Int) - 1)).bind fun i27 =>
 ks b a fu i27
structure hk where
 kf:Ue→Kb→(List (List (List UInt8×sc)))→zb→sc→Option Int
 bn:Ue→Kb→(List (List (List UInt8×sc)))→zb→Int→Option (Option Kb×Int)
 Al:Ue→Kb→(List (List (List UInt8×sc)))→zb→Option (Option Kb×Int)
 Hj:Ue→Kb→(List (List (List UInt8×sc)))→zb→Option (sc×Int)
def kf (self:hk) (c:Ue) (d:Kb) (e:List (List (List UInt8×sc))) (f:zb) (g:sc):Option Int :=
 (self.Hj c d e f).bind fun a =>
 if a.2=0 then
 (oo g).bind fun b =>
 if (Ul [(decide (a.1.Kind=b.Kind)),(decide (a.1.Lc=b.Lc))])=true then
   some a.2
 else
   none
 else
 none
def ns (self:hk) (b:zb) (c:Ue) (d:Kb) (e:List (List (List UInt8×sc))) (f:Option Kb×Bool) (a:Kb):Nat→Int→Option (Option Kb×Int)
 | 0,_=>none
 | n+1,i104 =>
 if i104<(a.Params.length:Int) then
   (at_ a.Params i104).bind fun g =>
   (at_ b.Kids i104).bind fun h =>
   (self.kf c d e h g.ue).bind fun i =>
   if i≠0 then
  none
   else
  (i64 (i104+1)).bind fun i158 =>
  ns self b c d e f a n i158
 else
   some (f.1,0)
def Ov (self:hk) (c:zb) (d:Ue) (e:Kb) (f:List (List (List UInt8×sc))) (a:Option Kb×Bool) (g:Bool):Option (Option Kb×Int):=
 if g=true then
 none
 else
 (a.1).bind fun b =>
 ns self c d e f a b (b.Params.length+1) 0
def bn (self:hk) (c:Ue) (d:Kb) (e:List (List (List UInt8×sc))) (a:zb) (f:Int):Option (Option Kb×Int):=
 (Pt c f a.Name).bind fun b =>
 if b.2=true then
 (b.1).bind fun g =>
 Ov self a c d e b (decide ((g.Params.length:Int)≠(a.Kids.length:Int)))
 else
 none
def Al (self:hk) (b:Ue) (c:Kb) (d:List (List (List UInt8×sc))) (e:zb):Option (Option Kb×Int):=
 (self.Hj b c d e).bind fun a =>
 if a.2≠0 then
 none
 else
 (jm a.1).bind fun f =>
 if f=true then
   none
 else
   some ((mf b.named a.1.Lc),0)
def Pv  (i49:Int) (i50:Int) (a:List UInt8):Option (sc×Int):=
 some ((sc.mk i50 a),i49)
def Qv  (i125:Int) (i126:Int) (a:List UInt8):Option (sc×Int):=
 some ((sc.mk i126 a),i125)
def Rv  (a:Int) (b:Int) (c:List UInt8):Option (sc×Int):=
 some ((sc.mk b c),a)
def ps (self:hk) (a:zb) (c:Ue) (d:Kb) (e:List (List (List UInt8×sc))) (f:sc) (g:Int) (h:List UInt8):Nat→Int→Option (sc×Int)
 | 0,_=>none
 | n+1,b =>
 if b<(a.Kids.length:Int) then
   (at_ a.Kids b).bind fun i =>
   (self.kf c d e i f).bind fun j =>
   if j≠0 then
  none
   else
  (i64 (b+1)).bind fun k =>
  ps self a c d e f g h n k
 else
   some ((sc.mk g h),0)
def qs (self:hk) (a:zb) (b:Ue) (c:Kb) (d:List (List (List UInt8×sc))) (e:sc) (f:Int) (g:List UInt8):Option (sc×Int):=
 ps self a b c d e f g (a.Kids.length+1) 0
def Hj (fu:Nat) (self:hk) (c:Ue) (b:Kb) (d:List (List (List UInt8×sc))) (a:zb):Option (sc×Int):=
 if a.Kind=1 then
 (vo ).bind fun o =>
 some (o,0)
 else
 if a.Kind=2 then
   (bp ).bind fun p =>
   some (p,0)
 else
   if a.Kind=3 then
  (Pq fu c b d a.Name).bind fun e =>
  if e.2=true then
     some (e.1,0)
  else
     none
   else
  if a.Kind=4 then
     (vo ).bind fun f =>
     (at_ a.Kids 0).bind fun q =>
     (vo ).bind fun r =>
     (self.kf c b d q r).bind fun s =>
     Pv s f.Kind f.Lc
  else
     if a.Kind=5 then
   none
     else
   if a.Kind=11 then
       none
   else
       if a.Kind=12 then
    none
       else
    if a.Kind=19 then
         none
    else
         if a.Kind=20 then
     (Pt c 1 a.Name).bind fun g =>
     if g.2=true then
           (g.1).bind fun t =>
           (oo t.ue).bind fun u =>
           some (u,0)
     else
           none
         else
     if a.Kind=21 then
           if b.Kind≠3 then
      none
           else
      (oo b.ae).bind fun h =>
      (at_ a.Kids 0).bind fun v =>
      (self.kf c b d v b.ue).bind fun w =>
      Qv w h.Kind h.Lc
     else
           if a.Kind=22 then
      (self.bn c b d a 3).bind fun x =>
      some ((sc.mk 3 a.Name),x.2)
           else
      if a.Kind=23 then
             (at_ a.Kids 0).bind fun y =>
             (self.Al c b d y).bind fun i =>
             if i.2≠0 then
       none
             else
       (i.1).bind fun j =>
       (oo j.ue).bind fun k =>
       (at_ a.Kids 1).bind fun z =>
       (self.kf c b d z j.ae).bind fun A =>
       Rv A k.Kind k.Lc
      else
             if a.Kind=24 then
       (at_ a.Kids 0).bind fun B =>
       (self.Al c b d B).bind fun C =>
       (bp ).bind fun D =>
       some (D,C.2)
             else
       (vo ).bind fun l =>
       (vo ).bind fun m =>
       if (17:Int)≤a.Kind then
               none
       else
               if (13:Int)≤a.Kind then
        (bp ).bind fun n =>
        qs self a c b d l n.Kind n.Lc
               else
        qs self a c b d l m.Kind m.Lc
def Hl:Nat→hk
 | 0=>⟨fun _ _ _ _ _=>none,fun _ _ _ _ _=>none,fun _ _ _ _=>none,fun _ _ _ _=>none⟩
 | n+1=>⟨kf (Hl n),bn (Hl n),Al (Hl n),Hj n (Hl n)⟩
end Go.Y
namespace Go.Y
open Go.wc Go.hd
def dw  (a:List (List (List UInt8×sc))):Option (List (List (List UInt8×sc))):=
 some a
def lx  (c:Ue) (d:Kb) (a:List (List (List UInt8×sc))):Option (List (List (List UInt8×sc))):=
 (i64 ((a.length:Int) - 1)).bind fun i33 =>
 (cut a 0 i33).bind fun b =>
 dw b
structure Gn where
 Cl:Ue→Kb→(List (List (List UInt8×sc)))→(List ee)→Option (Int×List (List (List UInt8×sc)))
 cn:Ue→Kb→(List (List (List UInt8×sc)))→ee→Option (Int×List (List (List UInt8×sc)))
def Xr (self:Gn) (a:List ee) (b:Ue) (c:Kb):Nat→Int→(List (List (List UInt8×sc)))→Option (Int×List (List (List UInt8×sc)))
 | 0,_,_=>none
 | n+1,i74,d =>
 if i74<(a.length:Int) then
   (at_ a i74).bind fun f =>
   (self.cn b c d f).bind fun e =>
   if e.1≠0 then
  none
   else
  (i64 (i74+1)).bind fun i131 =>
  Xr self a b c n i131 e.2
 else
   (lx b c d).bind fun g =>
   some (0,g)
def Iv (self:Gn) (a:List ee) (b:Ue) (c:Kb) (d:List (List (List UInt8×sc))):Option (Int×List (List (List UInt8×sc))):=
 Xr self a b c (a.length+1) 0 d
def Cl (self:Gn) (a:Ue) (b:Kb) (c:List (List (List UInt8×sc))) (d:List ee):Option (Int×List (List (List UInt8×sc))):=
 (app c [[]]).bind fun e =>
 Iv self d a b e
def cn (fu:Nat) (self:Gn) (c:Ue) (d:Kb) (b:List (List (List UInt8×sc))) (a:ee):Option (Int×List (List (List UInt8×sc))):=
 if a.Kind=1 then
 ((Hl fu).Hj c d b a.X).bind fun g =>
 if g.2≠0 then
   none
 else
   (Pq fu c d b a.Name).bind fun i =>
   if i.2=true then
  none
   else
  (i64 ((b.length:Int) - 1)).bind fun i53 =>
  (at_ b i53).bind fun j =>
  some (0,(b.set i53.toNat (xe j a.Name g.1)))
 else
 if a.Kind=2 then
   (Pq fu c d b a.Name).bind fun h =>
   if h.2=true then
  ((Hl fu).kf c d b a.X h.1).bind fun k =>
  some (k,b)
   else
  none
 else
   if a.Kind=3 then
  none
   else
  if a.Kind=4 then
     (bp ).bind fun l =>
     ((Hl fu).kf c d b a.X l).bind fun m =>
     if m≠0 then
   none
     else
   (self.Cl c d b a.Body).bind fun e =>
   if e.1≠0 then
       none
   else
       if a.Kind=4 then
    some (e.1,e.2)
       else
    none
  else
     if a.Kind=5 then
   none
     else
   if a.Kind=6 then
       none
   else
       if a.Kind=7 then
    none
       else
    if a.Kind=8 then
         ((Hl fu).Hj c d b a.X).bind fun f =>
         if f.2=0 then
     (jm f.1).bind fun n =>
     if n=true then
           some (f.2,b)
     else
           none
         else
     none
    else
         if a.Kind=9 then
     ((Hl fu).Hj c d b a.X).bind fun o =>
     some (o.2,b)
         else
     none
def Qt:Nat→Gn
 | 0=>⟨fun _ _ _ _=>none,fun _ _ _ _=>none⟩
 | n+1=>⟨Cl (Qt n),cn n (Qt n)⟩
def cp  (a:Bool):Option Int :=
 if a=true then
 none
 else
 some 0
def ss (a:Kb):Option Int :=
 if a.Kind=3 then
 (jm a.ae).bind fun b =>
 if b=true then
   if a.Kind≠4 then
  (jm a.ue).bind fun c =>
  cp (!c)
   else
  cp false
 else
   none
 else
 if a.Kind≠4 then
   (jm a.ue).bind fun d =>
   cp (!d)
 else
   cp false
def ts (p_1:Ue) (b:Kb):Nat→Int→(List (List UInt8×Int))→Option Int
 | 0,_,_=>none
 | n+1,i46,c =>
 if i46<(b.Params.length:Int) then
   (at_ b.Params i46).bind fun a =>
   (i64 (((mf c a.Name).getD 0)+1)).bind fun i90 =>
   if (1:Int)<((mf (xe c a.Name i90) a.Name).getD 0) then
  none
   else
  (kx p_1 a.ue).bind fun d =>
  if d≠0 then
     none
  else
     (i64 (i46+1)).bind fun i102 =>
     ts p_1 b n i102 (xe c a.Name i90)
 else
   ss b
def Lw  (p_1:Ue) (a:Kb):Option Int :=
 if a.Kind=2 then
 none
 else
 if a.Kind=3 then
   ts p_1 a (a.Params.length+1) 0 ([]:List (List UInt8×Int))
 else
   ss a
def zs (fu:Nat) (p_1:Ue) (a:Kb) (b:List (List (List UInt8×sc))):Option Int :=
 ((Qt fu).Cl p_1 a b a.Body).bind fun c =>
 some c.1
def Sv (i63:Int) (a:Int→(List (List (List UInt8×sc)))→Option Int) (b:List (List (List UInt8×sc))):Option Int :=
 (i64 (i63+1)).bind fun i202 =>
 a i202 b
def Aq (fu:Nat) (p_1:Ue) (a:Kb):Nat→Int→(List (List (List UInt8×sc)))→Option Int
 | 0,_,_=>none
 | n+1,i63,b =>
 if i63<(a.Params.length:Int) then
   (at_ a.Params i63).bind fun c =>
   (at_ b 0).bind fun d =>
   (oo c.ue).bind fun e =>
   Sv i63 (Aq fu p_1 a n) (b.set (0:Int).toNat (xe d c.Name e))
 else
   zs fu p_1 a b
def Mw (fu:Nat)  (p_1:Ue) (a:Kb):Option Int :=
 if a.Kind=1 then
 some 0
 else
 if a.Kind≠4 then
   Aq fu p_1 a (a.Params.length+1) 0 [([]:List (List UInt8×sc))]
 else
   zs fu p_1 a [([]:List (List UInt8×sc))]
def Yr (fu:Nat) (p_1:List Kb) (a:List (List UInt8×Kb)):Nat→Int→Option (Ue×yf)
 | 0,_=>none
 | n+1,i317 =>
 if i317<(p_1.length:Int) then
   (at_ p_1 i317).bind fun b =>
   (Mw fu (Ue.mk p_1 a) b).bind fun c =>
   if c≠0 then
  none
   else
  (i64 (i317+1)).bind fun d =>
  Yr fu p_1 a n d
 else
   some ((Ue.mk p_1 a),(yf.mk 0 0))
def Zr (fu:Nat) (p_1:List Kb) (a:List (List UInt8×Kb)):Nat→Int→Option (Ue×yf)
 | 0,_=>none
 | n+1,i258 =>
 if i258<(p_1.length:Int) then
   (at_ p_1 i258).bind fun b =>
   (Lw (Ue.mk p_1 a) b).bind fun c =>
   if c≠0 then
  none
   else
  (i64 (i258+1)).bind fun i298 =>
  Zr fu p_1 a n i298
 else
   Yr fu p_1 a (p_1.length+1) 0
def yq (fu:Nat) (p_1:List Kb):Nat→Int→Int→(List (List UInt8×Kb))→Option (Ue×yf)
 | 0,_,_,_=>none
 | n+1,i90,i91,a =>
 if i91<(p_1.length:Int) then
   (at_ p_1 i91).bind fun d =>
   if (mf a d.Name).isSome=true then
  none
   else
  (at_ p_1 i91).bind fun b =>
  (at_ p_1 i91).bind fun c =>
  (at_ p_1 i91).bind fun e =>
  if e.Kind=4 then
     (i64 (i90+1)).bind fun i228 =>
     (i64 (i91+1)).bind fun i230 =>
     yq fu p_1 n i228 i230 (xe a b.Name c)
  else
     (i64 (i91+1)).bind fun i232 =>
     yq fu p_1 n i90 i232 (xe a b.Name c)
 else
   if i90=0 then
  none
   else
  Zr fu p_1 a (p_1.length+1) 0
def yw (fu:Nat)  (p_1:List Kb):Option (Ue×yf):=
 (Lt fu p_1).bind fun a =>
 if a.Th≠0 then
 none
 else
 yq fu p_1 (p_1.length+1) 0 0 ([]:List (List UInt8×Kb))
end Go.Y
namespace Go.Y
open Go.wc Go.hd
structure Hn where
 Il:(List (List UInt8))→(List (List UInt8))→(List (List UInt8))→zb→Option (List (List UInt8)×List (List UInt8)×List (List UInt8))
def As (self:Hn) (a:zb):Nat→Int→(List (List UInt8))→(List (List UInt8))→(List (List UInt8))→Option (List (List UInt8)×List (List UInt8)×List (List UInt8))
 | 0,_,_,_,_=>none
 | n+1,i104,c,d,e =>
 if i104<(a.Kids.length:Int) then
   (at_ a.Kids i104).bind fun f =>
   (self.Il c d e f).bind fun b =>
   (i64 (i104+1)).bind fun i170 =>
   As self a n i170 b.1 b.2.1 b.2.2
 else
   some (c,d,e)
def Bq (self:Hn) (a:zb) (b:List (List UInt8)) (c:List (List UInt8)) (d:List (List UInt8)):Option (List (List UInt8)×List (List UInt8)×List (List UInt8)):=
 As self a (a.Kids.length+1) 0 c b d
def Tv (self:Hn) (a:zb) (b:List (List UInt8)) (c:List (List UInt8)) (d:List (List UInt8)):Option (List (List UInt8)×List (List UInt8)×List (List UInt8)):=
 Bq self a b d c
def Uv (self:Hn) (a:List (List UInt8)) (b:zb) (c:List (List UInt8)) (d:List (List UInt8)):Option (List (List UInt8)×List (List UInt8)×List (List UInt8)):=
 Bq self b c a d
def Il (self:Hn) (b:List (List UInt8)) (c:List (List UInt8)) (d:List (List UInt8)) (a:zb):Option (List (List UInt8)×List (List UInt8)×List (List UInt8)):=
 if a.Kind=19 then
 none
 else
 if a.Kind=22 then
   (app b [a.Name]).bind fun e =>
   Tv self a c d e
 else
   if a.Kind=20 then
  (app d [a.Name]).bind fun f =>
  Uv self b a c f
   else
  Bq self a c b d
def Nw:Nat→Hn
 | 0=>⟨fun _ _ _ _=>none⟩
 | n+1=>⟨Il (Nw n)⟩
structure yr where
 Dl:(List (List UInt8))→(List (List UInt8))→(List (List UInt8))→(List ee)→Option (List (List UInt8)×List (List UInt8)×List (List UInt8))
def bs (i82:Int) (a:ee) (b:Int→(List (List UInt8))→(List (List UInt8))→(List (List UInt8))→Option (List (List UInt8)×List (List UInt8)×List (List UInt8))) (c:List (List UInt8)) (d:List (List UInt8)) (e:List (List UInt8)):Option (List (List UInt8)×List (List UInt8)×List (List UInt8)):=
 if a.Kind=3 then
 none
 else
 (i64 (i82+1)).bind fun i218 =>
 b i218 c d e
def Yo (fu:Nat) (self:yr) (c:List ee):Nat→Int→(List (List UInt8))→(List (List UInt8))→(List (List UInt8))→Option (List (List UInt8)×List (List UInt8)×List (List UInt8))
 | 0,_,_,_,_=>none
 | n+1,i82,e,f,g =>
 if i82<(c.length:Int) then
   (at_ c i82).bind fun a =>
   if a.Kind=7 then
  none
   else
  if a.Kind≠6 then
     ((Nw fu).Il e f g a.X).bind fun b =>
     if a.Kind=3 then
   none
     else
   if a.Kind=4 then
       (self.Dl b.1 b.2.1 b.2.2 a.Body).bind fun d =>
       bs i82 a (Yo fu self c n) d.1 d.2.1 d.2.2
   else
       bs i82 a (Yo fu self c n) b.1 b.2.1 b.2.2
  else
     none
 else
   some (e,f,g)
def Dl (fu:Nat) (self:yr) (b:List (List UInt8)) (c:List (List UInt8)) (d:List (List UInt8)) (a:List ee):Option (List (List UInt8)×List (List UInt8)×List (List UInt8)):=
 Yo fu self a (a.length+1) 0 b c d
def Ow:Nat→yr
 | 0=>⟨fun _ _ _ _=>none⟩
 | n+1=>⟨Dl n (Ow n)⟩
def zq (p_1:Ue) (a:List (List UInt8)×List (List UInt8)×List (List UInt8)) (d:List (List UInt8)) (e:List (List UInt8)) (f:(List (List UInt8))→(List (Option Kb))→(List (List UInt8))→(List (List UInt8))→Option Fg):Nat→Int→(List (List UInt8))→(List (Option Kb))→Option Fg
 | 0,_,_,_=>none
 | n+1,b,c,g =>
 if b<(a.1.length:Int) then
   (at_ a.1 b).bind fun h =>
   if c.contains h=true then
  (i64 (b+1)).bind fun i =>
  zq p_1 a d e f n i c g
   else
  (app c [h]).bind fun j =>
  (app g [(mf p_1.named h)]).bind fun k =>
  (i64 (b+1)).bind fun l =>
  zq p_1 a d e f n l j k
 else
   f c g d e
def Jv (p_1:Ue) (b:List (List UInt8)) (c:List (Option Kb)) (a:List (List UInt8)×List (List UInt8)×List (List UInt8)) (d:(List (List UInt8))→(List (Option Kb))→(List (List UInt8))→(List (List UInt8))→Option Fg) (g:List (List UInt8)) (h:List (List UInt8)) (e:List (List UInt8)) (f:List (List UInt8)):Option Fg :=
 zq p_1 a e f d (a.1.length+1) 0 b c
def Zo (fu:Nat) (p_1:Ue):Nat→(List (List UInt8))→(List (Option Kb))→(List (List UInt8))→(List (List UInt8))→Option Fg
 | 0,_,_,_,_=>none
 | n+1,e,b,c,d =>
 if (0:Int)<(b.length:Int) then
   (at_ b 0).bind fun f =>
   (cut b 1 b.length).bind fun g =>
   (f).bind fun h =>
   ((Ow fu).Dl ([]:List (List UInt8)) ([]:List (List UInt8)) ([]:List (List UInt8)) h.Body).bind fun a =>
   (app c a.2.1).bind fun i =>
   (app d a.2.2).bind fun j =>
   Jv p_1 e g a (Zo fu p_1 n) a.2.1 a.2.2 i j
 else
   some (Fg.mk ([]:List (List UInt8)) c d)
def zw (fu:Nat)  (p_1:Ue) (a:Kb):Option Fg :=
 Zo fu p_1 fu ([]:List (List UInt8)) ([(some a)]:List (Option Kb)) [] []
def Ev (i88:Int) (a:Int→(List (List UInt8×Fg))→Option (List Zi×yf)) (b:List (List UInt8×Fg)):Option (List Zi×yf):=
 (i64 (i88+1)).bind fun i223 =>
 a i223 b
def Ur (a:Int) (b:List UInt8) (c:Int→(List UInt8)→(List UInt8)→Option (List Zi×yf)) (d:List UInt8):Option (List Zi×yf):=
 (i64 (a+1)).bind fun e =>
 c e b d
def Vr (f:List (List UInt8×Fg)) (g:Kb) (a:Int) (b:List UInt8) (c:Kb) (d:Int→(List UInt8)→(List UInt8)→Option (List Zi×yf)) (e:List UInt8):Option (List Zi×yf):=
 if (((mf f c.Name).getD (Fg.mk ([]:List (List UInt8)) ([]:List (List UInt8)) ([]:List (List UInt8)))).Tl).contains g.Name=true then
 if b≠[] then
   none
 else
   Ur a e d c.Name
 else
 Ur a e d b
def Sm (p_1:List Kb) (b:List (List UInt8×Fg)) (e:Int) (f:List Zi) (a:Kb) (g:Int→(List Zi)→Option (List Zi×yf)):Nat→Int→(List UInt8)→(List UInt8)→Option (List Zi×yf)
 | 0,_,_,_=>none
 | n+1,c,h,i =>
 if c<(p_1.length:Int) then
   (at_ p_1 c).bind fun d =>
   if d.Kind≠4 then
  (i64 (c+1)).bind fun j =>
  Sm p_1 b e f a g n j h i
   else
  if (((mf b d.Name).getD (Fg.mk ([]:List (List UInt8)) ([]:List (List UInt8)) ([]:List (List UInt8)))).Sl).contains a.Name=true then
     if h≠[] then
   none
     else
   Vr b a c i d (Sm p_1 b e f a g n) d.Name
  else
     Vr b a c i d (Sm p_1 b e f a g n) h
 else
   (app f [(Zi.mk a.Name h i)]).bind fun k =>
   (i64 (e+1)).bind fun l =>
   g l k
def Tm (p_1:List Kb) (b:List (List UInt8×Fg)):Nat→Int→(List Zi)→Option (List Zi×yf)
 | 0,_,_=>none
 | n+1,a,c =>
 if a<(p_1.length:Int) then
   (at_ p_1 a).bind fun d =>
   if d.Kind≠1 then
  (i64 (a+1)).bind fun e =>
  Tm p_1 b n e c
   else
  Sm p_1 b a c d (Tm p_1 b n) (p_1.length+1) 0 [] []
 else
   some (c,(yf.mk 0 0))
def Xo (fu:Nat) (p_1:List Kb) (a:Ue×yf):Nat→Int→(List (List UInt8×Fg))→Option (List Zi×yf)
 | 0,_,_=>none
 | n+1,i88,b =>
 if i88<(p_1.length:Int) then
   (at_ p_1 i88).bind fun c =>
   if c.Kind=4 then
  (at_ p_1 i88).bind fun d =>
  (at_ p_1 i88).bind fun e =>
  (zw fu a.1 e).bind fun f =>
  Ev i88 (Xo fu p_1 a n) (xe b d.Name f)
   else
  (i64 (i88+1)).bind fun i225 =>
  Xo fu p_1 a n i225 b
 else
   Tm p_1 b (p_1.length+1) 0 []
def ew (fu:Nat)  (p_1:List Kb):Option (List Zi×yf):=
 (yw fu p_1).bind fun a =>
 if a.2.Th≠0 then
 none
 else
 Xo fu p_1 a (p_1.length+1) 0 ([]:List (List UInt8×Fg))
def Aw (fu:Nat)  (p_1:List Kb):Option yf :=
 (ew fu p_1).bind fun a =>
 some a.2
end Go.Y
namespace Go.Y
open Go.wc Go.hd
def xo  (p_1:hh) (a:sc):Option Int :=
 if a.Kind=3 then
 none
 else
 some a.Kind
def mx  (b:List (List UInt8×Int)) (c:List (List UInt8×Int)) (d:List (List UInt8×Kb)) (a:sc):Option Int :=
 if a.Kind=3 then
 none
 else
 some a.Kind
def ej  (l:hh) (b:Int) (c:Int) (d:List Int) (e:Int) (f:Int) (g:List Ic) (h:List (List (List UInt8×Int))) (i:Int) (j:Int) (k:Int):Option (Int×Int×Int×List Int×Int×Int×List Ic×List (List (List UInt8×Int))):=
 (app g [(Ic.mk i j k)]).bind fun a =>
 (i64 ((a.length:Int) - 1)).bind fun i44 =>
 some (i44,b,c,d,e,f,a,h)
def ju  (b:hh) (c:Int) (d:Int) (e:List Int) (f:Int) (g:Int) (a:List Ic) (h:List (List (List UInt8×Int))):Option Int :=
 some (a.length:Int)
def Rt  (l:hh) (c:Int) (d:Int) (e:List Int) (f:Int) (g:Int) (h:List Ic) (a:List (List (List UInt8×Int))) (i:List UInt8) (j:Int):Option (Int×Int×Int×List Int×Int×Int×List Ic×List (List (List UInt8×Int))):=
 (app e [j]).bind fun b =>
 (i64 ((b.length:Int) - 1)).bind fun i44 =>
 (i64 ((a.length:Int) - 1)).bind fun i46 =>
 (at_ a i46).bind fun k =>
 some (i44,c,d,b,f,g,h,(a.set i46.toNat (xe k i i44)))
def Ps (a:List UInt8) (b:List (List (List UInt8×Int))):Nat→Int→Option Int
 | 0,_=>none
 | n+1,i45 =>
 if (0:Int)≤i45 then
   (at_ b i45).bind fun c =>
   if (mf c a).isSome=true then
  some ((mf c a).getD 0)
   else
  (i64 (i45 - 1)).bind fun i77 =>
  Ps a b n i77
 else
   none
def ku (fu:Nat)  (c:hh) (d:Int) (e:Int) (f:List Int) (g:Int) (h:Int) (i:List Ic) (a:List (List (List UInt8×Int))) (b:List UInt8):Option Int :=
 (i64 ((a.length:Int) - 1)).bind fun i28 =>
 Ps b a fu i28
structure Hr where
 Jk:hh→Int→Int→(List Int)→Int→Int→(List Ic)→(List (List (List UInt8×Int)))→zb→Option (Int×Int×Int×List Int×Int×Int×List Ic×List (List (List UInt8×Int)))
def fw (a:Int×Int×Int×List Int×Int×Int×List Ic×List (List (List UInt8×Int))) (i276:Int):Option (Int×Int×Int×List Int×Int×Int×List Ic×List (List (List UInt8×Int))):=
 some (i276,a.2.1,a.2.2.1,a.2.2.2.1,a.2.2.2.2.1,a.2.2.2.2.2.1,a.2.2.2.2.2.2.1,a.2.2.2.2.2.2.2)
def gw (a:Int×Int×Int×List Int×Int×Int×List Ic×List (List (List UInt8×Int))) (b:Int):Option (Int×Int×Int×List Int×Int×Int×List Ic×List (List (List UInt8×Int))):=
 some (b,a.2.1,a.2.2.1,a.2.2.2.1,a.2.2.2.2.1,a.2.2.2.2.2.1,a.2.2.2.2.2.2.1,a.2.2.2.2.2.2.2)
def Qs (fu:Nat) (self:Hr) (a:zb) (b:hh):Nat→Int→Int→Int→Int→Int→(List Int)→(List Ic)→(List (List (List UInt8×Int)))→(List Int)→Option (Int×Int×Int×List Int×Int×Int×List Ic×List (List (List UInt8×Int)))
 | 0,_,_,_,_,_,_,_,_,_=>none
 | n+1,i76,i77,i78,i79,i80,d,e,f,q =>
 if i76<(a.Kids.length:Int) then
   (at_ a.Kids i76).bind fun t =>
   (self.Jk b i77 i78 d i79 i80 e f t).bind fun g =>
   (app q [g.1]).bind fun u =>
   (i64 (i76+1)).bind fun i165 =>
   Qs fu self a b n i165 g.2.1 g.2.2.1 g.2.2.2.2.1 g.2.2.2.2.2.1 g.2.2.2.1 g.2.2.2.2.2.2.1 g.2.2.2.2.2.2.2 u
 else
   if a.Kind=1 then
  (ej b i77 i78 d i79 i80 e f 1 0 a.N).bind fun k =>
  some (1,k.2.1,k.2.2.1,k.2.2.2.1,k.2.2.2.2.1,k.2.2.2.2.2.1,k.2.2.2.2.2.2.1,k.2.2.2.2.2.2.2)
   else
  if a.Kind=2 then
     (ej b i77 i78 d i79 i80 e f 2 a.N 0).bind fun l =>
     some (2,l.2.1,l.2.2.1,l.2.2.2.1,l.2.2.2.2.1,l.2.2.2.2.2.1,l.2.2.2.2.2.2.1,l.2.2.2.2.2.2.2)
  else
     if a.Kind=3 then
   (ku fu b i77 i78 d i79 i80 e f a.Name).bind fun r =>
   (ej b i77 i78 d i79 i80 e f 3 r 0).bind fun h =>
   (at_ h.2.2.2.1 r).bind fun v =>
   some (v,h.2.1,h.2.2.1,h.2.2.2.1,h.2.2.2.2.1,h.2.2.2.2.2.1,h.2.2.2.2.2.2.1,h.2.2.2.2.2.2.2)
     else
   if a.Kind=4 then
       (ej b i77 i78 d i79 i80 e f 6 0 0).bind fun m =>
       some (1,m.2.1,m.2.2.1,m.2.2.2.1,m.2.2.2.2.1,m.2.2.2.2.2.1,m.2.2.2.2.2.2.1,m.2.2.2.2.2.2.2)
   else
       if a.Kind=5 then
    none
       else
    if (6:Int)≤a.Kind then
         if a.Kind≤18 then
     (i64 (8+a.Kind)).bind fun i239 =>
     (i64 (i239 - 6)).bind fun i241 =>
     (ej b i77 i78 d i79 i80 e f i241 0 0).bind fun c =>
     if a.Kind≤10 then
           some (1,c.2.1,c.2.2.1,c.2.2.2.1,c.2.2.2.2.1,c.2.2.2.2.2.1,c.2.2.2.2.2.2.1,c.2.2.2.2.2.2.2)
     else
           some (2,c.2.1,c.2.2.1,c.2.2.2.1,c.2.2.2.2.1,c.2.2.2.2.2.1,c.2.2.2.2.2.2.1,c.2.2.2.2.2.2.2)
         else
     if a.Kind=19 then
           none
     else
           if a.Kind=20 then
      (ej b i77 i78 d i79 i80 e f 27 ((mf b.boxes a.Name).getD 0) 0).bind fun w =>
      ((mf b.defs a.Name)).bind fun x =>
      (xo b x.ue).bind fun y =>
      fw w y
           else
      if a.Kind=22 then
             (ej b i77 i78 d i79 i80 e f 29 ((mf b.Ok a.Name).getD 0) 0).bind fun o =>
             (i64 (10+((mf b.Ok a.Name).getD 0))).bind fun z =>
             some (z,o.2.1,o.2.2.1,o.2.2.2.1,o.2.2.2.2.1,o.2.2.2.2.2.1,o.2.2.2.2.2.2.1,o.2.2.2.2.2.2.2)
      else
             if a.Kind=21 then
       (ej b i77 i78 d i79 i80 e f 31 0 0).bind fun i =>
       some (i.2.2.2.2.2.1,i.2.1,i.2.2.1,i.2.2.2.1,i.2.2.2.2.1,i.2.2.2.2.2.1,i.2.2.2.2.2.2.1,i.2.2.2.2.2.2.2)
             else
       if a.Kind=24 then
               (ej b i77 i78 d i79 i80 e f 32 0 0).bind fun p =>
               some (2,p.2.1,p.2.2.1,p.2.2.2.1,p.2.2.2.2.1,p.2.2.2.2.2.1,p.2.2.2.2.2.2.1,p.2.2.2.2.2.2.2)
       else
               (ej b i77 i78 d i79 i80 e f 30 0 0).bind fun j =>
               (at_ q 0).bind fun A =>
               (i64 (A - 10)).bind fun B =>
               (xr b.Ok B).bind fun s =>
               if s.isSome=true then
        ((mf b.defs ((s.getD ([],0)).1))).bind fun C =>
        (xo b C.ue).bind fun D =>
        gw j D
               else
        some (0,j.2.1,j.2.2.1,j.2.2.2.1,j.2.2.2.2.1,j.2.2.2.2.2.1,j.2.2.2.2.2.2.1,j.2.2.2.2.2.2.2)
    else
         none
def Jk (fu:Nat) (self:Hr) (b:hh) (c:Int) (d:Int) (e:List Int) (f:Int) (g:Int) (h:List Ic) (i:List (List (List UInt8×Int))) (a:zb):Option (Int×Int×Int×List Int×Int×Int×List Ic×List (List (List UInt8×Int))):=
 Qs fu self a b (a.Kids.length+1) 0 c d f g e h i []
def lu:Nat→Hr
 | 0=>⟨fun _ _ _ _ _ _ _ _ _=>none⟩
 | n+1=>⟨Jk n (lu n)⟩
structure Oo where
 Ll:hh→Int→Int→(List Int)→Int→Int→(List Ic)→(List (List (List UInt8×Int)))→(List ee)→Option (Int×Int×List Int×Int×Int×List Ic×List (List (List UInt8×Int)))
 hn:hh→Int→Int→(List Int)→Int→Int→(List Ic)→(List (List (List UInt8×Int)))→ee→Option (Int×Int×List Int×Int×Int×List Ic×List (List (List UInt8×Int)))
def Rs (self:Oo) (b:List ee) (d:hh):Nat→Int→Int→Int→Int→Int→(List Int)→(List Ic)→(List (List (List UInt8×Int)))→Option (Int×Int×List Int×Int×Int×List Ic×List (List (List UInt8×Int)))
 | 0,_,_,_,_,_,_,_,_=>none
 | n+1,i81,i82,i83,i84,i85,e,f,c =>
 if i81<(b.length:Int) then
   (at_ b i81).bind fun g =>
   (self.hn d i82 i83 e i84 i85 f c g).bind fun a =>
   (i64 (i81+1)).bind fun i163 =>
   Rs self b d n i163 a.1 a.2.1 a.2.2.2.1 a.2.2.2.2.1 a.2.2.1 a.2.2.2.2.2.1 a.2.2.2.2.2.2
 else
   (i64 ((c.length:Int) - 1)).bind fun i165 =>
   (cut c 0 i165).bind fun h =>
   some (i82,i83,e,i84,i85,f,h)
def Ll (self:Oo) (b:hh) (c:Int) (d:Int) (e:List Int) (f:Int) (g:Int) (h:List Ic) (i:List (List (List UInt8×Int))) (a:List ee):Option (Int×Int×List Int×Int×Int×List Ic×List (List (List UInt8×Int))):=
 (app i [[]]).bind fun j =>
 Rs self a b (a.length+1) 0 c d f g e h j
def iw (a:Int×Int×Int×List Int×Int×Int×List Ic×List (List (List UInt8×Int))) (b:List Ic):Option (Int×Int×List Int×Int×Int×List Ic×List (List (List UInt8×Int))):=
 some (a.2.1,a.2.2.1,a.2.2.2.1,a.2.2.2.2.1,a.2.2.2.2.2.1,b,a.2.2.2.2.2.2.2)
def hn (fu:Nat) (self:Oo) (c:hh) (m:Int) (n:Int) (o:List Int) (p:Int) (q:Int) (r:List Ic) (s:List (List (List UInt8×Int))) (b:ee):Option (Int×Int×List Int×Int×Int×List Ic×List (List (List UInt8×Int))):=
 if b.Kind=3 then
 none
 else
 if b.Kind=4 then
   (ju c m n o p q r s).bind fun u =>
   ((lu fu).Jk c m n o p q r s b.X).bind fun g =>
   (ej c g.2.1 g.2.2.1 g.2.2.2.1 g.2.2.2.2.1 g.2.2.2.2.2.1 g.2.2.2.2.2.2.1 g.2.2.2.2.2.2.2 22 0 0).bind fun e =>
   (self.Ll c e.2.1 e.2.2.1 e.2.2.2.1 e.2.2.2.2.1 e.2.2.2.2.2.1 e.2.2.2.2.2.2.1 e.2.2.2.2.2.2.2 b.Body).bind fun h =>
   (ej c h.1 h.2.1 h.2.2.1 h.2.2.2.1 h.2.2.2.2.1 h.2.2.2.2.2.1 h.2.2.2.2.2.2 21 u 0).bind fun d =>
   (ju c d.2.1 d.2.2.1 d.2.2.2.1 d.2.2.2.2.1 d.2.2.2.2.2.1 d.2.2.2.2.2.2.1 d.2.2.2.2.2.2.2).bind fun v =>
   (at_ d.2.2.2.2.2.2.1 e.1).bind fun t =>
   iw d (d.2.2.2.2.2.2.1.set e.1.toNat (Ic.mk t.Op v t.N))
 else
   if b.Kind=6 then
  none
   else
  ((lu fu).Jk c m n o p q r s b.X).bind fun a =>
  if b.Kind=1 then
     (Rt c a.2.1 a.2.2.1 a.2.2.2.1 a.2.2.2.2.1 a.2.2.2.2.2.1 a.2.2.2.2.2.2.1 a.2.2.2.2.2.2.2 b.Name a.1).bind fun f =>
     (ej c f.2.1 f.2.2.1 f.2.2.2.1 f.2.2.2.2.1 f.2.2.2.2.2.1 f.2.2.2.2.2.2.1 f.2.2.2.2.2.2.2 4 f.1 0).bind fun i =>
     some (i.2.1,i.2.2.1,i.2.2.2.1,i.2.2.2.2.1,i.2.2.2.2.2.1,i.2.2.2.2.2.2.1,i.2.2.2.2.2.2.2)
  else
     if b.Kind=2 then
   (ku fu c a.2.1 a.2.2.1 a.2.2.2.1 a.2.2.2.2.1 a.2.2.2.2.2.1 a.2.2.2.2.2.2.1 a.2.2.2.2.2.2.2 b.Name).bind fun w =>
   (ej c a.2.1 a.2.2.1 a.2.2.2.1 a.2.2.2.2.1 a.2.2.2.2.2.1 a.2.2.2.2.2.2.1 a.2.2.2.2.2.2.2 4 w 0).bind fun j =>
   some (j.2.1,j.2.2.1,j.2.2.2.1,j.2.2.2.2.1,j.2.2.2.2.2.1,j.2.2.2.2.2.2.1,j.2.2.2.2.2.2.2)
     else
   if b.Kind=5 then
       none
   else
       if b.Kind=7 then
    none
       else
    if b.Kind=8 then
         (ej c a.2.1 a.2.2.1 a.2.2.2.1 a.2.2.2.2.1 a.2.2.2.2.2.1 a.2.2.2.2.2.2.1 a.2.2.2.2.2.2.2 28 0 0).bind fun k =>
         some (k.2.1,k.2.2.1,k.2.2.2.1,k.2.2.2.2.1,k.2.2.2.2.2.1,k.2.2.2.2.2.2.1,k.2.2.2.2.2.2.2)
    else
         if b.Kind=9 then
     (ej c a.2.1 a.2.2.1 a.2.2.2.1 a.2.2.2.2.1 a.2.2.2.2.2.1 a.2.2.2.2.2.2.1 a.2.2.2.2.2.2.2 5 0 0).bind fun l =>
     some (l.2.1,l.2.2.1,l.2.2.2.1,l.2.2.2.2.1,l.2.2.2.2.2.1,l.2.2.2.2.2.2.1,l.2.2.2.2.2.2.2)
         else
     none
def mu:Nat→Oo
 | 0=>⟨fun _ _ _ _ _ _ _ _ _=>none,fun _ _ _ _ _ _ _ _ _=>none⟩
 | n+1=>⟨Ll (mu n),hn n (mu n)⟩
def Ss (fu:Nat) (p_1:hh) (c:Kb) (d:List (List (List UInt8×Int))) (i40:Int) (i41:Int) (i42:Int) (e:List Int) (f:List Ic) (i187:Int):Option ef :=
 ((mu fu).Ll p_1 i40 i41 e i42 i187 f d c.Body).bind fun a =>
 if c.Kind≠2 then
 (ej p_1 a.1 a.2.1 a.2.2.1 a.2.2.2.1 a.2.2.2.2.1 a.2.2.2.2.2.1 a.2.2.2.2.2.2 25 0 0).bind fun b =>
 some (ef.mk b.2.1 b.2.2.1 b.2.2.2.1 b.2.2.2.2.1 b.2.2.2.2.2.1 b.2.2.2.2.2.2.1)
 else
 none
def Ts (fu:Nat) (p_1:hh) (a:Kb) (b:List (List (List UInt8×Int))) (i40:Int) (i41:Int) (i42:Int) (i43:Int) (c:List Int) (d:List Ic):Option ef :=
 if a.Kind=3 then
 (xo p_1 a.ae).bind fun e =>
 Ss fu p_1 a b i40 i41 i42 c d e
 else
 Ss fu p_1 a b i40 i41 i42 c d i43
def jw (i87:Int) (a:Int→(List (List (List UInt8×Int)))→Int→Int→Int→Int→(List Int)→(List Ic)→Option ef) (b:List (List (List UInt8×Int))) (i150:Int) (i151:Int) (i152:Int) (i153:Int) (c:List Int) (d:List Ic):Option ef :=
 (i64 (i87+1)).bind fun i181 =>
 a i181 b i150 i151 i152 i153 c d
def Gq (fu:Nat) (p_1:hh) (b:Kb):Nat→Int→(List (List (List UInt8×Int)))→Int→Int→Int→Int→(List Int)→(List Ic)→Option ef
 | 0,_,_,_,_,_,_,_,_=>none
 | n+1,i87,c,i92,i93,i94,i95,d,e =>
 if i87<(b.Params.length:Int) then
   (at_ b.Params i87).bind fun f =>
   (xo p_1 f.ue).bind fun g =>
   (Rt p_1 i92 i93 d i94 i95 e c f.Name g).bind fun a =>
   jw i87 (Gq fu p_1 b n) a.2.2.2.2.2.2.2 a.2.1 a.2.2.1 a.2.2.2.2.1 a.2.2.2.2.2.1 a.2.2.2.1 a.2.2.2.2.2.2.1
 else
   Ts fu p_1 b c i92 i93 i94 i95 d e
def mw (fu:Nat) (p_1:hh) (a:Kb) (i53:Int):Option ef :=
 Gq fu p_1 a (a.Params.length+1) 0 [([]:List (List UInt8×Int))] a.Kind (a.Params.length:Int) i53 0 [] []
def nx (fu:Nat)  (p_1:hh) (a:Kb):Option ef :=
 if a.Kind≠4 then
 (xo p_1 a.ue).bind fun b =>
 mw fu p_1 a b
 else
 Ts fu p_1 a [([]:List (List UInt8×Int))] a.Kind 0 0 0 [] []
def Fv (i162:Int) (a:List (List UInt8×Int)) (b:List (List UInt8×Kb)) (c:Kb) (d:Kb) (e:List (List UInt8×Int)) (f:Int→(List (List UInt8×Int))→(List (List UInt8×Int))→(List (List UInt8×Kb))→(List Vj)→Option (Wc×yf)) (g:List Vj):Option (Wc×yf):=
 (i64 (i162+1)).bind fun h =>
 f h e a (xe b c.Name d) g
def Gv (p_1:List Kb) (i162:Int) (a:List (List UInt8×Int)) (b:List (List UInt8×Kb)) (f:List Vj) (c:Kb) (d:Kb) (g:Int→(List (List UInt8×Int))→(List (List UInt8×Int))→(List (List UInt8×Kb))→(List Vj)→Option (Wc×yf)) (e:List (List UInt8×Int)):Option (Wc×yf):=
 (at_ p_1 i162).bind fun h =>
 (at_ p_1 i162).bind fun i =>
 (mx e a (xe b c.Name d) h.ue).bind fun r417 =>
 (app f [(Vj.mk r417 i.dh)]).bind fun j =>
 Fv i162 a b c d e g j
def Hv (i162:Int) (a:List (List UInt8×Int)) (b:List (List UInt8×Kb)) (c:List Vj) (d:Kb) (e:Kb) (f:Int→(List (List UInt8×Int))→(List (List UInt8×Int))→(List (List UInt8×Kb))→(List Vj)→Option (Wc×yf)) (g:List (List UInt8×Int)):Option (Wc×yf):=
 (i64 (i162+1)).bind fun h =>
 f h a g (xe b d.Name e) c
def vq (fu:Nat) (p_1:List Kb) (b:List (List UInt8×Int)) (c:List (List UInt8×Int)) (d:List (List UInt8×Kb)) (e:List Vj):Nat→Int→(List ef)→Option (Wc×yf)
 | 0,_,_=>none
 | n+1,a,f =>
 if a<(p_1.length:Int) then
   (at_ p_1 a).bind fun h =>
   if h.Kind=1 then
  (i64 (a+1)).bind fun i =>
  vq fu p_1 b c d e n i f
   else
  (at_ p_1 a).bind fun j =>
  (nx fu (hh.mk b c d) j).bind fun g =>
  if (200:Int)<(g.od.length:Int) then
     none
  else
     if (4000:Int)<(g.Code.length:Int) then
   none
     else
   (app f [g]).bind fun k =>
   (i64 (a+1)).bind fun l =>
   vq fu p_1 b c d e n l k
 else
   some ((Wc.mk e f),(yf.mk 0 0))
def Um (fu:Nat) (p_1:List Kb):Nat→Int→(List (List UInt8×Int))→(List (List UInt8×Int))→(List (List UInt8×Kb))→(List Vj)→Option (Wc×yf)
 | 0,_,_,_,_,_=>none
 | n+1,i162,a,b,c,d =>
 if i162<(p_1.length:Int) then
   (at_ p_1 i162).bind fun e =>
   (at_ p_1 i162).bind fun f =>
   (at_ p_1 i162).bind fun g =>
   if g.Kind=1 then
  (at_ p_1 i162).bind fun h =>
  Gv p_1 i162 b c d e f (Um fu p_1 n) (xe a h.Name (a.length:Int))
   else
  (at_ p_1 i162).bind fun i =>
  Hv i162 a c d e f (Um fu p_1 n) (xe b i.Name (b.length:Int))
 else
   vq fu p_1 a b c d (p_1.length+1) 0 []
def nw (fu:Nat)  (p_1:List Kb):Option (Wc×yf):=
 (Aw fu p_1).bind fun a =>
 if a.Th≠0 then
 none
 else
 Um fu p_1 (p_1.length+1) 0 ([]:List (List UInt8×Int)) ([]:List (List UInt8×Int)) ([]:List (List UInt8×Kb)) []
end Go.Y
namespace Go.Y
open Go.wc Go.hd
def jn  (p_1:Int):Option Bool :=
 if p_1=1 then
 some true
 else
 some (decide (p_1=2))
def Bu  (p_1:Be) (a:Int) (c:Int):Option Bool :=
 if (0:Int)≤a then
 (p_1.m).bind fun b =>
 if a<(b.Gd.length:Int) then
   (at_ b.Gd a).bind fun d =>
   some (decide (d.Kind=c))
 else
   none
 else
 none
def St  (p_1:Be) (a:Int):Option Bool :=
 if (10:Int)≤a then
 (i64 (a - 10)).bind fun i7 =>
 (Bu p_1 i7 3).bind fun b =>
 some b
 else
 none
def Xm  (Bh:Bool):Option Int :=
 if Bh=true then
 some 0
 else
 none
def Us (p_1:Be) (b:ef) (a:Ic) (af:Bool):Option Int :=
 if af=true then
 if (0:Int)≤a.A then
   Xm (decide (a.A<(b.Code.length:Int)))
 else
   none
 else
 if a.Op=23 then
   none
 else
   if a.Op=29 then
  (Bu p_1 a.A 3).bind fun c =>
  Xm c
   else
  if a.Op=26 then
     none
  else
     if a.Op=27 then
   if (0:Int)≤a.A then
       (p_1.m).bind fun d =>
       Xm (decide (a.A<(d.Qe.length:Int)))
   else
       none
     else
   if a.Op<1 then
       none
   else
       if (32:Int)<a.Op then
    none
       else
    Xm true
def Vs (p_1:Be) (b:ef) (a:Ic) (Af:Bool):Option Int :=
 if Af=true then
 if (0:Int)≤a.A then
   Xm (decide (a.A<(b.od.length:Int)))
 else
   none
 else
 if a.Op=21 then
   Us p_1 b a (decide (a.Op=21))
 else
   Us p_1 b a (decide (a.Op=22))
def ox  (p_1:Be) (b:ef) (a:Ic):Option Int :=
 if a.Op=2 then
 if a.A=0 then
   none
 else
   Xm (decide (a.A=1))
 else
 if a.Op=3 then
   Vs p_1 b a (decide (a.Op=3))
 else
   Vs p_1 b a (decide (a.Op=4))
def Tt (p_1:List Int) (a:Int→Option Bool):Nat→Int→Option Int
 | 0,_=>none
 | n+1,i20 =>
 if i20<(p_1.length:Int) then
   (at_ p_1 i20).bind fun b =>
   (a b).bind fun c =>
   if c=true then
  some i20
   else
  (i64 (i20+1)).bind fun i49 =>
  Tt p_1 a n i49
 else
   some (-1)
def cy  (p_1:List Int) (a:Int→Option Bool):Option Int :=
 Tt p_1 a (p_1.length+1) 0
def Ru  (p_1:List Int) (a:Int→Option Bool):Option Bool :=
 (cy p_1 a).bind fun b =>
 some (decide ((0:Int)≤b))
def Ut (p_1:List Ic) (a:Ic→Option Bool):Nat→Int→Option Int
 | 0,_=>none
 | n+1,i20 =>
 if i20<(p_1.length:Int) then
   (at_ p_1 i20).bind fun b =>
   (a b).bind fun c =>
   if c=true then
  some i20
   else
  (i64 (i20+1)).bind fun i49 =>
  Ut p_1 a n i49
 else
   some (-1)
def dy  (p_1:List Ic) (a:Ic→Option Bool):Option Int :=
 Ut p_1 a (p_1.length+1) 0
def ey  (p_1:List Ic) (a:Ic→Option Bool):Option Bool :=
 (dy p_1 a).bind fun b =>
 some (decide ((0:Int)≤b))
def px  (p_1:Int) (a:Option Be):Option Bool :=
 (jn p_1).bind fun b =>
 if b=true then
 some false
 else
 (a).bind fun c =>
 (St c p_1).bind fun d =>
 some (!d)
def qp (p_1:Be) (a:ef) (b:Bool):Option Int :=
 if b=true then
 none
 else
 (Ru a.od (fun c=>px c (some p_1))).bind fun d =>
 if d=true then
   none
 else
   some 0
def ot (p_1:Be) (a:ef) (b:Bool):Option Int :=
 if b=true then
 none
 else
 if (a.Code.length:Int)<1 then
   none
 else
   if (4000:Int)<(a.Code.length:Int) then
  none
   else
  if a.Kind≠4 then
     (jn a.Result).bind fun c =>
     if c=true then
   if a.Kind=3 then
       (jn a.ae).bind fun d =>
       qp p_1 a (!d)
   else
       qp p_1 a false
     else
   none
  else
     if a.Kind=3 then
   (jn a.ae).bind fun e =>
   qp p_1 a (!e)
     else
   qp p_1 a false
def pt (p_1:Be) (a:ef) (Bh:Bool):Option Int :=
 if Bh=true then
 none
 else
 if (200:Int)<(a.od.length:Int) then
   none
 else
   if a.Params<0 then
  none
   else
  if (6:Int)<a.Params then
     none
  else
     if (a.od.length:Int)<a.Params then
   none
     else
   if a.Kind=4 then
       ot p_1 a (decide ((0:Int)<a.Params))
   else
       ot p_1 a false
def Gx  (p_1:Be) (a:ef):Option Int :=
 if a.Kind≠2 then
 if a.Kind≠3 then
   pt p_1 a (decide (a.Kind≠4))
 else
   pt p_1 a false
 else
 none
def qt (p_1:Be) (i144:Int) (i145:Int) (a:ef) (b:Int→Int→Option Qh):Nat→Int→Option Qh
 | 0,_=>none
 | n+1,i249 =>
 if i249<(a.Code.length:Int) then
   (at_ a.Code i249).bind fun c =>
   (ox p_1 a c).bind fun d =>
   if d≠0 then
  none
   else
  (i64 (i249+1)).bind fun i281 =>
  qt p_1 i144 i145 a b n i281
 else
   if a.Kind=4 then
  (i64 (i144+1)).bind fun i284 =>
  (i64 (i145+1)).bind fun i286 =>
  b i284 i286
   else
  (i64 (i145+1)).bind fun i288 =>
  b i144 i288
def Mq (p_1:Be) (a:Wc):Nat→Int→Int→Option Qh
 | 0,_,_=>none
 | n+1,i144,i145 =>
 if i145<(a.Gd.length:Int) then
   (at_ a.Gd i145).bind fun b =>
   (Gx p_1 b).bind fun c =>
   if c≠0 then
  none
   else
  qt p_1 i144 i145 b (Mq p_1 a n) (b.Code.length+1) 0
 else
   if i144=0 then
  none
   else
  some (Qh.mk 0 0 0)
def tt (p_1:Be) (a:Wc):Nat→Int→Option Qh
 | 0,_=>none
 | n+1,i39 =>
 if i39<(a.Qe.length:Int) then
   (at_ a.Qe i39).bind fun b =>
   (jn b.ue).bind fun c =>
   if c=true then
  if b.dh<1 then
     none
  else
     if (20:Int)<b.dh then
   none
     else
   (i64 (i39+1)).bind fun i74 =>
   tt p_1 a n i74
   else
  none
 else
   Mq p_1 a (a.Gd.length+1) 0 0
def Hx  (p_1:Be):Option Qh :=
 (p_1.m).bind fun a =>
 if (30:Int)<(a.Qe.length:Int) then
 none
 else
 if (30:Int)<(a.Gd.length:Int) then
   none
 else
   tt p_1 a (a.Qe.length+1) 0
end Go.Y
namespace Go.Y
open Go.wc Go.hd
def Vv  (a:List Int) (b:List Bool):Option Cd :=
 some (Cd.mk a b)
def Pw  (p_1:Cd):Option Cd :=
 (small p_1.stack).bind fun a =>
 (small p_1.has).bind fun b =>
 Vv p_1.stack p_1.has
def Kv  (a:List Int) (b:List Bool):Option Cd :=
 some (Cd.mk a b)
def Bw  (p_1:Cd):Option Cd :=
 (small p_1.stack).bind fun a =>
 (small p_1.has).bind fun b =>
 Kv p_1.stack p_1.has
def ow (p_1:List Int):Nat→Option Bool
 | 0=>none
 | n+1 =>
 if (0:Int)<(p_1.length:Int) then
   none
 else
   some true
def qx  (p_1:List Int) (a:List Int):Option Bool :=
 if (p_1.length:Int)≠(a.length:Int) then
 none
 else
 ow p_1 (p_1.length+1)
def qk  (h:Be) (i:ef) (b:List (Int×Cd)) (c:List Int) (d:List Int) (e:List Bool) (f:Int) (g:Int):Option (List (Int×Cd)×List Int×List Int×List Bool×Int):=
 (app d [g]).bind fun a =>
 if (300:Int)<(a.length:Int) then
 none
 else
 some (b,c,a,e,f)
def Ao  (h:Be) (i:ef) (b:List (Int×Cd)) (c:List Int) (a:List Int) (d:List Bool) (e:Int):Option (Int×List (Int×Cd)×List Int×List Int×List Bool×Int):=
 if (a.length:Int)=0 then
 none
 else
 (i64 ((a.length:Int) - 1)).bind fun i49 =>
 (at_ a i49).bind fun f =>
 (i64 ((a.length:Int) - 1)).bind fun i65 =>
 (cut a 0 i65).bind fun g =>
 some (f,b,c,g,d,e)
def vt (b:Be) (c:List Int) (d:ef):Nat→Int→Int→(List (Int×Cd))→(List Int)→(List Int)→(List Bool)→Option (List (Int×Cd)×List Int×List Int×List Bool×Int)
 | 0,_,_,_,_,_,_=>none
 | n+1,i78,i79,e,f,g,h =>
 if (0:Int)≤i78 then
   (Ao b d e f g h i79).bind fun a =>
   (at_ c i78).bind fun i =>
   if a.1≠i then
  none
   else
  (i64 (i78 - 1)).bind fun i151 =>
  vt b c d n i151 a.2.2.2.2.2 a.2.1 a.2.2.1 a.2.2.2.1 a.2.2.2.2.1
 else
   some (e,f,g,h,i79)
def ym (fu:Nat)  (b:Be) (c:ef) (d:List (Int×Cd)) (e:List Int) (f:List Int) (g:List Bool) (h:Int) (a:List Int):Option (List (Int×Cd)×List Int×List Int×List Bool×Int):=
 (i64 ((a.length:Int) - 1)).bind fun i51 =>
 vt b a c fu i51 h d e f g
def sx (a:Int) (b:List Int) (c:List Int) (d:List Bool) (e:Int) (f:List (Int×Cd)):Option (List (Int×Cd)×List Int×List Int×List Bool×Int):=
 (app b [a]).bind fun g =>
 some (f,g,c,d,e)
def nu (i128:Int) (a:Int→Option (List (Int×Cd)×List Int×List Int×List Bool×Int)) (b:Bool):Option (List (Int×Cd)×List Int×List Int×List Bool×Int):=
 if b=true then
 none
 else
 (i64 (i128+1)).bind fun i183 =>
 a i183
def Ip (b:Int) (a:List (Int×Cd)) (d:List Int) (e:List Int) (c:List Bool) (f:Int):Nat→Int→Option (List (Int×Cd)×List Int×List Int×List Bool×Int)
 | 0,_=>none
 | n+1,i128 =>
 if i128<((((mf a b).getD (Cd.mk ([]:List Int) ([]:List Bool))).has).length:Int) then
   (at_ (((mf a b).getD (Cd.mk ([]:List Int) ([]:List Bool))).has) i128).bind fun g =>
   if g=true then
  (at_ c i128).bind fun h =>
  nu i128 (Ip b a d e c f n) (!h)
   else
  nu i128 (Ip b a d e c f n) false
 else
   some (a,d,e,c,f)
def kq  (j:Be) (g:ef) (b:List (Int×Cd)) (f:List Int) (c:List Int) (d:List Bool) (e:Int) (a:Int):Option (List (Int×Cd)×List Int×List Int×List Bool×Int):=
 if e≠0 then
 none
 else
 if a=(g.Code.length:Int) then
   none
 else
   if (mf b a).isSome=true then
  (qx (((mf b a).getD (Cd.mk ([]:List Int) ([]:List Bool))).stack) c).bind fun h =>
  if h=true then
     Ip a b f c d e ((((mf b a).getD (Cd.mk ([]:List Int) ([]:List Bool))).has).length+1) 0
  else
     none
   else
  (Bw (Cd.mk c d)).bind fun i =>
  sx a f c d e (xe b a i)
def Ix (fu:Nat)  (c:Be) (d:ef) (e:List (Int×Cd)) (f:List Int) (g:List Int) (h:List Bool) (i:Int) (j:Int):Option (ef×List (Int×Cd)×List Int×List Int×List Bool×Int):=
 (c.m).bind fun k =>
 (at_ k.Gd j).bind fun b =>
 (cut b.od 0 b.Params).bind fun l =>
 (ym fu c d e f g h i l).bind fun a =>
 some (b,a.1,a.2.1,a.2.2.1,a.2.2.2.1,a.2.2.2.2)
def Su  (b:Be) (c:ef) (d:List (Int×Cd)) (e:List Int) (f:List Int) (g:List Bool) (h:Int):Option (ef×List (Int×Cd)×List Int×List Int×List Bool×Int):=
 (Ao b c d e f g h).bind fun a =>
 if a.2.2.2.2.2≠0 then
 none
 else
 (St b a.1).bind fun i =>
 if i=true then
   (b.m).bind fun j =>
   (i64 (a.1 - 10)).bind fun i90 =>
   (at_ j.Gd i90).bind fun k =>
   some (k,a.2.1,a.2.2.1,a.2.2.2.1,a.2.2.2.2.1,a.2.2.2.2.2)
 else
   none
def Jx  (f:Be) (g:ef) (b:List (Int×Cd)) (c:List Int) (a:List Int) (d:List Bool) (e:Int):Option (Bool×List (Int×Cd)×List Int×List Int×List Bool×Int):=
 if (0:Int)<(a.length:Int) then
 none
 else
 some (false,b,c,a,d,e)
def Vm  (i50:Int) (a:List (Int×Cd)) (b:List Int) (c:List Int) (d:List Bool):Option (Bool×List (Int×Cd)×List Int×List Int×List Bool×Int):=
 some (true,a,b,c,d,i50)
def Cw (fu:Nat)  (b:Be) (a:ef) (d:List (Int×Cd)) (e:List Int) (f:List Int) (g:List Bool) (h:Int) (c:Ic):Option (Bool×List (Int×Cd)×List Int×List Int×List Bool×Int):=
 if c.Op=23 then
 none
 else
 if c.Op=29 then
   (Ix fu b a d e f g h c.A).bind fun n =>
   (i64 (10+c.A)).bind fun i93 =>
   (qk b a n.2.1 n.2.2.1 n.2.2.2.1 n.2.2.2.2.1 n.2.2.2.2.2 i93).bind fun o =>
   Vm o.2.2.2.2 o.1 o.2.1 o.2.2.1 o.2.2.2.1
 else
   if c.Op=24 then
  none
   else
  if c.Op=25 then
     if a.Kind=2 then
   none
     else
   (Jx b a d e f g h).bind fun k =>
   some (k.1,k.2.1,k.2.2.1,k.2.2.2.1,k.2.2.2.2.1,k.2.2.2.2.2)
  else
     if c.Op=26 then
   none
     else
   if c.Op=27 then
       (b.m).bind fun v =>
       (at_ v.Qe c.A).bind fun w =>
       (qk b a d e f g h w.ue).bind fun p =>
       Vm p.2.2.2.2 p.1 p.2.1 p.2.2.1 p.2.2.2.1
   else
       if c.Op=28 then
    (Ao b a d e f g h).bind fun i =>
    if i.2.2.2.2.2=0 then
         (jn i.1).bind fun x =>
         if x=true then
     Vm i.2.2.2.2.2 i.2.1 i.2.2.1 i.2.2.2.1 i.2.2.2.2.1
         else
     none
    else
         none
       else
    if c.Op=30 then
         (Ao b a d e f g h).bind fun l =>
         (Su b a l.2.1 l.2.2.1 l.2.2.2.1 l.2.2.2.2.1 l.2.2.2.2.2).bind fun j =>
         if l.1≠j.1.ae then
     none
         else
     (qk b a j.2.1 j.2.2.1 j.2.2.2.1 j.2.2.2.2.1 j.2.2.2.2.2 j.1.Result).bind fun q =>
     Vm q.2.2.2.2 q.1 q.2.1 q.2.2.1 q.2.2.2.1
    else
         if c.Op=31 then
     if a.Kind≠3 then
           none
     else
           (ym fu b a d e f g h [a.Result]).bind fun r =>
           (qk b a r.1 r.2.1 r.2.2.1 r.2.2.2.1 r.2.2.2.2 a.ae).bind fun s =>
           Vm s.2.2.2.2 s.1 s.2.1 s.2.2.1 s.2.2.2.1
         else
     if c.Op=32 then
           (Su b a d e f g h).bind fun t =>
           (qk b a t.2.1 t.2.2.1 t.2.2.2.1 t.2.2.2.2.1 t.2.2.2.2.2 2).bind fun u =>
           Vm u.2.2.2.2 u.1 u.2.1 u.2.2.1 u.2.2.2.1
     else
           none
def Yk  (i50:Int) (a:List (Int×Cd)) (b:List Int) (c:List Int) (d:List Bool):Option (Bool×List (Int×Cd)×List Int×List Int×List Bool×Int):=
 some (true,a,b,c,d,i50)
def Kx (fu:Nat)  (c:Be) (b:ef) (e:List (Int×Cd)) (f:List Int) (g:List Int) (d:List Bool) (h:Int) (a:Ic):Option (Bool×List (Int×Cd)×List Int×List Int×List Bool×Int):=
 if a.Op=1 then
 (qk c b e f g d h 1).bind fun k =>
 Yk k.2.2.2.2 k.1 k.2.1 k.2.2.1 k.2.2.2.1
 else
 if a.Op=2 then
   (qk c b e f g d h 2).bind fun l =>
   Yk l.2.2.2.2 l.1 l.2.1 l.2.2.1 l.2.2.2.1
 else
   if a.Op=3 then
  (at_ d a.A).bind fun x =>
  if x=true then
     (at_ b.od a.A).bind fun y =>
     (qk c b e f g d h y).bind fun m =>
     Yk m.2.2.2.2 m.1 m.2.1 m.2.2.1 m.2.2.2.1
  else
     none
   else
  if a.Op=4 then
     (at_ b.od a.A).bind fun z =>
     (ym fu c b e f g d h [z]).bind fun i =>
     (at_ i.2.2.2.1 a.A).bind fun B =>
     Yk i.2.2.2.2 i.1 i.2.1 i.2.2.1 (i.2.2.2.1.set a.A.toNat true)
  else
     if a.Op=5 then
   (Ao c b e f g d h).bind fun n =>
   Yk n.2.2.2.2.2 n.2.1 n.2.2.1 n.2.2.2.1 n.2.2.2.2.1
     else
   if a.Op=6 then
       (ym fu c b e f g d h [1]).bind fun o =>
       (qk c b o.1 o.2.1 o.2.2.1 o.2.2.2.1 o.2.2.2.2 1).bind fun p =>
       Yk p.2.2.2.2 p.1 p.2.1 p.2.2.1 p.2.2.2.1
   else
       if a.Op=7 then
    none
       else
    if (8:Int)≤a.Op then
         if a.Op≤12 then
     (ym fu c b e f g d h [1,1]).bind fun q =>
     (qk c b q.1 q.2.1 q.2.2.1 q.2.2.2.1 q.2.2.2.2 1).bind fun r =>
     Yk r.2.2.2.2 r.1 r.2.1 r.2.2.1 r.2.2.2.1
         else
     if a.Op=13 then
           none
     else
           if a.Op=14 then
      none
           else
      if (15:Int)≤a.Op then
             if a.Op≤18 then
       (ym fu c b e f g d h [1,1]).bind fun s =>
       (qk c b s.1 s.2.1 s.2.2.1 s.2.2.2.1 s.2.2.2.2 2).bind fun t =>
       Yk t.2.2.2.2 t.1 t.2.1 t.2.2.1 t.2.2.2.1
             else
       if a.Op=19 then
               none
       else
               if a.Op=20 then
        none
               else
        if a.Op=21 then
                 (kq c b e f g d h a.A).bind fun u =>
                 some (false,u.1,u.2.1,u.2.2.1,u.2.2.2.1,u.2.2.2.2)
        else
                 if a.Op=22 then
         (ym fu c b e f g d h [2]).bind fun v =>
         (kq c b v.1 v.2.1 v.2.2.1 v.2.2.2.1 v.2.2.2.2 a.A).bind fun w =>
         Yk w.2.2.2.2 w.1 w.2.1 w.2.2.1 w.2.2.2.1
                 else
         (Cw fu c b e f g d h a).bind fun j =>
         some (j.1,j.2.1,j.2.2.1,j.2.2.2.1,j.2.2.2.2.1,j.2.2.2.2.2)
      else
             none
    else
         none
def xt (b:(List (Int×Cd))→Int→(List Bool)→(List Int)→(List Int)→Option Qh) (c:List (Int×Cd)) (a:Int) (d:List Bool) (e:List Int) (f:List Int):Option Qh :=
 if a≠0 then
 none
 else
 b c a d e f
def rp (fu:Nat) (p_1:Be) (b:ef):Nat→(List (Int×Cd))→Int→(List Bool)→(List Int)→(List Int)→Option Qh
 | 0,_,_,_,_,_=>none
 | n+1,f,i222,k,d,l =>
 if (0:Int)<(d.length:Int) then
   (at_ d 0).bind fun e =>
   (cut d 1 d.length).bind fun h =>
   (Pw ((mf f e).getD (Cd.mk ([]:List Int) ([]:List Bool)))).bind fun g =>
   (at_ b.Code e).bind fun i =>
   (Kx fu p_1 b f h g.stack g.has i222 i).bind fun a =>
   if a.1=true then
  (i64 (e+1)).bind fun j =>
  (kq p_1 b a.2.1 a.2.2.1 a.2.2.2.1 a.2.2.2.2.1 a.2.2.2.2.2 j).bind fun c =>
  xt (rp fu p_1 b n) c.1 c.2.2.2.2 c.2.2.2.1 c.2.1 c.2.2.1
   else
  xt (rp fu p_1 b n) a.2.1 a.2.2.2.2.2 a.2.2.2.2.1 a.2.2.1 a.2.2.2.1
 else
   some (Qh.mk 0 0 0)
def yt (fu:Nat) (p_1:Be) (b:ef):Nat→Int→(List Bool)→Option Qh
 | 0,_,_=>none
 | n+1,i60,c =>
 if i60<b.Params then
   (at_ c i60).bind fun d =>
   (i64 (i60+1)).bind fun i100 =>
   yt fu p_1 b n i100 (c.set i60.toNat true)
 else
   (kq p_1 b ([]:List (Int×Cd)) ([]:List Int) ([]:List Int) c 0 0).bind fun a =>
   rp fu p_1 b fu a.1 a.2.2.2.2 a.2.2.2.1 a.2.1 a.2.2.1
def Lx (fu:Nat)  (p_1:Be) (b:Int):Option Qh :=
 (p_1.m).bind fun c =>
 (at_ c.Gd b).bind fun a =>
 (Qk (a.od.length:Int)).bind fun d =>
 yt fu p_1 a ((a.Params - 0).toNat+1) 0 (List.replicate d (false:Bool))
def Ws (a:Int) (b:List Int) (d:Ic) (c:Int→(List Int)→Option (List Int)) (e:Bool):Option (List Int):=
 if e=true then
 (app b [d.A]).bind fun f =>
 (i64 (a+1)).bind fun g =>
 c g f
 else
 (i64 (a+1)).bind fun h =>
 c h b
def gp (i141:Int) (b:ef) (e:Int→(List Int)→Option (List Int)):Nat→Int→(List Int)→Option (List Int)
 | 0,_,_=>none
 | n+1,c,d =>
 if c<(b.Code.length:Int) then
   (at_ b.Code c).bind fun a =>
   if a.Op=23 then
  none
   else
  if a.Op=29 then
     Ws c d a (gp i141 b e n) (!(d.contains a.A))
  else
     Ws c d a (gp i141 b e n) false
 else
   (i64 (i141+1)).bind fun f =>
   e f d
def hp (p_1:Be):Nat→Int→(List Int)→Option (List Int)
 | 0,_,_=>none
 | n+1,i141,a =>
 if i141<(a.length:Int) then
   (at_ a i141).bind fun c =>
   (p_1.m).bind fun d =>
   (at_ d.Gd c).bind fun b =>
   gp i141 b (hp p_1 n) (b.Code.length+1) 0 a
 else
   some a
def tx (fu:Nat)  (p_1:Be) (a:Int):Option (List Int):=
 hp p_1 fu 0 ([a]:List Int)
def Dw  (p_1:Ic) (a:Int) (b:Int):Option Bool :=
 if p_1.Op=a then
 some (decide (p_1.A=b))
 else
 some false
def Qw  (p_1:Int) (a:Option Be) (b:Int) (c:Int):Option Bool :=
 (a).bind fun d =>
 (d.m).bind fun e =>
 (at_ e.Gd p_1).bind fun f =>
 (ey f.Code (fun g=>Dw g b c)).bind fun h =>
 some h
def Xs (a:Int) (b:Int) (c:Int→Int→Option Qh) (d:Bool):Option Qh :=
 if d=true then
 (i64 (a+1)).bind fun e =>
 (i64 (b+1)).bind fun f =>
 c e f
 else
 (i64 (b+1)).bind fun g =>
 c a g
def kp (fu:Nat) (p_1:Be) (b:Wc) (c:Int) (d:Int) (e:Int) (f:Int→Option Qh):Nat→Int→Int→Option Qh
 | 0,_,_=>none
 | n+1,g,a =>
 if a<(b.Gd.length:Int) then
   (at_ b.Gd a).bind fun h =>
   if h.Kind=4 then
  (tx fu p_1 a).bind fun i =>
  (Ru i (fun j=>Qw j (some p_1) e c)).bind fun k =>
  Xs g a (kp fu p_1 b c d e f n) k
   else
  Xs g a (kp fu p_1 b c d e f n) false
 else
   if (1:Int)<g then
  none
   else
  (i64 (d+1)).bind fun l =>
  f l
def lp (fu:Nat) (p_1:Be) (a:Wc) (b:Int) (d:Int→Option Qh):Nat→Int→Option Qh
 | 0,_=>none
 | n+1,c =>
 if c<2 then
   (at_ [26,27] c).bind fun e =>
   kp fu p_1 a b c e (lp fu p_1 a b d n) (a.Gd.length+1) 0 0
 else
   (i64 (b+1)).bind fun f =>
   d f
def eo (fu:Nat) (p_1:Be) (a:Wc):Nat→Int→Option Qh
 | 0,_=>none
 | n+1,b =>
 if b<(a.Qe.length:Int) then
   lp fu p_1 a b (eo fu p_1 a n) 3 0
 else
   some (Qh.mk 0 0 0)
def ux (fu:Nat)  (p_1:Be):Option Qh :=
 (p_1.m).bind fun a =>
 eo fu p_1 a (a.Qe.length+1) 0
def Bs (fu:Nat) (p_1:Wc):Nat→Int→Option Qh
 | 0,_=>none
 | n+1,i30 =>
 if i30<(p_1.Gd.length:Int) then
   (Lx fu (Be.mk (some p_1)) i30).bind fun a =>
   if a.Th≠0 then
  none
   else
  (i64 (i30+1)).bind fun i46 =>
  Bs fu p_1 n i46
 else
   (ux fu (Be.mk (some p_1))).bind fun b =>
   some b
def Vt (fu:Nat)  (p_1:Wc):Option Qh :=
 (Hx (Be.mk (some p_1))).bind fun a =>
 if a.Th≠0 then
 none
 else
 Bs fu p_1 (p_1.Gd.length+1) 0
end Go.Y
namespace Go.Y
open Go.wc Go.hd
def Tu  (p_1:Int) (a:Int):Option (List Int×Int×Int×Int):=
 (Qk p_1).bind fun b =>
 some ((List.replicate b (0:Int)),0,p_1,a)
def Nl  (a:Int):Option Int :=
 some a
def Jp  (b:List Int) (a:Int) (c:Int) (d:Int) (e:Int):Option (List Int×Int×Int×Int):=
 (Qk e).bind fun f =>
 (cut b 0 a).bind fun g =>
 some ((Ro (List.replicate f (0:Int)) g),a,c,d)
def tp (b:Int) (i14:Int) (i15:Int) (i16:Int) (a:List Int):Option (Bool×List Int×Int×Int×Int):=
 (at_ a i14).bind fun c =>
 (i64 (i14+1)).bind fun i56 =>
 some (true,(a.set i14.toNat b),i56,i15,i16)
def Ew (a:Int) (i22:Int) (i23:Int) (i24:Int) (b:List Int):Option (Bool×List Int×Int×Int×Int):=
 tp a i22 i23 i24 b
def zt (a:List Int) (e:Int) (c:Int) (f:Int) (d:Int):Option (Bool×List Int×Int×Int×Int):=
 if c=(a.length:Int) then
 (i64 (2*(a.length:Int))).bind fun i29 =>
 (Jp a c f d (min i29 d)).bind fun b =>
 Ew e b.2.1 b.2.2.1 b.2.2.2 b.1
 else
 tp e c f d a
def Rp  (c:List Int) (a:Int) (d:Int) (b:Int) (e:Int):Option (Bool×List Int×Int×Int×Int):=
 if a=b then
 none
 else
 zt c e a d b
def Rw  (i20:Int) (i21:Int) (i22:Int) (a:List Int):Option (List Int×Int×Int×Int):=
 some (a,i20,i21,i22)
def Bp (b:List Int) (c:Int) (d:Int) (i12:Int) (e:Bool):Option (List Int×Int×Int×Int):=
 if e=true then
 (quo (b.length:Int) 2).bind fun i27 =>
 (Jp b i12 c d (max i27 c)).bind fun a =>
 Rw a.2.1 a.2.2.1 a.2.2.2 a.1
 else
 some (b,i12,c,d)
def Bo  (a:List Int) (d:Int) (b:Int) (c:Int) (e:Int):Option (List Int×Int×Int×Int):=
 (i64 (d - e)).bind fun i12 =>
 (quo (a.length:Int) 4).bind fun i15 =>
 if i12≤i15 then
 Bp a b c i12 (decide (b<(a.length:Int)))
 else
 Bp a b c i12 false
def qn  (a:Int) (b:Int) (c:Int):Option Unit :=
 some ()
def bl  (p_1:Bool):Option Int :=
 if p_1=true then
 some 1
 else
 some 0
def dn (p_1:Int) (a:Int) (b:Int) (xf:Bool):Option Int :=
 if xf=true then
 (bl (decide (p_1=11))).bind fun c =>
 some (Cg (c*a))
 else
 if p_1=11 then
   (quo a b).bind fun i16 =>
   some i16
 else
   (Mo a b).bind fun i18 =>
   some i18
def po (p_1:Int) (a:Int) (b:Int) (vf:Bool):Option Int :=
 if vf=true then
 if a=(-9223372036854775808) then
   dn p_1 a b (decide (b=(-1)))
 else
   dn p_1 a b false
 else
 if p_1=13 then
   (bl (decide (a=b))).bind fun c =>
   some c
 else
   if p_1=14 then
  (bl (decide (a≠b))).bind fun d =>
  some d
   else
  if p_1=15 then
     (bl (decide (a<b))).bind fun e =>
     some e
  else
     if p_1=16 then
   (bl (decide (a≤b))).bind fun f =>
   some f
     else
   if p_1=17 then
       (bl (decide (b<a))).bind fun g =>
       some g
   else
       none
def mr  (p_1:Int) (a:Int) (b:Int):Option Int :=
 if p_1=8 then
 some (Cg (a+b))
 else
 if p_1=9 then
   some (Cg (a - b))
 else
   if p_1=10 then
  some (Cg (a*b))
   else
  if p_1=11 then
     po p_1 a b (decide (p_1=11))
  else
     po p_1 a b (decide (p_1=12))
def Hq (p_1:Wc):Nat→Int→(List Int)→Option (List Int)
 | 0,_,_=>none
 | n+1,i43,a =>
 if i43<(p_1.Gd.length:Int) then
   (at_ p_1.Gd i43).bind fun b =>
   if b.Kind=4 then
  (app a [i43]).bind fun c =>
  (i64 (i43+1)).bind fun i104 =>
  Hq p_1 n i104 c
   else
  (i64 (i43+1)).bind fun i106 =>
  Hq p_1 n i106 a
 else
   some a
def ou  (p_1:Wc):Option (List Int):=
 Hq p_1 (p_1.Gd.length+1) 0 []
end Go.Y
namespace Go.Y
open Go.wc Go.hd
structure Hc where
 unit:Int
 Uc:Int
 base:Int
 deriving DecidableEq,Inhabited,Repr
instance:Ta Hc where
 sz:=3
 pos:=by decide
 cs μ l x:=l=[.int .i64 x.unit,.int .i64 x.Uc,.int .i64 x.base]
 nh h:=by obtain rfl:=h;rfl
 up le h:=by exact h
 Rg h:=by obtain rfl:=h;rfl
def Zq  (a:List (List Int)) (b:List Int) (d:List (List Int)) (c:Int):Option (Bool×List (List Int)×List Int×List (List Int)):=
 (at_ a c).bind fun e =>
 (at_ b c).bind fun f =>
 some (decide (f=(e.length:Int)),a,b,d)
def er  (c:List (List Int)) (b:List Int) (d:List (List Int)) (a:Int):Option (Int×List (List Int)×List Int×List (List Int)):=
 (at_ b a).bind fun e =>
 (i64 (e+1)).bind fun i37 =>
 (at_ b a).bind fun i =>
 (at_ (b.set a.toNat i37) a).bind fun f =>
 (i64 (f - 1)).bind fun i68 =>
 (at_ c a).bind fun g =>
 (at_ g i68).bind fun h =>
 some (h,c,(b.set a.toNat i37),d)
def dk  (b:Int) (c:Int) (d:Int) (e:List Int) (f:Int) (g:Int) (h:Int) (i:Int):Option (Int×Int×Int×List Int×Int×Int×Int):=
 (Rp e f g h i).bind fun a =>
 if a.1=true then
 some (b,c,d,a.2.1,a.2.2.1,a.2.2.2.1,a.2.2.2.2)
 else
 none
def fk  (d:Int) (e:Int) (f:Int) (b:List Int) (c:Int) (g:Int) (h:Int):Option (Int×Int×Int×Int×List Int×Int×Int×Int):=
 (Nl c).bind fun i =>
 (i64 (i - 1)).bind fun i27 =>
 (at_ b i27).bind fun j =>
 (Bo b c g h 1).bind fun a =>
 some (j,d,e,f,a.1,a.2.1,a.2.2.1,a.2.2.2)
def Iq (a:Int) (i33:Int) (i34:Int) (b:List (List Int)) (c:List (List Int)) (d:List Int):Option (Bool×Int×Int×Int×List (List Int)×List Int×List (List Int)):=
 some (decide (i33≠1),i33,i34,a,b,d,c)
def Ys (a:Ic) (b:Int) (c:List (List Int)) (d:List (List Int)) (e:List Int):Option (Bool×Int×Int×Int×List (List Int)×List Int×List (List Int)):=
 Iq b 3 a.A c d e
def Jq (e:Ic) (a:Int) (f:Bool) (b:List (List Int)) (c:List (List Int)) (d:List Int):Option (Bool×Int×Int×Int×List (List Int)×List Int×List (List Int)):=
 if f=true then
 Ys e a b c d
 else
 Iq a 1 0 b c d
def ar  (g:Int) (h:Int) (c:Int) (d:List (List Int)) (e:List Int) (f:List (List Int)) (a:Ic):Option (Bool×Int×Int×Int×List (List Int)×List Int×List (List Int)):=
 if a.Op=26 then
 none
 else
 if a.Op=27 then
   (Zq d e f a.A).bind fun b =>
   Jq a c b.1 b.2.1 b.2.2.2 b.2.2.1
 else
   Jq a c false d f e
def At (d:Wc) (e:Int) (f:Int) (g:Int) (h:List (List Int)) (i:List Int) (j:List (List Int)) (b:List Hc) (i53:Int):Option (Int×Int×Int×List (List Int)×List Int×List (List Int)×List Hc):=
 (at_ b i53).bind fun c =>
 (at_ d.Gd c.unit).bind fun k =>
 (at_ k.Code c.Uc).bind fun l =>
 (ar e f g h i j l).bind fun a =>
 some (a.2.1,a.2.2.1,a.2.2.2.1,a.2.2.2.2.1,a.2.2.2.2.2.1,a.2.2.2.2.2.2,b)
def rn  (c:Wc) (b:Int) (d:Int) (e:Int) (f:List (List Int)) (g:List Int) (h:List (List Int)) (a:List Hc):Option (Int×Int×Int×List (List Int)×List Int×List (List Int)×List Hc):=
 if b≤3 then
 (i64 ((a.length:Int) - 1)).bind fun i55 =>
 (at_ a i55).bind fun i =>
 At c b d e f g h a i55
 else
 none
def ho (b:List Hc) (i68:Int):Nat→Int→Int→Int→Int→Int→Int→Int→(List Int)→Option (Int×Int×Int×List Hc×List Int×Int×Int×Int)
 | 0,_,_,_,_,_,_,_,_=>none
 | n+1,i78,i79,i80,i81,i82,i83,i84,c =>
 if i78<i68 then
   (dk i79 i80 i81 c i82 i83 i84 0).bind fun a =>
   (i64 (i78+1)).bind fun i106 =>
   ho b i68 n i106 a.1 a.2.1 a.2.2.1 a.2.2.2.2.1 a.2.2.2.2.2.1 a.2.2.2.2.2.2 a.2.2.2.1
 else
   some (i79,i80,i81,b,c,i82,i83,i84)
def Bt (c:Int) (d:Int) (e:Int) (f:Int) (a:List Hc) (g:List Int) (h:Int) (i:Int) (j:Int) (b:ef) (i53:Int):Option (Int×Int×Int×List Hc×List Int×Int×Int×Int):=
 if (a.length:Int)=40 then
 none
 else
 (app a [(Hc.mk c 0 i53)]).bind fun k =>
 (i64 ((b.od.length:Int) - b.Params)).bind fun i68 =>
 ho k i68 ((i68 - 0).toNat+1) 0 d e f h i j g
def gr  (d:Wc) (e:Int) (f:Int) (g:Int) (h:List Hc) (i:List Int) (a:Int) (j:Int) (k:Int) (b:Int):Option (Int×Int×Int×List Hc×List Int×Int×Int×Int):=
 (at_ d.Gd b).bind fun c =>
 (Nl a).bind fun l =>
 (i64 (l - c.Params)).bind fun i57 =>
 Bt b e f g h i a j k c i57
def Zs (c:Int) (b:Int×Int×Int×Int×List Int×Int×Int×Int) (d:List Hc) (i111:Int) (i112:Int) (i113:Int) (e:List Int):Option (Int×Int×Int×Int×List Hc×List Int×Int×Int×Int):=
 (dk b.2.1 b.2.2.1 b.2.2.2.1 e i111 i112 i113 b.1).bind fun a =>
 some (a.1,a.2.1,a.2.2.1,c,d,a.2.2.2.1,a.2.2.2.2.1,a.2.2.2.2.2.1,a.2.2.2.2.2.2)
def bt (c:Int) (a:Int×Int×Int×Int×List Int×Int×Int×Int) (i61:Int) (d:List Hc):Option (Int×Int×Int×Int×List Hc×List Int×Int×Int×Int):=
 (Nl a.2.2.2.2.2.1).bind fun e =>
 (i64 (e - i61)).bind fun i121 =>
 (Bo a.2.2.2.2.1 a.2.2.2.2.2.1 a.2.2.2.2.2.2.1 a.2.2.2.2.2.2.2 i121).bind fun b =>
 Zs c a d b.2.1 b.2.2.1 b.2.2.2 b.1
def Kq (b:Int) (a:List Hc) (c:Int×Int×Int×Int×List Int×Int×Int×Int) (i59:Int) (i60:Int) (i61:Int):Option (Int×Int×Int×Int×List Hc×List Int×Int×Int×Int):=
 (i64 ((a.length:Int) - 1)).bind fun i99 =>
 (cut a 0 i99).bind fun d =>
 bt b c i61 d
def br  (m:Wc) (e:Int) (f:Int) (g:Int) (h:Int) (b:List Hc) (i:List Int) (j:Int) (k:Int) (l:Int) (c:Ic):Option (Int×Int×Int×Int×List Hc×List Int×Int×Int×Int):=
 if c.Op=23 then
 (gr m e f g b i j k l c.A).bind fun a =>
 some (a.1,a.2.1,a.2.2.1,h,a.2.2.2.1,a.2.2.2.2.1,a.2.2.2.2.2.1,a.2.2.2.2.2.2.1,a.2.2.2.2.2.2.2)
 else
 if c.Op=24 then
   (fk e f g i j k l).bind fun n =>
   (i64 ((b.length:Int) - 1)).bind fun i62 =>
   (at_ b i62).bind fun d =>
   Kq h b n d.unit d.Uc d.base
 else
   if c.Op=25 then
  none
   else
  none
end Go.Y
namespace Go.Y
open Go.wc Go.hd
def dj (b:Wc) (i145:Int) (i146:Int) (i147:Int) (c:List Int) (d:List (List Int)) (e:List (List Int)) (f:List Int) (i164:Int) (g:List Hc) (i169:Int) (i170:Int) (i171:Int) (h:List Int):Option (Bool×Int×Int×Int×List Int×List (List Int)×List Int×List (List Int)×Int×List Hc×List Int×Int×Int×Int):=
 (rn b i145 i146 i147 d f e g).bind fun a =>
 some (true,a.1,a.2.1,a.2.2.1,c,a.2.2.2.1,a.2.2.2.2.1,a.2.2.2.2.2.1,i164,a.2.2.2.2.2.2,h,i169,i170,i171)
def Ct (c:Wc) (d:List Int) (e:Int) (a:Int×Int×Int×List (List Int)×List Int×List (List Int)×List Hc) (i84:Int) (b:Hc) (i142:Int) (i191:Int) (i192:Int) (i193:Int) (i194:Int) (i195:Int) (i196:Int) (f:List Int):Option (Bool×Int×Int×Int×List Int×List (List Int)×List Int×List (List Int)×Int×List Hc×List Int×Int×Int×Int):=
 dj c i191 i192 i193 d a.2.2.2.1 a.2.2.2.2.2.1 a.2.2.2.2.1 e (a.2.2.2.2.2.2.set i84.toNat (Hc.mk b.unit i142 b.base)) i194 i195 i196 f
def Dt (d:Wc) (e:List Int) (f:Int) (b:Int×Int×Int×List (List Int)×List Int×List (List Int)×List Hc) (i84:Int) (c:Hc) (i142:Int) (a:Int×Int×Int×Int×List Int×Int×Int×Int) (g:List Int):Option (Bool×Int×Int×Int×List Int×List (List Int)×List Int×List (List Int)×Int×List Hc×List Int×Int×Int×Int):=
 dj d a.2.1 a.2.2.1 a.2.2.2.1 e b.2.2.2.1 b.2.2.2.2.2.1 b.2.2.2.2.1 f (b.2.2.2.2.2.2.set i84.toNat (Hc.mk c.unit i142 c.base)) a.2.2.2.2.2.1 a.2.2.2.2.2.2.1 a.2.2.2.2.2.2.2 g
def jo (e:Wc) (f:List Int) (g:Int) (c:Int×Int×Int×List (List Int)×List Int×List (List Int)×List Hc) (i84:Int) (d:Hc) (h:Ic) (i142:Int) (i:Int×Int×Int×Int×List Int×Int×Int×Int) (a:Int×Int×Int×Int×List Int×Int×Int×Int) (j:Bool):Option (Bool×Int×Int×Int×List Int×List (List Int)×List Int×List (List Int)×Int×List Hc×List Int×Int×Int×Int):=
 if j=true then
 none
 else
 (mr h.Op a.1 i.1).bind fun k =>
 (dk a.2.1 a.2.2.1 a.2.2.2.1 a.2.2.2.2.1 a.2.2.2.2.2.1 a.2.2.2.2.2.2.1 a.2.2.2.2.2.2.2 k).bind fun b =>
 dj e b.1 b.2.1 b.2.2.1 f c.2.2.2.1 c.2.2.2.2.2.1 c.2.2.2.2.1 g (c.2.2.2.2.2.2.set i84.toNat (Hc.mk d.unit i142 d.base)) b.2.2.2.2.1 b.2.2.2.2.2.1 b.2.2.2.2.2.2 b.2.2.2.1
def Et (d:Wc) (e:List Int) (f:Int) (h:List Int) (i:Int) (j:Int) (k:Int) (a:Int×Int×Int×List (List Int)×List Int×List (List Int)×List Hc) (i84:Int):Option (Bool×Int×Int×Int×List Int×List (List Int)×List Int×List (List Int)×Int×List Hc×List Int×Int×Int×Int):=
 (at_ a.2.2.2.2.2.2 i84).bind fun b =>
 (at_ d.Gd b.unit).bind fun y =>
 (at_ y.Code b.Uc).bind fun c =>
 (i64 (b.Uc+1)).bind fun i142 =>
 if c.Op=1 then
 (dk a.1 a.2.1 a.2.2.1 h i j k c.N).bind fun p =>
 dj d p.1 p.2.1 p.2.2.1 e a.2.2.2.1 a.2.2.2.2.2.1 a.2.2.2.2.1 f (a.2.2.2.2.2.2.set i84.toNat (Hc.mk b.unit i142 b.base)) p.2.2.2.2.1 p.2.2.2.2.2.1 p.2.2.2.2.2.2 p.2.2.2.1
 else
 if c.Op=2 then
   (dk a.1 a.2.1 a.2.2.1 h i j k c.A).bind fun q =>
   dj d q.1 q.2.1 q.2.2.1 e a.2.2.2.1 a.2.2.2.2.2.1 a.2.2.2.2.1 f (a.2.2.2.2.2.2.set i84.toNat (Hc.mk b.unit i142 b.base)) q.2.2.2.2.1 q.2.2.2.2.2.1 q.2.2.2.2.2.2 q.2.2.2.1
 else
   if c.Op=3 then
  (i64 (b.base+c.A)).bind fun i201 =>
  (at_ h i201).bind fun z =>
  (dk a.1 a.2.1 a.2.2.1 h i j k z).bind fun r =>
  Ct d e f a i84 b i142 r.1 r.2.1 r.2.2.1 r.2.2.2.2.1 r.2.2.2.2.2.1 r.2.2.2.2.2.2 r.2.2.2.1
   else
  if c.Op=4 then
     (fk a.1 a.2.1 a.2.2.1 h i j k).bind fun w =>
     (i64 (b.base+c.A)).bind fun i237 =>
     (at_ w.2.2.2.2.1 i237).bind fun C =>
     Dt d e f a i84 b i142 w (w.2.2.2.2.1.set i237.toNat w.1)
  else
     if c.Op=5 then
   (fk a.1 a.2.1 a.2.2.1 h i j k).bind fun s =>
   dj d s.2.1 s.2.2.1 s.2.2.2.1 e a.2.2.2.1 a.2.2.2.2.2.1 a.2.2.2.2.1 f (a.2.2.2.2.2.2.set i84.toNat (Hc.mk b.unit i142 b.base)) s.2.2.2.2.2.1 s.2.2.2.2.2.2.1 s.2.2.2.2.2.2.2 s.2.2.2.2.1
     else
   if c.Op=6 then
       (fk a.1 a.2.1 a.2.2.1 h i j k).bind fun o =>
       (dk o.2.1 o.2.2.1 o.2.2.2.1 o.2.2.2.2.1 o.2.2.2.2.2.1 o.2.2.2.2.2.2.1 o.2.2.2.2.2.2.2 (Cg (0 - o.1))).bind fun t =>
       dj d t.1 t.2.1 t.2.2.1 e a.2.2.2.1 a.2.2.2.2.2.1 a.2.2.2.2.1 f (a.2.2.2.2.2.2.set i84.toNat (Hc.mk b.unit i142 b.base)) t.2.2.2.2.1 t.2.2.2.2.2.1 t.2.2.2.2.2.2 t.2.2.2.1
   else
       if c.Op=7 then
    none
       else
    if (8:Int)≤c.Op then
         if c.Op≤20 then
     (fk a.1 a.2.1 a.2.2.1 h i j k).bind fun l =>
     (fk l.2.1 l.2.2.1 l.2.2.2.1 l.2.2.2.2.1 l.2.2.2.2.2.1 l.2.2.2.2.2.2.1 l.2.2.2.2.2.2.2).bind fun x =>
     if c.Op=11 then
           jo d e f a i84 b c i142 l x (decide (l.1=0))
     else
           if c.Op=12 then
      jo d e f a i84 b c i142 l x (decide (l.1=0))
           else
      jo d e f a i84 b c i142 l x false
         else
     if c.Op=21 then
           dj d a.1 a.2.1 a.2.2.1 e a.2.2.2.1 a.2.2.2.2.2.1 a.2.2.2.2.1 f (a.2.2.2.2.2.2.set i84.toNat (Hc.mk b.unit c.A b.base)) i j k h
     else
           if c.Op=22 then
      (fk a.1 a.2.1 a.2.2.1 h i j k).bind fun g =>
      if g.1=0 then
             dj d g.2.1 g.2.2.1 g.2.2.2.1 e a.2.2.2.1 a.2.2.2.2.2.1 a.2.2.2.2.1 f (a.2.2.2.2.2.2.set i84.toNat (Hc.mk b.unit c.A b.base)) g.2.2.2.2.2.1 g.2.2.2.2.2.2.1 g.2.2.2.2.2.2.2 g.2.2.2.2.1
      else
             dj d g.2.1 g.2.2.1 g.2.2.2.1 e a.2.2.2.1 a.2.2.2.2.2.1 a.2.2.2.2.1 f (a.2.2.2.2.2.2.set i84.toNat (Hc.mk b.unit i142 b.base)) g.2.2.2.2.2.1 g.2.2.2.2.2.2.1 g.2.2.2.2.2.2.2 g.2.2.2.2.1
           else
      if c.Op=26 then
             none
      else
             if c.Op=27 then
       (er a.2.2.2.1 a.2.2.2.2.1 a.2.2.2.2.2.1 c.A).bind fun v =>
       (qn 3 c.A v.1).bind fun D =>
       (dk a.1 a.2.1 a.2.2.1 h i j k v.1).bind fun u =>
       dj d u.1 u.2.1 u.2.2.1 e v.2.1 v.2.2.2 v.2.2.1 f (a.2.2.2.2.2.2.set i84.toNat (Hc.mk b.unit i142 b.base)) u.2.2.2.2.1 u.2.2.2.2.2.1 u.2.2.2.2.2.2 u.2.2.2.1
             else
       if c.Op=28 then
               (fk a.1 a.2.1 a.2.2.1 h i j k).bind fun m =>
               (app e [m.1]).bind fun B =>
               (qn 1 0 m.1).bind fun F =>
               dj d m.2.1 m.2.2.1 m.2.2.2.1 B a.2.2.2.1 a.2.2.2.2.2.1 a.2.2.2.2.1 f (a.2.2.2.2.2.2.set i84.toNat (Hc.mk b.unit i142 b.base)) m.2.2.2.2.2.1 m.2.2.2.2.2.2.1 m.2.2.2.2.2.2.2 m.2.2.2.2.1
       else
               (br d a.1 a.2.1 a.2.2.1 f (a.2.2.2.2.2.2.set i84.toNat (Hc.mk b.unit i142 b.base)) h i j k c).bind fun n =>
               dj d n.1 n.2.1 n.2.2.1 e a.2.2.2.1 a.2.2.2.2.2.1 a.2.2.2.2.1 n.2.2.2.1 n.2.2.2.2.1 n.2.2.2.2.2.2.1 n.2.2.2.2.2.2.2.1 n.2.2.2.2.2.2.2.2 n.2.2.2.2.2.1
    else
         none
def sn  (b:Wc) (i:Int) (j:Int) (k:Int) (c:List Int) (l:List (List Int)) (m:List Int) (n:List (List Int)) (d:Int) (o:List Hc) (e:List Int) (f:Int) (g:Int) (h:Int):Option (Bool×Int×Int×Int×List Int×List (List Int)×List Int×List (List Int)×Int×List Hc×List Int×Int×Int×Int):=
 (rn b i j k l m n o).bind fun a =>
 if a.1≠1 then
 some (false,a.1,a.2.1,a.2.2.1,c,a.2.2.2.1,a.2.2.2.2.1,a.2.2.2.2.2.1,d,a.2.2.2.2.2.2,e,f,g,h)
 else
 (i64 ((a.2.2.2.2.2.2.length:Int) - 1)).bind fun i86 =>
 (at_ a.2.2.2.2.2.2 i86).bind fun p =>
 Et b c d e f g h a i86
end Go.Y
namespace Go.Y
open Go.wc Go.hd
def np (i74:Int) (i75:Int) (i76:Int) (i77:Int) (b:List Int) (c:Int→Int→Int→Int→(List Int)→Option (Int×List Hc×List Int×Int×Int×Int)) (i102:Int):Option (Int×List Hc×List Int×Int×Int×Int):=
 (Rp b i75 i76 i77 i102).bind fun a =>
 (i64 (i74+1)).bind fun i119 =>
 c i119 a.2.2.1 a.2.2.2.1 a.2.2.2.2 a.2.1
def gm (b:Int) (a:List Int) (c:ef):Nat→Int→Int→Int→Int→(List Int)→Option (Int×List Hc×List Int×Int×Int×Int)
 | 0,_,_,_,_,_=>none
 | n+1,i74,i75,i76,i77,d =>
 if i74<(c.od.length:Int) then
   if i74<(a.length:Int) then
  (at_ a i74).bind fun e =>
  np i74 i75 i76 i77 d (gm b a c n) e
   else
  np i74 i75 i76 i77 d (gm b a c n) 0
 else
   some (0,([(Hc.mk b 0 0)]:List Hc),d,i75,i76,i77)
def Kp  (d:Wc) (b:Int) (e:List Int):Option (Int×List Hc×List Int×Int×Int×Int):=
 (Tu 8 400).bind fun a =>
 (at_ d.Gd b).bind fun c =>
 gm b e c (c.od.length+1) 0 a.2.1 a.2.2.1 a.2.2.2 a.1
def qu  (a:List Int) (b:Int) (e:Int) (f:Int):Option (List Int):=
 (cut a 0 b).bind fun c =>
 (app ([]:List Int) c).bind fun d =>
 some d
def Cu  (h:Int) (i:Int) (j:Int) (c:List Int) (b:Int) (d:Int) (e:Int) (f:Int):Option (List Int×Int×Int×Int×List Int×Int×Int×Int):=
 (qu c b d e).bind fun g =>
 (Nl b).bind fun k =>
 (i64 (k - f)).bind fun i36 =>
 (cut g i36 g.length).bind fun l =>
 (Bo c b d e f).bind fun a =>
 some (l,h,i,j,a.1,a.2.1,a.2.2.1,a.2.2.2)
end Go.Y
namespace Go.Y
open Go.wc Go.hd
structure Yh where
 state:Int
 up:Option Nat
 fr:List Hc
 l:List Int
 live:Int
 Ag:Int
 ig:Int
structure ed where
 cs:List Yh
 now:Nat
def ed.length (p:ed):Nat:=p.cs.length
def ed.put (p:ed) (c:Yh):ed:=⟨p.cs.set p.now c,p.now⟩
def Sp (m:Wc) (p:ed) (s bx t:Int) (fd:List (List Int)) (Vc:List Int) (kb:List (List Int)):Option (ed×Int×Int×Int×List (List Int)×List Int×List (List Int)):=
 (p.cs[p.now]?).bind fun c =>
 (rn m s bx t fd Vc kb c.fr).bind fun r =>
 some (p.put { c with fr:=r.2.2.2.2.2.2 },r.1,r.2.1,r.2.2.1,r.2.2.2.1,r.2.2.2.2.1,r.2.2.2.2.2.1)
def tn (p:ed) (s bx t v:Int):Option (ed×Int×Int×Int):=
 (p.cs[p.now]?).bind fun c =>
 (dk s bx t c.l c.live c.Ag c.ig v).bind fun r =>
 some (p.put { c with l:=r.2.2.2.1,live:=r.2.2.2.2.1,Ag:=r.2.2.2.2.2.1,ig:=r.2.2.2.2.2.2 },r.1,r.2.1,r.2.2.1)
def Cn (p:ed) (s bx t:Int):Option (Int×ed×Int×Int×Int):=
 (p.cs[p.now]?).bind fun c =>
 (fk s bx t c.l c.live c.Ag c.ig).bind fun r =>
 some (r.1,p.put { c with l:=r.2.2.2.2.1,live:=r.2.2.2.2.2.1,Ag:=r.2.2.2.2.2.2.1,ig:=r.2.2.2.2.2.2.2 },r.2.1,r.2.2.1,r.2.2.2.1)
def Du (p:ed) (s bx t n:Int):Option (List Int×ed×Int×Int×Int):=
 (p.cs[p.now]?).bind fun c =>
 (Cu s bx t c.l c.live c.Ag c.ig n).bind fun r =>
 some (r.1,p.put { c with l:=r.2.2.2.2.1,live:=r.2.2.2.2.2.1,Ag:=r.2.2.2.2.2.2.1,ig:=r.2.2.2.2.2.2.2 },r.2.1,r.2.2.1,r.2.2.2.1)
def vx (m:Wc) (p:ed) (s bx t:Int) (x:Ic):Option (ed×Int×Int×Int):=
 (at_ m.Gd x.A).bind fun u =>
 (Du p s bx t u.Params).bind fun a =>
 if (30:Int)<a.2.1.length then none else
 (Kp m x.A a.1).bind fun b =>
 (qn 6 0 x.A).bind fun _ =>
 (i64 (((a.2.1.cs++[Yh.mk b.1 none b.2.1 b.2.2.1 b.2.2.2.1 b.2.2.2.2.1 b.2.2.2.2.2]).length:Int) - 1)).bind fun n =>
 tn ⟨a.2.1.cs++[Yh.mk b.1 none b.2.1 b.2.2.1 b.2.2.2.1 b.2.2.2.2.1 b.2.2.2.2.2],a.2.1.now⟩ a.2.2.1 a.2.2.2.1 a.2.2.2.2 n
def Qq (p:ed) (s bx t:Int) (j:Nat) (v:Int):Option (ed×Int×Int×Int):=
 if j=p.now then none else
 (p.cs[j]?).bind fun d =>
 if d.state=0 then some (⟨p.cs.set j { d with state:=2,up:=some p.now },j⟩,s,bx,t)
 else if d.state=1 then tn ⟨p.cs.set j { d with state:=2,up:=some p.now },j⟩ s bx t v
 else none
def yo (p:ed) (s bx t st v:Int):Option (ed×Int×Int×Int):=
 (p.cs[p.now]?).bind fun c=>c.up.bind fun j =>
 tn ⟨p.cs.set p.now { c with state:=st,up:=none },j⟩ s bx t v
def oi (m:Wc) (p:ed) (s bx t:Int) (x:Ic):Option (ed×Int×Int×Int):=
 if x.Op=25 then yo p s bx t 3 0
 else if x.Op=29 then vx m p s bx t x
 else if x.Op=30 then (Cn p s bx t).bind fun a=>(Cn a.2.1 a.2.2.1 a.2.2.2.1 a.2.2.2.2).bind fun b =>
 if b.1<0 then none else Qq b.2.1 b.2.2.1 b.2.2.2.1 b.2.2.2.2 b.1.toNat a.1
 else if x.Op=31 then (Cn p s bx t).bind fun a=>yo a.2.1 a.2.2.1 a.2.2.2.1 a.2.2.2.2 1 a.1
 else if x.Op=32 then (Cn p s bx t).bind fun a=>if a.1<0 then none else (a.2.1.cs[a.1.toNat]?).bind fun d =>
 (bl (decide (d.state≠3))).bind fun b=>tn a.2.1 a.2.2.1 a.2.2.2.1 a.2.2.2.2 b
 else none
def Wt (m:Wc) (p:ed) (c:Yh) (out:List Int) (a:Int×Int×Int×List (List Int)×List Int×List (List Int)×List Hc) (i84:Int):Option (Bool×ed×Int×Int×Int×List Int×List (List Int)×List Int×List (List Int)):=
 (at_ a.2.2.2.2.2.2 i84).bind fun b =>
 (at_ m.Gd b.unit).bind fun d =>
 (at_ d.Code b.Uc).bind fun e =>
 (i64 (b.Uc+1)).bind fun i142 =>
 (oi m (p.put { c with fr:=a.2.2.2.2.2.2.set i84.toNat (Hc.mk b.unit i142 b.base) }) a.1 a.2.1 a.2.2.1 e).bind fun q =>
 (Sp m q.1 q.2.1 q.2.2.1 q.2.2.2 a.2.2.2.1 a.2.2.2.2.1 a.2.2.2.2.2.1).bind fun z =>
 some (true,z.1,z.2.1,z.2.2.1,z.2.2.2.1,out,z.2.2.2.2.1,z.2.2.2.2.2.1,z.2.2.2.2.2.2)
def Dn (m:Wc) (p:ed) (s bx t:Int) (out:List Int) (fd:List (List Int)) (Vc:List Int) (kb:List (List Int)):Option (Bool×ed×Int×Int×Int×List Int×List (List Int)×List Int×List (List Int)):=
 (p.cs[p.now]?).bind fun c =>
 (rn m s bx t fd Vc kb c.fr).bind fun a =>
 if a.1≠1 then none else
 (i64 ((a.2.2.2.2.2.2.length:Int) - 1)).bind fun i86 =>
 (at_ a.2.2.2.2.2.2 i86).bind fun b =>
 Wt m p c out a i86
def ru (m:Wc) (p:ed) (s bx t:Int) (out:List Int) (fd:List (List Int)) (Vc:List Int) (kb:List (List Int)):Option (Bool×ed×Int×Int×Int×List Int×List (List Int)×List Int×List (List Int)):=
 (p.cs[p.now]?).bind fun c =>
 (sn m s bx t out fd Vc kb c.state c.fr c.l c.live c.Ag c.ig).bind fun r =>
 some (r.1,p.put { c with state:=r.2.2.2.2.2.2.2.2.1,fr:=r.2.2.2.2.2.2.2.2.2.1,l:=r.2.2.2.2.2.2.2.2.2.2.1,live:=r.2.2.2.2.2.2.2.2.2.2.2.1,Ag:=r.2.2.2.2.2.2.2.2.2.2.2.2.1,ig:=r.2.2.2.2.2.2.2.2.2.2.2.2.2 },r.2.1,r.2.2.1,r.2.2.2.1,r.2.2.2.2.1,r.2.2.2.2.2.1,r.2.2.2.2.2.2.1,r.2.2.2.2.2.2.2.1)
def vn (m:Wc) (p:ed) (s bx t:Int) (out:List Int) (fd:List (List Int)) (Vc:List Int) (kb:List (List Int)):Option (Bool×ed×Int×Int×Int×List Int×List (List Int)×List Int×List (List Int)):=
 match Dn m p s bx t out fd Vc kb with
 | some r=>some r
 | none=>ru m p s bx t out fd Vc kb
def Uu (m:Wc) (u:Int):Option (ed×Int×Int×Int×List Int):=
 (Kp m u ([]:List Int)).bind fun r =>
 some (⟨[Yh.mk 2 none r.2.1 r.2.2.1 r.2.2.2.1 r.2.2.2.2.1 r.2.2.2.2.2],0⟩,1,0,0,([]:List Int))
end Go.Y
namespace Go.Y
open Go.wc Go.hd
def km (p_1:Wc) (c:Int):Nat→Int→Int→Int→Int→ed→(List Int)→(List Int)→(List (List Int))→(List (List Int))→Option (Qj×Int)
 | 0,_,_,_,_,_,_,_,_,_=>none
 | n+1,b,d,e,f,g,h,i,j,k =>
 if b<c then
   (vn p_1 g d e f h j i k).bind fun a =>
   if a.1=true then
  (i64 (b+1)).bind fun l =>
  km p_1 c n l a.2.2.1 a.2.2.2.1 a.2.2.2.2.1 a.2.1 a.2.2.2.2.2.1 a.2.2.2.2.2.2.2.1 a.2.2.2.2.2.2.1 a.2.2.2.2.2.2.2.2
   else
  some ((Qj.mk a.2.2.1 a.2.2.2.1 a.2.2.2.2.1 a.2.2.2.2.2.1 a.2.2.2.2.2.2.2.2 a.2.2.2.2.2.2.2.1 b),0)
 else
   none
def Nq (fu:Nat) (p_1:Wc) (c:Int) (d:List (List Int)) (e:Int) (f:List Int) (g:List Int) (h:List (List Int)):Option (Qj×Int):=
 (at_ f c).bind fun i =>
 (Uu p_1 i).bind fun b =>
 (Sp p_1 b.1 b.2.1 b.2.2.1 b.2.2.2.1 d g h).bind fun a =>
 km p_1 e fu 0 a.2.1 a.2.2.1 a.2.2.2.1 a.1 b.2.2.2.2 a.2.2.2.2.2.1 a.2.2.2.2.1 a.2.2.2.2.2.2
def ko (i231:Int) (a:Int→Option (Qj×Int)) (b:Bool):Option (Qj×Int):=
 if b=true then
 none
 else
 (i64 (i231+1)).bind fun i276 =>
 a i276
def El (p_1:Wc) (i119:Int) (a:List Int) (b:Int→Option (Qj×Int)):Nat→Int→Option (Qj×Int)
 | 0,_=>none
 | n+1,i231 =>
 if i231<(a.length:Int) then
   (at_ a i231).bind fun c =>
   (at_ p_1.Qe i119).bind fun d =>
   if d.ue=2 then
  if c≠0 then
     ko i231 (El p_1 i119 a b n) (decide (c≠1))
  else
     ko i231 (El p_1 i119 a b n) false
   else
  ko i231 (El p_1 i119 a b n) false
 else
   (i64 (i119+1)).bind fun i278 =>
   b i278
def mm (fu:Nat) (p_1:Wc) (b:Int) (a:List (List Int)) (c:Int) (d:List Int):Nat→Int→Option (Qj×Int)
 | 0,_=>none
 | n+1,i119 =>
 if i119<(a.length:Int) then
   (at_ a i119).bind fun e =>
   El p_1 i119 e (mm fu p_1 b a c d n) (e.length+1) 0
 else
   (Qk (a.length:Int)).bind fun f =>
   (Qk (a.length:Int)).bind fun g =>
   Nq fu p_1 b a c d (List.replicate f (0:Int)) (List.replicate g (([]:List Int):List Int))
def hr (fu:Nat)  (p_1:Wc) (a:Int) (b:List (List Int)) (c:Int):Option (Qj×Int):=
 (Vt fu p_1).bind fun e =>
 if e.Th≠0 then
 none
 else
 (ou p_1).bind fun d =>
 if a<0 then
   none
 else
   if (d.length:Int)≤a then
  none
   else
  if c<0 then
     none
  else
     if (5000:Int)<c then
   none
     else
   if (b.length:Int)≠(p_1.Qe.length:Int) then
       none
   else
       mm fu p_1 a b c d (b.length+1) 0
end Go.Y
namespace Go.Y
open Go.wc Go.hd
def Uy:List UInt8:=[98,111,120,32,105,110,32,110,117,109,32,50,48,32,59,10,103,101,110,32,109,101,97,110,40,41,32,116,97,107,101,115,32,110,117,109,32,121,105,101,108,100,115,32,110,117,109,32,123,10,32,32,108,101,116,32,115,32,61,32,48,32,59,10,32,32,108,101,116,32,110,32,61,32,48,32,59,10,32,32,108,101,116,32,120,32,61,32,121,105,101,108,100,40,48,41,32,59,10,32,32,119,104,105,108,101,32,116,114,117,101,32,123,32,115,32,61,32,115,32,43,32,120,32,59,32,110,32,61,32,110,32,43,32,49,32,59,32,120,32,61,32,121,105,101,108,100,40,115,32,47,32,110,41,32,59,32,125,10,125,10,116,97,115,107,32,109,97,105,110,32,123,10,32,32,108,101,116,32,109,32,61,32,115,116,97,114,116,32,109,101,97,110,40,41,32,59,10,32,32,100,111,32,114,101,115,117,109,101,40,109,44,32,48,41,32,59,10,32,32,119,104,105,108,101,32,116,114,117,101,32,123,32,111,117,116,32,114,101,115,117,109,101,40,109,44,32,114,101,99,118,40,105,110,41,41,32,59,32,125,10,125,10]
def Vy:List UInt8:=[98,111,120,32,105,110,32,110,117,109,32,50,48,32,59,10,116,97,115,107,32,109,97,105,110,32,123,10,32,32,119,104,105,108,101,32,116,114,117,101,32,123,10,32,32,32,32,108,101,116,32,120,32,61,32,114,101,99,118,40,105,110,41,32,59,10,32,32,32,32,108,101,116,32,110,32,61,32,48,32,59,10,32,32,32,32,119,104,105,108,101,32,120,32,62,32,48,32,123,32,110,32,61,32,110,32,43,32,120,32,37,32,50,32,59,32,120,32,61,32,120,32,47,32,50,32,59,32,125,10,32,32,32,32,111,117,116,32,110,32,59,10,32,32,125,10,125,10]
def Wy:List UInt8:=[98,111,120,32,105,110,32,110,117,109,32,50,48,32,59,10,116,97,115,107,32,109,97,105,110,32,123,10,32,32,108,101,116,32,108,97,115,116,32,61,32,114,101,99,118,40,105,110,41,32,59,10,32,32,108,101,116,32,110,32,61,32,49,32,59,10,32,32,119,104,105,108,101,32,116,114,117,101,32,123,10,32,32,32,32,108,101,116,32,120,32,61,32,114,101,99,118,40,105,110,41,32,59,10,32,32,32,32,105,102,32,120,32,61,61,32,108,97,115,116,32,123,32,110,32,61,32,110,32,43,32,49,32,59,32,125,32,101,108,115,101,32,123,32,111,117,116,32,108,97,115,116,32,59,32,111,117,116,32,110,32,59,32,108,97,115,116,32,61,32,120,32,59,32,110,32,61,32,49,32,59,32,125,10,32,32,125,10,125,10]
def Xy:List UInt8:=[98,111,120,32,105,110,32,110,117,109,32,50,48,32,59,10,116,97,115,107,32,109,97,105,110,32,123,10,32,32,119,104,105,108,101,32,116,114,117,101,32,123,10,32,32,32,32,108,101,116,32,110,32,61,32,114,101,99,118,40,105,110,41,32,59,10,32,32,32,32,108,101,116,32,107,32,61,32,48,32,59,10,32,32,32,32,119,104,105,108,101,32,110,32,62,32,49,32,123,10,32,32,32,32,32,32,105,102,32,110,32,37,32,50,32,61,61,32,48,32,123,32,110,32,61,32,110,32,47,32,50,32,59,32,125,32,101,108,115,101,32,123,32,110,32,61,32,51,32,42,32,110,32,43,32,49,32,59,32,125,10,32,32,32,32,32,32,107,32,61,32,107,32,43,32,49,32,59,10,32,32,32,32,125,10,32,32,32,32,111,117,116,32,107,32,59,10,32,32,125,10,125,10]
def Yy:List UInt8:=[98,111,120,32,105,110,32,110,117,109,32,50,48,32,59,10,116,97,115,107,32,109,97,105,110,32,123,10,32,32,108,101,116,32,108,97,115,116,32,61,32,114,101,99,118,40,105,110,41,32,59,10,32,32,111,117,116,32,108,97,115,116,32,59,10,32,32,119,104,105,108,101,32,116,114,117,101,32,123,10,32,32,32,32,108,101,116,32,120,32,61,32,114,101,99,118,40,105,110,41,32,59,10,32,32,32,32,105,102,32,120,32,33,61,32,108,97,115,116,32,123,32,111,117,116,32,120,32,59,32,108,97,115,116,32,61,32,120,32,59,32,125,10,32,32,125,10,125,10]
def Zy:List UInt8:=[98,111,120,32,105,110,32,110,117,109,32,50,48,32,59,10,116,97,115,107,32,109,97,105,110,32,123,10,32,32,119,104,105,108,101,32,116,114,117,101,32,123,10,32,32,32,32,108,101,116,32,120,32,61,32,114,101,99,118,40,105,110,41,32,59,10,32,32,32,32,108,101,116,32,115,32,61,32,48,32,59,10,32,32,32,32,119,104,105,108,101,32,120,32,62,32,48,32,123,32,115,32,61,32,115,32,43,32,120,32,37,32,49,48,32,59,32,120,32,61,32,120,32,47,32,49,48,32,59,32,125,10,32,32,32,32,111,117,116,32,115,32,59,10,32,32,125,10,125,10]
def az:List UInt8:=[98,111,120,32,105,110,32,110,117,109,32,50,48,32,59,10,116,97,115,107,32,109,97,105,110,32,123,10,32,32,119,104,105,108,101,32,116,114,117,101,32,123,32,111,117,116,32,114,101,99,118,40,105,110,41,32,42,32,50,32,59,32,125,10,125,10]
def bz:List UInt8:=[98,111,120,32,105,110,32,110,117,109,32,50,48,32,59,10,116,97,115,107,32,109,97,105,110,32,123,10,32,32,119,104,105,108,101,32,116,114,117,101,32,123,10,32,32,32,32,108,101,116,32,120,32,61,32,114,101,99,118,40,105,110,41,32,59,10,32,32,32,32,105,102,32,120,32,37,32,50,32,61,61,32,48,32,123,32,111,117,116,32,120,32,59,32,125,10,32,32,125,10,125,10]
def cz:List UInt8:=[98,111,120,32,105,110,32,110,117,109,32,50,48,32,59,10,102,110,32,102,97,99,116,40,110,32,110,117,109,41,32,110,117,109,32,123,10,32,32,105,102,32,110,32,60,32,50,32,123,32,114,101,116,117,114,110,32,49,32,59,32,125,10,32,32,114,101,116,117,114,110,32,110,32,42,32,102,97,99,116,40,110,32,45,32,49,41,32,59,10,125,10,116,97,115,107,32,109,97,105,110,32,123,10,32,32,119,104,105,108,101,32,116,114,117,101,32,123,32,111,117,116,32,102,97,99,116,40,114,101,99,118,40,105,110,41,41,32,59,32,125,10,125,10]
def uy:List UInt8:=[98,111,120,32,105,110,32,110,117,109,32,50,48,32,59,10,35,32,101,97,99,104,32,110,117,109,98,101,114,32,97,115,107,115,32,102,111,114,32,97,115,32,109,97,110,121,10,103,101,110,32,102,105,98,115,40,41,32,116,97,107,101,115,32,98,111,111,108,32,121,105,101,108,100,115,32,110,117,109,32,123,10,32,32,108,101,116,32,97,32,61,32,48,32,59,10,32,32,108,101,116,32,98,32,61,32,49,32,59,10,32,32,119,104,105,108,101,32,121,105,101,108,100,40,97,41,32,123,32,108,101,116,32,99,32,61,32,97,32,43,32,98,32,59,32,97,32,61,32,98,32,59,32,98,32,61,32,99,32,59,32,125,10,125,10,116,97,115,107,32,109,97,105,110,32,123,10,32,32,108,101,116,32,102,32,61,32,115,116,97,114,116,32,102,105,98,115,40,41,32,59,10,32,32,119,104,105,108,101,32,116,114,117,101,32,123,10,32,32,32,32,108,101,116,32,110,32,61,32,114,101,99,118,40,105,110,41,32,59,10,32,32,32,32,119,104,105,108,101,32,110,32,62,32,48,32,123,32,111,117,116,32,114,101,115,117,109,101,40,102,44,32,116,114,117,101,41,32,59,32,110,32,61,32,110,32,45,32,49,32,59,32,125,10,32,32,125,10,125,10]
def vy:List UInt8:=[98,111,120,32,105,110,32,110,117,109,32,50,48,32,59,10,98,111,120,32,111,112,101,110,32,98,111,111,108,32,50,48,32,59,10,116,97,115,107,32,109,97,105,110,32,123,10,32,32,119,104,105,108,101,32,116,114,117,101,32,123,10,32,32,32,32,108,101,116,32,120,32,61,32,114,101,99,118,40,105,110,41,32,59,10,32,32,32,32,105,102,32,114,101,99,118,40,111,112,101,110,41,32,123,32,111,117,116,32,120,32,59,32,125,10,32,32,125,10,125,10]
def wy:List UInt8:=[98,111,120,32,105,110,32,110,117,109,32,50,48,32,59,10,102,110,32,103,99,100,40,97,32,110,117,109,44,32,98,32,110,117,109,41,32,110,117,109,32,123,10,32,32,105,102,32,98,32,61,61,32,48,32,123,32,114,101,116,117,114,110,32,97,32,59,32,125,10,32,32,114,101,116,117,114,110,32,103,99,100,40,98,44,32,97,32,37,32,98,41,32,59,10,125,10,116,97,115,107,32,109,97,105,110,32,123,10,32,32,119,104,105,108,101,32,116,114,117,101,32,123,32,111,117,116,32,103,99,100,40,114,101,99,118,40,105,110,41,44,32,114,101,99,118,40,105,110,41,41,32,59,32,125,10,125,10]
def xy:List UInt8:=[98,111,120,32,105,110,32,110,117,109,32,50,48,32,59,10,102,110,32,109,97,120,40,97,32,110,117,109,44,32,98,32,110,117,109,41,32,110,117,109,32,123,10,32,32,105,102,32,97,32,60,32,98,32,123,32,114,101,116,117,114,110,32,98,32,59,32,125,10,32,32,114,101,116,117,114,110,32,97,32,59,10,125,10,116,97,115,107,32,109,97,105,110,32,123,10,32,32,108,101,116,32,109,32,61,32,114,101,99,118,40,105,110,41,32,59,10,32,32,119,104,105,108,101,32,116,114,117,101,32,123,32,111,117,116,32,109,32,59,32,109,32,61,32,109,97,120,40,109,44,32,114,101,99,118,40,105,110,41,41,32,59,32,125,10,125,10]
def yy:List UInt8:=[98,111,120,32,97,32,110,117,109,32,50,48,32,59,10,98,111,120,32,98,32,110,117,109,32,50,48,32,59,10,116,97,115,107,32,109,97,105,110,32,123,10,32,32,108,101,116,32,120,32,61,32,114,101,99,118,40,97,41,32,59,10,32,32,108,101,116,32,121,32,61,32,114,101,99,118,40,98,41,32,59,10,32,32,119,104,105,108,101,32,116,114,117,101,32,123,10,32,32,32,32,105,102,32,120,32,60,61,32,121,32,123,32,111,117,116,32,120,32,59,32,120,32,61,32,114,101,99,118,40,97,41,32,59,32,125,32,101,108,115,101,32,123,32,111,117,116,32,121,32,59,32,121,32,61,32,114,101,99,118,40,98,41,32,59,32,125,10,32,32,125,10,125,10]
def zy:List UInt8:=[98,111,120,32,105,110,32,110,117,109,32,50,48,32,59,10,116,97,115,107,32,109,97,105,110,32,123,10,32,32,119,104,105,108,101,32,116,114,117,101,32,123,32,111,117,116,32,114,101,99,118,40,105,110,41,32,45,32,114,101,99,118,40,105,110,41,32,59,32,125,10,125,10]
def Ay:List UInt8:=[98,111,120,32,112,105,110,103,32,110,117,109,32,49,32,59,10,98,111,120,32,112,111,110,103,32,110,117,109,32,49,32,59,10,116,97,115,107,32,111,110,101,32,123,10,32,32,108,101,116,32,120,32,61,32,49,32,59,10,32,32,119,104,105,108,101,32,120,32,60,32,49,48,48,32,123,32,115,101,110,100,32,112,105,110,103,32,120,32,59,32,120,32,61,32,114,101,99,118,40,112,111,110,103,41,32,59,32,111,117,116,32,120,32,59,32,125,10,125,10,116,97,115,107,32,111,116,104,101,114,32,123,10,32,32,119,104,105,108,101,32,116,114,117,101,32,123,32,115,101,110,100,32,112,111,110,103,32,114,101,99,118,40,112,105,110,103,41,32,42,32,50,32,59,32,125,10,125,10]
def By:List UInt8:=[98,111,120,32,105,110,32,110,117,109,32,50,48,32,59,10,116,97,115,107,32,109,97,105,110,32,123,10,32,32,119,104,105,108,101,32,116,114,117,101,32,123,10,32,32,32,32,108,101,116,32,120,32,61,32,114,101,99,118,40,105,110,41,32,59,10,32,32,32,32,108,101,116,32,110,32,61,32,114,101,99,118,40,105,110,41,32,59,10,32,32,32,32,108,101,116,32,112,32,61,32,49,32,59,10,32,32,32,32,119,104,105,108,101,32,110,32,62,32,48,32,123,10,32,32,32,32,32,32,105,102,32,110,32,37,32,50,32,61,61,32,49,32,123,32,112,32,61,32,112,32,42,32,120,32,59,32,125,10,32,32,32,32,32,32,120,32,61,32,120,32,42,32,120,32,59,10,32,32,32,32,32,32,110,32,61,32,110,32,47,32,50,32,59,10,32,32,32,32,125,10,32,32,32,32,111,117,116,32,112,32,59,10,32,32,125,10,125,10]
def Cy:List UInt8:=[98,111,120,32,105,110,32,110,117,109,32,50,48,32,59,10,102,110,32,112,114,105,109,101,40,110,32,110,117,109,41,32,98,111,111,108,32,123,10,32,32,105,102,32,110,32,60,32,50,32,123,32,114,101,116,117,114,110,32,102,97,108,115,101,32,59,32,125,10,32,32,108,101,116,32,100,32,61,32,50,32,59,10,32,32,119,104,105,108,101,32,100,32,42,32,100,32,60,61,32,110,32,123,10,32,32,32,32,105,102,32,110,32,37,32,100,32,61,61,32,48,32,123,32,114,101,116,117,114,110,32,102,97,108,115,101,32,59,32,125,10,32,32,32,32,100,32,61,32,100,32,43,32,49,32,59,10,32,32,125,10,32,32,114,101,116,117,114,110,32,116,114,117,101,32,59,10,125,10,116,97,115,107,32,109,97,105,110,32,123,10,32,32,119,104,105,108,101,32,116,114,117,101,32,123,32,111,117,116,32,112,114,105,109,101,40,114,101,99,118,40,105,110,41,41,32,59,32,125,10,125,10]
def Dy:List UInt8:=[98,111,120,32,105,110,32,110,117,109,32,50,48,32,59,10,35,32,97,32,103,101,110,101,114,97,116,111,114,32,119,105,116,104,105,110,32,97,32,103,101,110,101,114,97,116,111,114,10,103,101,110,32,105,110,110,101,114,40,110,32,110,117,109,41,32,116,97,107,101,115,32,98,111,111,108,32,121,105,101,108,100,115,32,110,117,109,32,123,10,32,32,108,101,116,32,105,32,61,32,48,32,59,10,32,32,119,104,105,108,101,32,105,32,60,32,110,32,123,32,100,111,32,121,105,101,108,100,40,105,41,32,59,32,105,32,61,32,105,32,43,32,49,32,59,32,125,10,125,10,103,101,110,32,111,117,116,101,114,40,41,32,116,97,107,101,115,32,110,117,109,32,121,105,101,108,100,115,32,110,117,109,32,123,10,32,32,108,101,116,32,110,32,61,32,121,105,101,108,100,40,48,41,32,59,10,32,32,119,104,105,108,101,32,116,114,117,101,32,123,10,32,32,32,32,108,101,116,32,103,32,61,32,115,116,97,114,116,32,105,110,110,101,114,40,110,41,32,59,10,32,32,32,32,108,101,116,32,115,32,61,32,48,32,59,10,32,32,32,32,119,104,105,108,101,32,97,108,105,118,101,40,103,41,32,123,32,115,32,61,32,115,32,43,32,114,101,115,117,109,101,40,103,44,32,116,114,117,101,41,32,59,32,125,10,32,32,32,32,110,32,61,32,121,105,101,108,100,40,115,41,32,59,10,32,32,125,10,125,10,116,97,115,107,32,109,97,105,110,32,123,10,32,32,108,101,116,32,111,32,61,32,115,116,97,114,116,32,111,117,116,101,114,40,41,32,59,10,32,32,100,111,32,114,101,115,117,109,101,40,111,44,32,48,41,32,59,10,32,32,119,104,105,108,101,32,116,114,117,101,32,123,32,111,117,116,32,114,101,115,117,109,101,40,111,44,32,114,101,99,118,40,105,110,41,41,32,59,32,125,10,125,10]
def Ey:List UInt8:=[98,111,120,32,105,110,116,115,32,110,117,109,32,49,32,59,10,98,111,120,32,111,100,100,32,110,117,109,32,49,32,59,10,98,111,120,32,114,101,115,116,32,110,117,109,32,49,32,59,10,116,97,115,107,32,110,117,109,98,101,114,115,32,123,10,32,32,108,101,116,32,105,32,61,32,50,32,59,10,32,32,119,104,105,108,101,32,105,32,60,32,50,54,32,123,32,115,101,110,100,32,105,110,116,115,32,105,32,59,32,105,32,61,32,105,32,43,32,49,32,59,32,125,10,125,10,116,97,115,107,32,116,119,111,32,123,10,32,32,111,117,116,32,50,32,59,10,32,32,119,104,105,108,101,32,116,114,117,101,32,123,32,108,101,116,32,120,32,61,32,114,101,99,118,40,105,110,116,115,41,32,59,32,105,102,32,120,32,37,32,50,32,33,61,32,48,32,123,32,115,101,110,100,32,111,100,100,32,120,32,59,32,125,32,125,10,125,10,116,97,115,107,32,116,104,114,101,101,32,123,10,32,32,111,117,116,32,51,32,59,10,32,32,119,104,105,108,101,32,116,114,117,101,32,123,32,108,101,116,32,120,32,61,32,114,101,99,118,40,111,100,100,41,32,59,32,105,102,32,120,32,37,32,51,32,33,61,32,48,32,123,32,115,101,110,100,32,114,101,115,116,32,120,32,59,32,125,32,125,10,125,10,116,97,115,107,32,111,116,104,101,114,115,32,123,10,32,32,119,104,105,108,101,32,116,114,117,101,32,123,32,108,101,116,32,120,32,61,32,114,101,99,118,40,114,101,115,116,41,32,59,32,105,102,32,120,32,37,32,53,32,33,61,32,48,32,123,32,111,117,116,32,120,32,59,32,125,32,101,108,115,101,32,123,32,105,102,32,120,32,61,61,32,53,32,123,32,111,117,116,32,120,32,59,32,125,32,125,32,125,10,125,10]
def Fy:List UInt8:=[98,111,120,32,105,110,32,110,117,109,32,50,48,32,59,10,116,97,115,107,32,109,97,105,110,32,123,10,32,32,108,101,116,32,115,32,61,32,48,32,59,10,32,32,119,104,105,108,101,32,116,114,117,101,32,123,32,115,32,61,32,115,32,43,32,114,101,99,118,40,105,110,41,32,59,32,111,117,116,32,115,32,59,32,125,10,125,10]
def Gy:List UInt8:=[98,111,120,32,105,110,32,110,117,109,32,50,48,32,59,10,35,32,116,119,111,32,116,104,97,116,32,116,97,107,101,32,116,117,114,110,115,10,103,101,110,32,112,108,117,115,40,107,32,110,117,109,41,32,116,97,107,101,115,32,110,117,109,32,121,105,101,108,100,115,32,110,117,109,32,123,10,32,32,108,101,116,32,120,32,61,32,121,105,101,108,100,40,48,41,32,59,10,32,32,119,104,105,108,101,32,116,114,117,101,32,123,32,120,32,61,32,121,105,101,108,100,40,120,32,43,32,107,41,32,59,32,125,10,125,10,116,97,115,107,32,109,97,105,110,32,123,10,32,32,108,101,116,32,97,32,61,32,115,116,97,114,116,32,112,108,117,115,40,49,41,32,59,10,32,32,108,101,116,32,98,32,61,32,115,116,97,114,116,32,112,108,117,115,40,45,49,41,32,59,10,32,32,100,111,32,114,101,115,117,109,101,40,97,44,32,48,41,32,59,10,32,32,100,111,32,114,101,115,117,109,101,40,98,44,32,48,41,32,59,10,32,32,119,104,105,108,101,32,116,114,117,101,32,123,32,111,117,116,32,114,101,115,117,109,101,40,97,44,32,114,101,99,118,40,105,110,41,41,32,59,32,111,117,116,32,114,101,115,117,109,101,40,98,44,32,114,101,99,118,40,105,110,41,41,32,59,32,125,10,125,10]
def Hy:List UInt8:=[98,111,120,32,105,110,32,110,117,109,32,50,48,32,59,10,116,97,115,107,32,109,97,105,110,32,123,10,32,32,108,101,116,32,120,32,61,32,114,101,99,118,40,105,110,41,32,59,10,32,32,119,104,105,108,101,32,120,32,33,61,32,48,32,123,32,111,117,116,32,120,32,59,32,120,32,61,32,114,101,99,118,40,105,110,41,32,59,32,125,10,125,10]
def Iy:List UInt8:=[98,111,120,32,105,110,32,110,117,109,32,50,48,32,59,10,116,97,115,107,32,109,97,105,110,32,123,10,32,32,108,101,116,32,97,32,61,32,114,101,99,118,40,105,110,41,32,59,10,32,32,108,101,116,32,98,32,61,32,114,101,99,118,40,105,110,41,32,59,10,32,32,119,104,105,108,101,32,116,114,117,101,32,123,10,32,32,32,32,108,101,116,32,99,32,61,32,114,101,99,118,40,105,110,41,32,59,10,32,32,32,32,111,117,116,32,97,32,43,32,98,32,43,32,99,32,59,10,32,32,32,32,97,32,61,32,98,32,59,10,32,32,32,32,98,32,61,32,99,32,59,10,32,32,125,10,125,10]
def Jy:List UInt8:=[98,111,120,32,97,32,110,117,109,32,50,48,32,59,10,98,111,120,32,98,32,110,117,109,32,50,48,32,59,10,116,97,115,107,32,109,97,105,110,32,123,10,32,32,119,104,105,108,101,32,116,114,117,101,32,123,32,111,117,116,32,114,101,99,118,40,97,41,32,43,32,114,101,99,118,40,98,41,32,59,32,125,10,125,10]
def wx  :Option (List Mc):=
 some [(Mc.mk [97,118,101,114,97,103,101] Uy),(Mc.mk [98,105,116,115] Vy),(Mc.mk [99,104,97,110,103,101,115] Wy),(Mc.mk [99,111,108,108,97,116,122] Xy),(Mc.mk [100,101,100,117,112,101] Yy),(Mc.mk [100,105,103,105,116,115] Zy),(Mc.mk [100,111,117,98,108,101] az),(Mc.mk [101,118,101,110,115] bz),(Mc.mk [102,97,99,116] cz)]
def Sw  :Option (List Mc):=
 some [(Mc.mk [102,105,98] uy),(Mc.mk [103,97,116,101] vy),(Mc.mk [103,99,100] wy),(Mc.mk [103,114,101,97,116,101,115,116] xy),(Mc.mk [109,101,114,103,101] yy),(Mc.mk [112,97,105,114,115] zy),(Mc.mk [112,105,110,103,112,111,110,103] Ay),(Mc.mk [112,111,119,101,114] By),(Mc.mk [112,114,105,109,101] Cy)]
def Mx  :Option (List Mc):=
 some [(Mc.mk [114,111,117,110,100,115] Dy),(Mc.mk [115,105,101,118,101] Ey),(Mc.mk [115,117,109,115] Fy),(Mc.mk [116,117,114,110,115] Gy),(Mc.mk [117,110,116,105,108] Hy),(Mc.mk [119,105,110,100,111,119] Iy),(Mc.mk [122,105,112] Jy)]
def yx  (p_1:Mc) (a:List UInt8):Option Bool :=
 some (decide (p_1.name=a))
def Rr (p_1:List Mc) (a:Mc→Option Bool):Nat→Int→Option Int
 | 0,_=>none
 | n+1,i20 =>
 if i20<(p_1.length:Int) then
   (at_ p_1 i20).bind fun b =>
   (a b).bind fun c =>
   if c=true then
  some i20
   else
  (i64 (i20+1)).bind fun i49 =>
  Rr p_1 a n i49
 else
   none
def Dv  (p_1:List Mc) (a:Mc→Option Bool):Option Int :=
 Rr p_1 a (p_1.length+1) 0
end Go.Y
namespace Go.Y
open Go.wc Go.hd
def pw  (a:Int):Option (List Mc):=
 if a<0 then
 none
 else
 (i64 (0 - 0)).bind fun i5 =>
 (i64 (a - i5)).bind fun i7 =>
 if (0:Int)<i7 then
   (mv i7).bind fun na =>
   (cut (List.replicate na ((Mc.mk [] []):Mc)) 0 0).bind fun b =>
   some b
 else
   none
def Sr (p_1:List (List Mc)):Nat→Int→(List Mc)→Option (List Mc)
 | 0,_,_=>none
 | n+1,i83,a =>
 if i83<(p_1.length:Int) then
   (at_ p_1 i83).bind fun b =>
   (app a b).bind fun c =>
   (i64 (i83+1)).bind fun i129 =>
   Sr p_1 n i129 c
 else
   some a
def Tr (p_1:List (List Mc)):Nat→Int→Int→Option (List Mc)
 | 0,_,_=>none
 | n+1,i22,i23 =>
 if i23<(p_1.length:Int) then
   (at_ p_1 i23).bind fun a =>
   (i64 (i22+(a.length:Int))).bind fun i52 =>
   if i52<0 then
  none
   else
  (i64 (i23+1)).bind fun i55 =>
  Tr p_1 n i52 i55
 else
   (pw i22).bind fun b =>
   Sr p_1 (p_1.length+1) 0 b
def Lv  (p_1:List (List Mc)):Option (List Mc):=
 Tr p_1 (p_1.length+1) 0 0
def fy  :Option (List Mc):=
 (wx ).bind fun a =>
 (Sw ).bind fun b =>
 (Mx ).bind fun c =>
 (Lv [a,b,c]).bind fun d =>
 some d
def Nx  (p_1:List UInt8):Option (List UInt8×Int):=
 (fy ).bind fun a =>
 (Dv a (fun c=>yx c p_1)).bind fun b =>
 if b<0 then
 none
 else
 (at_ a b).bind fun d =>
 some (d.text,0)
def Wv (a:Wc×yf):Option (Wc×Int):=
 some (a.1,a.2.Th)
def Rq (fu:Nat)  (p_1:List UInt8):Option (Wc×Int):=
 (Nx p_1).bind fun a =>
 if a.2≠0 then
 none
 else
 (jx fu a.1).bind fun b =>
 if b.2.Th≠0 then
   none
 else
   (nw fu b.1).bind fun c =>
   Wv c
def Vu (fu:Nat)  (p_1:List UInt8) (c:List (List Int)):Option (Qj×Int):=
 (Rq fu p_1).bind fun a =>
 if a.2≠0 then
 none
 else
 (hr fu a.1 0 c 5000).bind fun b =>
 some (b.1,b.2)
end Go.Y
