/- The shelf: texts of Md. -/
import Derived.Test.YthdpoglpdpfnbaaGreatDoorCXu
set_option linter.unusedSimpArgs false
set_option linter.unusedVariables false
set_option linter.unusedSectionVars false
namespace Go.Y
open Go.vc Go.jd
structure Cb where
 Kind:Int
 N:Int
 Name:List UInt8
 Kids:List Cb
 deriving Inhabited,Repr
structure me where
 Kind:Int
 Name:List UInt8
 X:Cb
 Body:List me
 Hj:List me
 deriving Inhabited,Repr
def Gk {α:Type}(sz:Nat) (μ:M) (a:Option Addr) (c:Nat) (xs:List α) (g:Nat→List Value):Prop :=
 xs.length≤c∧c≤maxLen∧(xs=[]∨∃ b o,a=some ⟨b,o,none⟩∧∀ (i:Nat) (y:α),xs[i]?=some y→xc μ b (o+i*sz) (g i))
inductive Hm (μ:M):List Value→Cb→Prop where
 | mk (x:Cb) (a:Option Addr) (c:Nat) (g:Nat→List Value) (h:Gk 4 μ a c x.Kids g) (k:∀ (i:Nat) (y:Cb),x.Kids[i]?=some y→Hm μ (g i) y) :
 Hm μ [.int .i64 x.Kind,.int .i64 x.N,S x.Name,.slice a x.Kids.length c] x
theorem Gk.zq {α:Type}{sz:Nat}{μ:M}{a:Option Addr}{c:Nat}{xs:List α}{g:Nat→List Value}{R:List Value→α→Prop}(h:Gk sz μ a c xs g) (k:∀ (i:Nat) (y:α),xs[i]?=some y→R (g i) y):Ec sz R μ a c xs:=by
 refine ⟨h.1,h.2.1,?_⟩;rcases h.2.2 with h | ⟨b,o,e,f⟩
 ·exact .inl h
 ·exact .inr ⟨b,o,e,g,fun i x d=>⟨f i x d,k i x d⟩⟩
theorem Gk.of {α:Type}{sz:Nat}{μ:M}{a:Option Addr}{c:Nat}{xs:List α}{R:List Value→α→Prop}(h:Ec sz R μ a c xs):∃ g,Gk sz μ a c xs g∧∀ (i:Nat) (y:α),xs[i]?=some y→R (g i) y:=by
 rcases h.el with e | ⟨b,o,j,g,f⟩
 ·exact ⟨fun _=>[],⟨h.le,h.cap,.inl e⟩,fun i y d=>by simp [e] at d⟩
 ·exact ⟨g,⟨h.le,h.cap,.inr ⟨b,o,j,fun i y d=>(f i y d).1⟩⟩,fun i y d=>(f i y d).2⟩
theorem Gk.up {α:Type}{sz:Nat}{μ J:M}{a:Option Addr}{c:Nat}{xs:List α}{g:Nat→List Value}(h:Gk sz μ a c xs g) (l:ga μ J):Gk sz J a c xs g:=by
 refine ⟨h.1,h.2.1,?_⟩;rcases h.2.2 with h | ⟨b,o,d,e⟩
 ·exact .inl h
 ·exact .inr ⟨b,o,d,fun i y f=>(e i y f).up l⟩
theorem Hm.up {μ J:M}(l:ga μ J){cs:List Value}{x:Cb}(h:Hm μ cs x):Hm J cs x:=by
 induction h with
 | mk x a c g h k b=>exact .mk x a c g (h.up l) b
instance:Wa Cb where
 sz:=4
 pos:=by decide
 cs:=Hm
 sh h:=by cases h;rfl
 up l h:=Hm.up l h
 Ug h:=by cases h;rfl
theorem Cb.o {μ:M}{l:List Value}{x:Cb}(h:Wa.cs μ l x):∃ a c,l=[.int .i64 x.Kind,.int .i64 x.N,S x.Name,.slice a x.Kids.length c]∧wa μ a c x.Kids:=by
 have b:Hm μ l x:=h;cases b with
 | mk _ a c g d k1=>exact ⟨a,c,rfl,d.zq k1⟩
theorem Cb.i {μ:M}{l:List Value}{x:Cb}(h:∃ a c,l=[.int .i64 x.Kind,.int .i64 x.N,S x.Name,.slice a x.Kids.length c]∧wa μ a c x.Kids):Wa.cs μ l x:=by
 obtain ⟨a,c,rfl,h⟩:=h;obtain ⟨g,h,k⟩:=Gk.of h;exact Hm.mk x a c g h k
inductive Sl (μ:M):List Value→me→Prop where
 | mk (x:me) (pa:Option Addr) (a:Nat) (a2:Option Addr) (c2:Nat) (a3:Option Addr) (c3:Nat) (g2 g3:Nat→List Value) (b:wa μ pa a x.X.Kids)
   (c:Gk 8 μ a2 c2 x.Body g2) (d:∀ (i:Nat) (y:me),x.Body[i]?=some y→Sl μ (g2 i) y)
   (e:Gk 8 μ a3 c3 x.Hj g3) (f:∀ (i:Nat) (y:me),x.Hj[i]?=some y→Sl μ (g3 i) y) :
 Sl μ [.int .i64 x.Kind,S x.Name,.int .i64 x.X.Kind,.int .i64 x.X.N,S x.X.Name,.slice pa x.X.Kids.length a,.slice a2 x.Body.length c2,.slice a3 x.Hj.length c3] x
theorem Sl.up {μ J:M}(l:ga μ J){cs:List Value}{x:me}(h:Sl μ cs x):Sl J cs x:=by
 induction h with
 | mk x pa a a2 c2 a3 c3 g2 g3 b c g d i e f=>exact .mk x pa a a2 c2 a3 c3 g2 g3 (b.up l) (c.up l) e (d.up l) f
instance:Wa me where
 sz:=8
 pos:=by decide
 cs:=Sl
 sh h:=by cases h;rfl
 up l h:=Sl.up l h
 Ug h:=by cases h;rfl
theorem me.o {μ:M}{l:List Value}{x:me}(h:Wa.cs μ l x):∃ pa a a2 c2 a3 c3,l=[.int .i64 x.Kind,S x.Name,.int .i64 x.X.Kind,.int .i64 x.X.N,S x.X.Name,.slice pa x.X.Kids.length a,.slice a2 x.Body.length c2,.slice a3 x.Hj.length c3]∧wa μ pa a x.X.Kids∧wa μ a2 c2 x.Body∧wa μ a3 c3 x.Hj:=by
 have b:Sl μ l x:=h;cases b with
 | mk _ pa a a2 c2 a3 c3 g2 g3 c d e f g=>exact ⟨pa,a,a2,c2,a3,c3,rfl,c,d.zq e,f.zq g⟩
theorem me.i {μ:M}{l:List Value}{x:me}(h:∃ pa a a2 c2 a3 c3,l=[.int .i64 x.Kind,S x.Name,.int .i64 x.X.Kind,.int .i64 x.X.N,S x.X.Name,.slice pa x.X.Kids.length a,.slice a2 x.Body.length c2,.slice a3 x.Hj.length c3]∧wa μ pa a x.X.Kids∧wa μ a2 c2 x.Body∧wa μ a3 c3 x.Hj):Wa.cs μ l x:=by
 obtain ⟨pa,a,a2,c2,a3,c3,rfl,d,b,c⟩:=h;obtain ⟨g2,b,e⟩:=Gk.of b;obtain ⟨g3,c,f⟩:=Gk.of c;exact Sl.mk x pa a a2 c2 a3 c3 g2 g3 d b e c f
structure Vb where
 Kind:Int
 Text:List UInt8
 EC:Int
 xc:Int
 deriving DecidableEq,Inhabited,Repr
instance:Wa Vb where
 sz:=4
 pos:=by decide
 cs μ l x:=l=[.int .i64 x.Kind,S x.Text,.int .i64 x.EC,.int .i64 x.xc]
 sh h:=by obtain rfl:=h;rfl
 up le h:=by exact h
 Ug h:=by obtain rfl:=h;rfl
structure Af where
 Wh:Int
 xc:Int
 deriving DecidableEq,Inhabited,Repr
structure uc where
 Kind:Int
 Oc:List UInt8
 deriving DecidableEq,Inhabited,Repr
instance:Wa uc where
 sz:=2
 pos:=by decide
 cs μ l x:=l=[.int .i64 x.Kind,S x.Oc]
 sh h:=by obtain rfl:=h;rfl
 up le h:=by exact h
 Ug h:=by obtain rfl:=h;rfl
structure TParam where
 Name:List UInt8
 we:uc
 deriving DecidableEq,Inhabited,Repr
instance:Wa TParam where
 sz:=3
 pos:=by decide
 cs μ l x:=l=[S x.Name,.int .i64 x.we.Kind,S x.we.Oc]
 sh h:=by obtain rfl:=h;rfl
 up le h:=by exact h
 Ug h:=by obtain rfl:=h;rfl
structure Lb where
 Kind:Int
 Name:List UInt8
 we:uc
 ie:uc
 gh:Int
 Params:List TParam
 Body:List me
 deriving Inhabited,Repr
instance:Wa Lb where
 sz:=9
 pos:=by decide
 cs μ l x:=∃ pa a a2 c2,l=[.int .i64 x.Kind,S x.Name,.int .i64 x.we.Kind,S x.we.Oc,.int .i64 x.ie.Kind,S x.ie.Oc,.int .i64 x.gh,.slice pa x.Params.length a,.slice a2 x.Body.length c2]∧wa μ pa a x.Params∧wa μ a2 c2 x.Body
 sh h:=by obtain ⟨pa,a,a2,c2,rfl,m1,m2⟩:=h;rfl
 up le h:=by obtain ⟨pa,a,a2,c2,rfl,m1,m2⟩:=h;exact ⟨pa,a,a2,c2,rfl,m1.up le,m2.up le⟩
 Ug h:=by obtain ⟨pa,a,a2,c2,rfl,m1,m2⟩:=h;rfl
theorem Lb.i {μ:M}{l:List Value}{x:Lb}(h:∃ pa a a2 c2,l=[.int .i64 x.Kind,S x.Name,.int .i64 x.we.Kind,S x.we.Oc,.int .i64 x.ie.Kind,S x.ie.Oc,.int .i64 x.gh,.slice pa x.Params.length a,.slice a2 x.Body.length c2]∧wa μ pa a x.Params∧wa μ a2 c2 x.Body):Wa.cs μ l x:=h
structure cj where
 Ev:List UInt8
 Writer:List UInt8
 Reader:List UInt8
 deriving DecidableEq,Inhabited,Repr
instance:Wa cj where
 sz:=3
 pos:=by decide
 cs μ l x:=l=[S x.Ev,S x.Writer,S x.Reader]
 sh h:=by obtain rfl:=h;rfl
 up le h:=by exact h
 Ug h:=by obtain rfl:=h;rfl
instance:Kh uc:=⟨Wm,Wm.up⟩
instance:Kh Lb:=⟨km,km.up⟩
structure Xe where
 defs:List Lb
 named:List (List UInt8×Lb)
 deriving Inhabited,Repr
structure Ig where
 calls:List (List UInt8)
 Wl:List (List UInt8)
 Xl:List (List UInt8)
 deriving DecidableEq,Inhabited,Repr
instance:Wa Ig where
 sz:=3
 pos:=by decide
 cs μ l x:=∃ pa a a2 c2 a3 c3,l=[.slice pa x.calls.length a,.slice a2 x.Wl.length c2,.slice a3 x.Xl.length c3]∧wa μ pa a x.calls∧wa μ a2 c2 x.Wl∧wa μ a3 c3 x.Xl
 sh h:=by obtain ⟨pa,a,a2,c2,a3,c3,rfl,m1,m2,m3⟩:=h;rfl
 up le h:=by obtain ⟨pa,a,a2,c2,a3,c3,rfl,m1,m2,m3⟩:=h;exact ⟨pa,a,a2,c2,a3,c3,rfl,m1.up le,m2.up le,m3.up le⟩
 Ug h:=by obtain ⟨pa,a,a2,c2,a3,c3,rfl,m1,m2,m3⟩:=h;rfl
theorem Ig.i {μ:M}{l:List Value}{x:Ig}(h:∃ pa a a2 c2 a3 c3,l=[.slice pa x.calls.length a,.slice a2 x.Wl.length c2,.slice a3 x.Xl.length c3]∧wa μ pa a x.calls∧wa μ a2 c2 x.Wl∧wa μ a3 c3 x.Xl):Wa.cs μ l x:=h
structure Eh where
 On:List (List UInt8×Int)
 once:Bool
 deriving DecidableEq,Inhabited,Repr
instance:Wa Eh where
 sz:=2
 pos:=by decide
 cs μ l x:=∃ V,l=[.map (some V),.bool x.once]∧Xf μ V x.On
 sh h:=by obtain ⟨V,rfl,m1⟩:=h;rfl
 up le h:=by obtain ⟨V,rfl,m1⟩:=h;exact ⟨V,rfl,m1.up le⟩
 Ug h:=by obtain ⟨V,rfl,m1⟩:=h;rfl
theorem Eh.i {μ:M}{l:List Value}{x:Eh}(h:∃ V,l=[.map (some V),.bool x.once]∧Xf μ V x.On):Wa.cs μ l x:=h
structure mh where
 boxes:List (List UInt8×Int)
 Sk:List (List UInt8×Int)
 defs:List (List UInt8×Lb)
 deriving Inhabited,Repr
instance:Kh Ig:=⟨Wm,Wm.up⟩
structure ak where
 we:Int
 gh:Int
 deriving DecidableEq,Inhabited,Repr
instance:Wa ak where
 sz:=2
 pos:=by decide
 cs μ l x:=l=[.int .i64 x.we,.int .i64 x.gh]
 sh h:=by obtain rfl:=h;rfl
 up le h:=by exact h
 Ug h:=by obtain rfl:=h;rfl
structure Kc where
 Op:Int
 A:Int
 N:Int
 deriving DecidableEq,Inhabited,Repr
instance:Wa Kc where
 sz:=3
 pos:=by decide
 cs μ l x:=l=[.int .i64 x.Op,.int .i64 x.A,.int .i64 x.N]
 sh h:=by obtain rfl:=h;rfl
 up le h:=by exact h
 Ug h:=by obtain rfl:=h;rfl
structure hf where
 Kind:Int
 Params:Int
 qd:List Int
 Result:Int
 ie:Int
 Code:List Kc
 deriving DecidableEq,Inhabited,Repr
instance:Wa hf where
 sz:=6
 pos:=by decide
 cs μ l x:=∃ pa a a2 c2,l=[.int .i64 x.Kind,.int .i64 x.Params,.slice pa x.qd.length a,.int .i64 x.Result,.int .i64 x.ie,.slice a2 x.Code.length c2]∧wa μ pa a x.qd∧wa μ a2 c2 x.Code
 sh h:=by obtain ⟨pa,a,a2,c2,rfl,m1,m2⟩:=h;rfl
 up le h:=by obtain ⟨pa,a,a2,c2,rfl,m1,m2⟩:=h;exact ⟨pa,a,a2,c2,rfl,m1.up le,m2.up le⟩
 Ug h:=by obtain ⟨pa,a,a2,c2,rfl,m1,m2⟩:=h;rfl
theorem hf.i {μ:M}{l:List Value}{x:hf}(h:∃ pa a a2 c2,l=[.int .i64 x.Kind,.int .i64 x.Params,.slice pa x.qd.length a,.int .i64 x.Result,.int .i64 x.ie,.slice a2 x.Code.length c2]∧wa μ pa a x.qd∧wa μ a2 c2 x.Code):Wa.cs μ l x:=h
structure Uc where
 Se:List ak
 Ld:List hf
 deriving DecidableEq,Inhabited,Repr
instance:Wa Uc where
 sz:=2
 pos:=by decide
 cs μ l x:=∃ pa a a2 c2,l=[.slice pa x.Se.length a,.slice a2 x.Ld.length c2]∧wa μ pa a x.Se∧wa μ a2 c2 x.Ld
 sh h:=by obtain ⟨pa,a,a2,c2,rfl,m1,m2⟩:=h;rfl
 up le h:=by obtain ⟨pa,a,a2,c2,rfl,m1,m2⟩:=h;exact ⟨pa,a,a2,c2,rfl,m1.up le,m2.up le⟩
 Ug h:=by obtain ⟨pa,a,a2,c2,rfl,m1,m2⟩:=h;rfl
theorem Uc.i {μ:M}{l:List Value}{x:Uc}(h:∃ pa a a2 c2,l=[.slice pa x.Se.length a,.slice a2 x.Ld.length c2]∧wa μ pa a x.Se∧wa μ a2 c2 x.Ld):Wa.cs μ l x:=h
structure Th where
 Wh:Int
 Unit:Int
 xc:Int
 deriving DecidableEq,Inhabited,Repr
structure Wj where
 State:Int
 Ev:Int
 wC:Int
 Out:List Int
 zv:List (List Int)
 Av:List Int
 Steps:Int
 deriving DecidableEq,Inhabited,Repr
structure Pc where
 name:List UInt8
 text:List UInt8
 deriving DecidableEq,Inhabited,Repr
instance:Wa Pc where
 sz:=2
 pos:=by decide
 cs μ l x:=l=[S x.name,S x.text]
 sh h:=by obtain rfl:=h;rfl
 up le h:=by exact h
 Ug h:=by obtain rfl:=h;rfl
structure Gd where
 stack:List Int
 has:List Bool
 deriving DecidableEq,Inhabited,Repr
instance:Wa Gd where
 sz:=2
 pos:=by decide
 cs μ l x:=∃ pa a a2 c2,l=[.slice pa x.stack.length a,.slice a2 x.has.length c2]∧wa μ pa a x.stack∧wa μ a2 c2 x.has
 sh h:=by obtain ⟨pa,a,a2,c2,rfl,m1,m2⟩:=h;rfl
 up le h:=by obtain ⟨pa,a,a2,c2,rfl,m1,m2⟩:=h;exact ⟨pa,a,a2,c2,rfl,m1.up le,m2.up le⟩
 Ug h:=by obtain ⟨pa,a,a2,c2,rfl,m1,m2⟩:=h;rfl
theorem Gd.i {μ:M}{l:List Value}{x:Gd}(h:∃ pa a a2 c2,l=[.slice pa x.stack.length a,.slice a2 x.has.length c2]∧wa μ pa a x.stack∧wa μ a2 c2 x.has):Wa.cs μ l x:=h
structure Ge where
 m:Option Uc
 deriving DecidableEq,Inhabited,Repr
instance:Wa Ge where
 sz:=1
 pos:=by decide
 cs μ l x:=∃ v1,l=[v1]∧Me μ v1 x.m
 sh h:=by obtain ⟨v1,rfl,m1⟩:=h;rfl
 up le h:=by obtain ⟨v1,rfl,m1⟩:=h;exact ⟨v1,rfl,m1.up le⟩
 Ug h:=by obtain ⟨v1,rfl,m1⟩:=h;simp [m1.Od]
theorem Ge.i {μ:M}{l:List Value}{x:Ge}(h:∃ v1,l=[v1]∧Me μ v1 x.m):Wa.cs μ l x:=h
instance:Kh Gd:=⟨Wm,Wm.up⟩
end Go.Y
namespace Go.Y
open Go.vc Go.jd
def UI : List UInt8 := [32,98,111,120,32,102,110,32,103,101,110,32,116,97,115,107,32,116,97,107,101,115,32,121,105,101,108,100,115,32,108,101,116,32,105,102,32,101,108,115,101,32,119,104,105,108,101,32,114,101,116,117,114,110,32,115,116,111,112,32,115,101,110,100,32,111,117,116,32,100,111,32,114,101,99,118,32,121,105,101,108,100,32,115,116,97,114,116,32,114,101,115,117,109,101,32,97,108,105,118,101,32,110,117,109,32,98,111,111,108,32,116,114,117,101,32,102,97,108,115,101,32,97,110,100,32,111,114,32,110,111,116,32]
def Hp  (p_1 : UInt8) : Option Bool :=
 if (97 : Int) ≤ (p_1.toNat : Int) then
  if (p_1.toNat : Int) ≤ 122 then
   some true
  else
   some (decide ((p_1.toNat : Int) = 95))
 else
  some (decide ((p_1.toNat : Int) = 95))
def ir  (p_1 : UInt8) : Option Bool :=
 if (48 : Int) ≤ (p_1.toNat : Int) then
  some (decide ((p_1.toNat : Int) ≤ 57))
 else
  some false
def Ns (i13 : Int) (a : Int → Option Int) (b : Bool) : Option Int :=
 if b = true then
  (i64 (i13 + 1)).bind fun i33 =>
  a i33
 else
  some i13
def qp (p_1 : List UInt8) (a : UInt8 → Option Bool) : Nat → Int → Option Int
 | 0, _ => none
 | n + 1, i13 =>
  if i13 < (p_1.length : Int) then
   (at_ p_1 i13).bind fun b =>
   (a b).bind fun c =>
   Ns i13 (qp p_1 a n) c
  else
   Ns i13 (qp p_1 a n) false
def Qp (fu : Nat)  (p_1 : List UInt8) (a : UInt8 → Option Bool) : Option Int :=
 qp p_1 a fu 0
def zy  (p_1 : UInt8) : Option Bool :=
 (Hp p_1).bind fun a =>
 if a = true then
  some true
 else
  (ir p_1).bind fun b =>
  some b
def Ay  (p_1 : UInt8) : Option Bool :=
 some (decide ((p_1.toNat : Int) ≠ 10))
def By  (p_1 : UInt8) : Option Bool :=
 (Hp p_1).bind fun a =>
 if a = true then
  some true
 else
  none
def ny  (p_1 a : List UInt8) : Option Bool :=
 if (a.length : Int) ≤ (p_1.length : Int) then
  (cut p_1 0 (a.length : Int)).bind fun s2 =>
  some (decide (s2 = a))
 else
  none
def Cy  (p_1 a : List UInt8) : Option Bool :=
 (ny p_1 a).bind fun b =>
 some b
def vt (p_1 : List UInt8) : Nat → Int → Option (List UInt8)
 | 0, _ => none
 | n + 1, i18 =>
  if i18 < 18 then
   (at_ [[61, 61], [33, 61], [60, 61], [62, 61], [60], [62], [61], [43], [45], [42], [47], [37], [40], [41], [123], [125], [44], [59]] i18).bind fun a =>
   (Cy p_1 a).bind fun b =>
   if b = true then
    some a
   else
    (i64 (i18 + 1)).bind fun i46 =>
    vt p_1 n i46
  else
   none
def Qx  (p_1 : List UInt8) : Option (List UInt8):=
 vt p_1 19 0
def Ps (fu : Nat) (p_1 : List UInt8) (i13 : Int) (b : UInt8) (a : Int → Option Int) (Tj : Bool) : Option Int :=
 if Tj = true then
  (i64 (i13 + 1)).bind fun i35 =>
  a i35
 else
  if (b.toNat : Int) = 35 then
   (cut p_1 i13 p_1.length).bind fun c =>
   (Qp fu c Ay).bind fun d =>
   (i64 (i13 + d)).bind fun i43 =>
   a i43
  else
   some i13
def rp (fu : Nat) (p_1 : List UInt8) : Nat → Int → Option Int
 | 0, _ => none
 | n + 1, i13 =>
  if i13 < (p_1.length : Int) then
   (at_ p_1 i13).bind fun a =>
   if (a.toNat : Int) = 32 then
    Ps fu p_1 i13 a (rp fu p_1 n) (decide ((a.toNat : Int) = 32))
   else
    if (a.toNat : Int) = 9 then
     none
    else
     Ps fu p_1 i13 a (rp fu p_1 n) (decide ((a.toNat : Int) = 10))
  else
   some i13
def tu (fu : Nat)  (p_1 : List UInt8) : Option Int :=
 rp fu p_1 fu 0
def Jl (fu : Nat)  (p_1 : List UInt8) : Option Bool :=
 if (p_1.length : Int) < 1 then
  none
 else
  if (12 : Int) < (p_1.length : Int) then
   none
  else
   (at_ p_1 0).bind fun a =>
   (Hp a).bind fun b =>
   if b = true then
    (cat [32] p_1).bind fun c =>
    (cat c [32]).bind fun d =>
    (yy UI d).bind fun bh =>
    if bh = true then
     none
    else
     (Qp fu p_1 By).bind fun e =>
     some (decide (e = (p_1.length : Int)))
   else
    none
def Hq (fu : Nat) (p_1 : List UInt8) (i58 : Int) (b : List Vb) (c : Int → (List Vb) → Option (List Vb × Af)) (i118 : Int) (a : List UInt8) (i120 : Int) : Option (List Vb × Af):=
 (app b [(Vb.mk i118 a i120 i58)]).bind fun d =>
 (i64 (i58 + (a.length : Int))).bind fun i154 =>
 (cut p_1 i154 p_1.length).bind fun e =>
 (tu fu e).bind fun f =>
 (i64 (i154 + f)).bind fun i161 =>
 c i161 d
def mo (fu : Nat) (p_1 : List UInt8) : Nat → Int → (List Vb) → Option (List Vb × Af)
 | 0, _, _ => none
 | n + 1, i58, b =>
  if i58 < (p_1.length : Int) then
   (cut p_1 i58 p_1.length).bind fun a =>
   (at_ a 0).bind fun d =>
   (Hp d).bind fun f =>
   if f = true then
    (Qp fu a zy).bind fun g =>
    (cut a 0 g).bind fun h =>
    Hq fu p_1 i58 b (mo fu p_1 n) 1 h 0
   else
    (ir d).bind fun i =>
    if i = true then
     (Qp fu a ir).bind fun j =>
     (cut a 0 j).bind fun c =>
     if (15 : Int) < (c.length : Int) then
      none
     else
      (dz c).bind fun i140 =>
      Hq fu p_1 i58 b (mo fu p_1 n) 2 c i140
    else
     (Qx a).bind fun e =>
     if e = [] then
      none
     else
      Hq fu p_1 i58 b (mo fu p_1 n) 3 e 0
  else
   some (b, (Af.mk 0 0))
def Gw (fu : Nat)  (p_1 : List UInt8) : Option (List Vb × Af):=
 if (6000 : Int) < (p_1.length : Int) then
  none
 else
  (tu fu p_1).bind fun a =>
  mo fu p_1 fu a []
end Go.Y
namespace Go.Y
open Go.vc Go.jd
def Qs  (ri:Bool):Option Int :=
 if ri=true then
 some 2
 else
 some (-1)
def Nq (p_1:Int) (jg:Bool):Option Int :=
 if jg=true then
 some 1
 else
 if p_1≤18 then
   Qs true
 else
   Qs (decide (p_1=23))
def Rs (p_1:Int) (V:Bool):Option Int :=
 if V=true then
 some 0
 else
 if p_1≤5 then
   Nq p_1 true
 else
   if p_1=21 then
  Nq p_1 true
   else
  Nq p_1 (decide (p_1=24))
def sx  (p_1:Int):Option Int :=
 if p_1≤3 then
 Rs p_1 true
 else
 Rs p_1 (decide (p_1=20))
def jr  (a:Int) (b:Int):Option (Int×Int):=
 (i64 (a+1)).bind fun i3 =>
 if (2000:Int)<i3 then
 none
 else
 if (40:Int)<b then
   none
 else
   some (0,i3)
def rr  (p_1:uc):Option Int :=
 if p_1.Kind<1 then
 none
 else
 if (3:Int)<p_1.Kind then
   none
 else
   if p_1.Kind=3 then
  none
   else
  some 0
structure Ql where
 Ol:Int→Cb→Int→Option (Int×Int)
def Ss (self:Ql) (a:Cb) (b:Int):Nat→Int→Int→Option (Int×Int)
 | 0,_,_=>none
 | n+1,i69,i70 =>
 if i69<(a.Kids.length:Int) then
   (at_ a.Kids i69).bind fun d =>
   (i64 (b+1)).bind fun i102 =>
   (self.Ol i70 d i102).bind fun c =>
   if c.1≠0 then
  none
   else
  (i64 (i69+1)).bind fun i108 =>
  Ss self a b n i108 c.2
 else
   some (0,i70)
def Ts (self:Ql) (a:Cb) (b:Int) (c:Int×Int) (d:Bool):Option (Int×Int):=
 if d=true then
 none
 else
 Ss self a b (a.Kids.length+1) 0 c.2
def Us (self:Ql) (a:Cb) (b:Int) (c:Int×Int) (d:Int) (e:Bool):Option (Int×Int):=
 if e=true then
 none
 else
 if d<0 then
   Ts self a b c (decide ((6:Int)<(a.Kids.length:Int)))
 else
   Ts self a b c false
def tp (self:Ql) (b:Cb) (c:Int) (d:Int×Int) (a:Int) (e:Bool):Option (Int×Int):=
 if e=true then
 none
 else
 if (0:Int)≤a then
   Us self b c d a (decide ((b.Kids.length:Int)≠a))
 else
   Us self b c d a false
def Vs (fu:Nat) (self:Ql) (a:Cb) (c:Int) (d:Int×Int) (b:Int) (e:Bool):Option (Int×Int):=
 if e=true then
 none
 else
 if a.Kind=3 then
   (Jl fu a.Name).bind fun f =>
   tp self a c d b (!f)
 else
   if a.Kind=20 then
  (Jl fu a.Name).bind fun g =>
  tp self a c d b (!g)
   else
  if b<0 then
     (Jl fu a.Name).bind fun h =>
     tp self a c d b (!h)
  else
     tp self a c d b false
def Ws (fu:Nat) (self:Ql) (a:Cb) (b:Int) (c:Int×Int) (d:Int) (rh:Bool):Option (Int×Int):=
 if rh=true then
 none
 else
 if a.Kind=2 then
   if a.N≠0 then
  Vs fu self a b c d (decide (a.N≠1))
   else
  none
 else
   Vs fu self a b c d false
def Ol (fu:Nat) (self:Ql) (e:Int) (a:Cb) (b:Int):Option (Int×Int):=
 (jr e b).bind fun c =>
 if c.1≠0 then
 none
 else
 if a.Kind<1 then
   none
 else
   if (24:Int)<a.Kind then
  none
   else
  (sx a.Kind).bind fun d =>
  if a.Kind=1 then
     if a.N<0 then
   none
     else
   Ws fu self a b c d (decide ((999999999999999:Int)<a.N))
  else
     Ws fu self a b c d false
def ow:Nat→Ql
 | 0=>⟨fun _ _ _=>none⟩
 | n+1=>⟨Ol n (ow n)⟩
structure yn where
 Kl:Int→(List me)→Int→Option (Int×Int)
 pn:Int→me→Int→Option (Int×Int)
def Cs (self:yn) (a:List me) (b:Int):Nat→Int→Int→Option (Int×Int)
 | 0,_,_=>none
 | n+1,i29,i30 =>
 if i29<(a.length:Int) then
   (at_ a i29).bind fun d =>
   (self.pn i30 d b).bind fun c =>
   if c.1≠0 then
  none
   else
  (i64 (i29+1)).bind fun i76 =>
  Cs self a b n i76 c.2
 else
   some (0,i30)
def Kl (self:yn) (b:Int) (a:List me) (c:Int):Option (Int×Int):=
 if (50:Int)<(a.length:Int) then
 none
 else
 Cs self a c (a.length+1) 0 b
def Xs (a:me) (i41:Int):Option (Int×Int):=
 if a.Kind=3 then
 none
 else
 some (0,i41)
def Oq (fu:Nat) (self:yn) (a:me) (c:Int) (e:Int×Int) (f:Bool):Option (Int×Int):=
 if f=true then
 none
 else
 if a.Kind=6 then
   none
 else
   (i64 (c+1)).bind fun i34 =>
   ((ow fu).Ol e.2 a.X i34).bind fun b =>
   if b.1≠0 then
  none
   else
  if a.Kind=3 then
     none
  else
     if a.Kind=4 then
   (i64 (c+1)).bind fun i43 =>
   (self.Kl b.2 a.Body i43).bind fun d =>
   if d.1≠0 then
       none
   else
       Xs a d.2
     else
   Xs a b.2
def pn (fu:Nat) (self:yn) (d:Int) (a:me) (b:Int):Option (Int×Int):=
 (jr d b).bind fun c =>
 if c.1≠0 then
 none
 else
 if a.Kind<1 then
   none
 else
   if (9:Int)<a.Kind then
  none
   else
  if a.Kind=1 then
     (Jl fu a.Name).bind fun e =>
     Oq fu self a b c (!e)
  else
     if a.Kind=2 then
   (Jl fu a.Name).bind fun f =>
   Oq fu self a b c (!f)
     else
   if a.Kind=7 then
       none
   else
       Oq fu self a b c false
def Ys:Nat→yn
 | 0=>⟨fun _ _ _=>none,fun _ _ _=>none⟩
 | n+1=>⟨Kl (Ys n),pn n (Ys n)⟩
def xt (fu:Nat) (a:Lb) (b:Int×Int):Option (Int×Int):=
 if a.Kind≠1 then
 ((Ys fu).Kl b.2 a.Body 2).bind fun c =>
 some (c.1,c.2)
 else
 if a.gh<1 then
   none
 else
   if (20:Int)<a.gh then
  none
   else
  some (0,b.2)
def yt (fu:Nat) (a:Lb) (b:Int×Int):Option (Int×Int):=
 if a.Kind≠4 then
 (rr a.we).bind fun c =>
 if c≠0 then
   none
 else
   xt fu a b
 else
 xt fu a b
def zt (fu:Nat) (a:Lb) (b:Int×Int):Option (Int×Int):=
 if a.Kind=3 then
 (rr a.ie).bind fun c =>
 if c≠0 then
   none
 else
   yt fu a b
 else
 yt fu a b
def At (fu:Nat) (a:Lb) (b:Int×Int):Nat→Int→Option (Int×Int)
 | 0,_=>none
 | n+1,i43 =>
 if i43<(a.Params.length:Int) then
   (at_ a.Params i43).bind fun c =>
   (Jl fu c.Name).bind fun d =>
   if d=true then
  (rr c.we).bind fun e =>
  if e≠0 then
     none
  else
     (i64 (i43+1)).bind fun i82 =>
     At fu a b n i82
   else
  none
 else
   zt fu a b
def Rx (fu:Nat)  (c:Int) (a:Lb):Option (Int×Int):=
 (jr c 1).bind fun b =>
 if b.1≠0 then
 none
 else
 if a.Kind<1 then
   none
 else
   if (4:Int)<a.Kind then
  none
   else
  (Jl fu a.Name).bind fun d =>
  if d=true then
     if a.Kind=2 then
   none
     else
   if a.Kind=3 then
       if (6:Int)<(a.Params.length:Int) then
    none
       else
    At fu a b (a.Params.length+1) 0
   else
       zt fu a b
  else
     none
def Ds (fu:Nat) (p_1:List Lb):Nat→Int→Int→Option Af
 | 0,_,_=>none
 | n+1,i28,i29 =>
 if i28<(p_1.length:Int) then
   (at_ p_1 i28).bind fun b =>
   (Rx fu i29 b).bind fun a =>
   if a.1≠0 then
  none
   else
  (i64 (i28+1)).bind fun i69 =>
  Ds fu p_1 n i69 a.2
 else
   some (Af.mk 0 0)
def Wt (fu:Nat)  (p_1:List Lb):Option Af :=
 if (30:Int)<(p_1.length:Int) then
 none
 else
 Ds fu p_1 (p_1.length+1) 0 0
end Go.Y
namespace Go.Y
open Go.vc Go.jd
def Bv  (a:List Vb) (c:Int) (d:Int):Option Int :=
 if (a.length:Int)=0 then
 none
 else
 (at_ a 0).bind fun b =>
 some b.xc
def Tl  (a:List Vb) (d:Int) (e:Int) (b:List UInt8):Option Bool :=
 if (0:Int)<(a.length:Int) then
 (at_ a 0).bind fun c =>
 some (decide (c.Text=b))
 else
 none
def Bg  (a:List Vb) (b:Int) (c:Int) (d:List UInt8):Option (Bool×List Vb×Int×Int):=
 (Tl a b c d).bind fun e =>
 if e=true then
 (cut a 1 a.length).bind fun f =>
 some (true,f,b,c)
 else
 some (false,a,b,c)
def Xt (b:List (List UInt8)):Nat→Int→(List Vb)→Int→Int→Option (List Vb×Int×Int)
 | 0,_,_,_,_=>none
 | n+1,i30,c,i35,i36 =>
 if i30<(b.length:Int) then
   (at_ b i30).bind fun d =>
   (Bg c i35 i36 d).bind fun a =>
   if a.1=true then
  (i64 (i30+1)).bind fun i71 =>
  Xt b n i71 a.2.1 a.2.2.1 a.2.2.2
   else
  none
 else
   some (c,i35,i36)
def Nj  (b:List Vb) (c:Int) (d:Int) (a:List (List UInt8)):Option (List Vb×Int×Int):=
 Xt a (a.length+1) 0 b c d
def ll (fu:Nat)  (a:List Vb) (c:Int) (d:Int):Option (List UInt8×List Vb×Int×Int):=
 if (a.length:Int)=0 then
 none
 else
 (at_ a 0).bind fun e =>
 if e.Kind≠1 then
   none
 else
   (at_ a 0).bind fun b =>
   (Jl fu b.Text).bind fun f =>
   if f=true then
  (cut a 1 a.length).bind fun g =>
  some (b.Text,g,c,d)
   else
  none
def uu  (a:List Vb) (b:Int) (c:Int):Option (Int×List Vb×Int×Int):=
 if (a.length:Int)=0 then
 none
 else
 (at_ a 0).bind fun d =>
 if d.Kind≠2 then
   none
 else
   (at_ a 0).bind fun e =>
   (cut a 1 a.length).bind fun f =>
   some (e.EC,f,b,c)
def pq  (c:List Vb) (d:Int) (e:Int):Option (uc×List Vb×Int×Int):=
 (Bg c d e [110,117,109]).bind fun a =>
 if a.1=true then
 some ((uc.mk 1 []),a.2.1,a.2.2.1,a.2.2.2)
 else
 (Bg a.2.1 a.2.2.1 a.2.2.2 [98,111,111,108]).bind fun b =>
 if b.1=true then
   some ((uc.mk 2 []),b.2.1,b.2.2.1,b.2.2.2)
 else
   none
def Zs (fu:Nat):Nat→(List Vb)→Int→Int→(List TParam)→Option (List TParam×List Vb×Int×Int)
 | 0,_,_,_,_=>none
 | n+1,e,i54,i55,c =>
 (Bg e i54 i55 [41]).bind fun a =>
 if a.1=true then
   some (c,a.2.1,a.2.2.1,a.2.2.2)
 else
   if (0:Int)<(c.length:Int) then
  none
   else
  if (c.length:Int)=6 then
     none
  else
     (ll fu a.2.1 a.2.2.1 a.2.2.2).bind fun d =>
     (pq d.2.1 d.2.2.1 d.2.2.2).bind fun b =>
     (app c [(TParam.mk d.1 (uc.mk b.1.Kind b.1.Oc))]).bind fun f =>
     Zs fu n b.2.1 b.2.2.1 b.2.2.2 f
def tx (fu:Nat)  (b:List Vb) (c:Int) (d:Int):Option (List TParam×List Vb×Int×Int):=
 (Nj b c d [[40]]).bind fun a =>
 Zs fu fu a.1 a.2.1 a.2.2 []
def ux  :Option (List Eh):=
 some [(Eh.mk (Ce ([]:List (List UInt8×Int)) [111,114] 18) false),(Eh.mk (Ce ([]:List (List UInt8×Int)) [97,110,100] 17) false),(Eh.mk (Ce (Ce (Ce (Ce (Ce (Ce ([]:List (List UInt8×Int)) [61,61] 11) [33,61] 12) [60] 13) [60,61] 14) [62] 15) [62,61] 16) true),(Eh.mk (Ce (Ce ([]:List (List UInt8×Int)) [43] 6) [45] 7) false),(Eh.mk (Ce (Ce (Ce ([]:List (List UInt8×Int)) [42] 8) [47] 9) [37] 10) false)]
def mq  (a:List Vb) (b:Int) (c:Int):Option (List Vb×Int×Int):=
 (i64 (c+1)).bind fun i14 =>
 if (200:Int)<i14 then
 none
 else
 some (a,b,i14)
def qq  (a:List Vb) (b:Int) (c:Int):Option (List Vb×Int×Int):=
 (i64 (c - 1)).bind fun i12 =>
 some (a,b,i12)
end Go.Y
namespace Go.Y
open Go.vc Go.jd
structure rj where
 Ui:(List Vb)→Int→Int→Option (Cb×List Vb×Int×Int)
 Ok:(List Vb)→Int→Int→Int→Option (Cb×List Vb×Int×Int)
 gk:(List Vb)→Int→Int→Option (Cb×List Vb×Int×Int)
 um:(List Vb)→Int→Int→Option (Cb×List Vb×Int×Int)
 Jn:(List Vb)→Int→Int→Option (List Cb×List Vb×Int×Int)
 Pk:(List Vb)→Int→Int→Int→Int→Option (Cb×List Vb×Int×Int)
def Ui (self:rj) (d:List Vb) (e:Int) (f:Int):Option (Cb×List Vb×Int×Int):=
 (mq d e f).bind fun b =>
 (self.Ok b.1 b.2.1 b.2.2 0).bind fun a =>
 (qq a.2.1 a.2.2.1 a.2.2.2).bind fun c =>
 some (a.1,c.1,c.2.1,c.2.2)
def Bt  (a:List Vb) (i50:Int) (i51:Int) (i52:Int) (i53:Int) (b:List UInt8) (c:List Cb):Option (Cb×List Vb×Int×Int):=
 some ((Cb.mk i52 i53 b c),a,i50,i51)
def Hw (e:Int) (f:List Eh) (a:Eh) (b:Vb) (g:(List Vb)→Int→Int→Int→Int→(List UInt8)→(List Cb)→Option (Cb×List Vb×Int×Int)) (c:List Vb) (i217:Int) (i218:Int) (d:List Cb):Option (Cb×List Vb×Int×Int):=
 (at_ f e).bind fun h =>
 if h.once=true then
 Bt c i217 i218 ((pf a.On b.Text).getD 0) 0 [] d
 else
 g c i217 i218 ((pf a.On b.Text).getD 0) 0 [] d
def Vq (self:rj) (b:Int) (d:List Eh):Nat→(List Vb)→Int→Int→Int→Int→(List UInt8)→(List Cb)→Option (Cb×List Vb×Int×Int)
 | 0,_,_,_,_,_,_,_=>none
 | n+1,a,i116,i117,i118,i119,e,f =>
 if (0:Int)<(a.length:Int) then
   (at_ d b).bind fun g =>
   (at_ a 0).bind fun h =>
   if ((pf g.On h.Text).getD 0)=0 then
  Bt a i116 i117 i118 i119 e f
   else
  (cut a 1 a.length).bind fun i =>
  (i64 (b+1)).bind fun i231 =>
  (self.Ok i i116 i117 i231).bind fun c =>
  Hw b d g h (Vq self b d n) c.2.1 c.2.2.1 c.2.2.2 [(Cb.mk i118 i119 e f),c.1]
 else
   none
def Ok (fu:Nat) (self:rj) (d:List Vb) (e:Int) (f:Int) (c:Int):Option (Cb×List Vb×Int×Int):=
 (ux ).bind fun g =>
 if c=(g.length:Int) then
 (self.gk d e f).bind fun b =>
 some (b.1,b.2.1,b.2.2.1,b.2.2.2)
 else
 (i64 (c+1)).bind fun i33 =>
 (self.Ok d e f i33).bind fun a =>
 Vq self c g fu a.2.1 a.2.2.1 a.2.2.2 a.1.Kind a.1.N a.1.Name a.1.Kids
def gk (self:rj) (j:List Vb) (k:Int) (l:Int):Option (Cb×List Vb×Int×Int):=
 (Bg j k l [45]).bind fun a =>
 if a.1=true then
 (mq a.2.1 a.2.2.1 a.2.2.2).bind fun f =>
 (self.gk f.1 f.2.1 f.2.2).bind fun c =>
 (qq c.2.1 c.2.2.1 c.2.2.2).bind fun g =>
 some ((Cb.mk 4 0 [] [c.1]),g.1,g.2.1,g.2.2)
 else
 (Bg a.2.1 a.2.2.1 a.2.2.2 [110,111,116]).bind fun b =>
 if b.1=true then
   (mq b.2.1 b.2.2.1 b.2.2.2).bind fun h =>
   (self.gk h.1 h.2.1 h.2.2).bind fun d =>
   (qq d.2.1 d.2.2.1 d.2.2.2).bind fun i =>
   some ((Cb.mk 5 0 [] [d.1]),i.1,i.2.1,i.2.2)
 else
   (self.um b.2.1 b.2.2.1 b.2.2.2).bind fun e =>
   some (e.1,e.2.1,e.2.2.1,e.2.2.2)
def um (fu:Nat) (self:rj) (h:List Vb) (t:Int) (u:Int):Option (Cb×List Vb×Int×Int):=
 if (0:Int)<(h.length:Int) then
 (at_ h 0).bind fun v =>
 if v.Kind=2 then
   (uu h t u).bind fun i =>
   some ((Cb.mk 1 i.1 [] ([]:List Cb)),i.2.1,i.2.2.1,i.2.2.2)
 else
   (Bg h t u [116,114,117,101]).bind fun a =>
   if a.1=true then
  some ((Cb.mk 2 1 [] ([]:List Cb)),a.2.1,a.2.2.1,a.2.2.2)
   else
  (Bg a.2.1 a.2.2.1 a.2.2.2 [102,97,108,115,101]).bind fun j =>
  if j.1=true then
     none
  else
     (Bg j.2.1 j.2.2.1 j.2.2.2 [40]).bind fun k =>
     if k.1=true then
   none
     else
   (Bg k.2.1 k.2.2.1 k.2.2.2 [114,101,99,118]).bind fun b =>
   if b.1=true then
       (Nj b.2.1 b.2.2.1 b.2.2.2 [[40]]).bind fun r =>
       (ll fu r.1 r.2.1 r.2.2).bind fun l =>
       (Nj l.2.1 l.2.2.1 l.2.2.2 [[41]]).bind fun s =>
       some ((Cb.mk 20 0 l.1 ([]:List Cb)),s.1,s.2.1,s.2.2)
   else
       (Bg b.2.1 b.2.2.1 b.2.2.2 [121,105,101,108,100]).bind fun c =>
       if c.1=true then
    (self.Pk c.2.1 c.2.2.1 c.2.2.2 21 1).bind fun m =>
    some (m.1,m.2.1,m.2.2.1,m.2.2.2)
       else
    (Bg c.2.1 c.2.2.1 c.2.2.2 [114,101,115,117,109,101]).bind fun d =>
    if d.1=true then
         (self.Pk d.2.1 d.2.2.1 d.2.2.2 23 2).bind fun n =>
         some (n.1,n.2.1,n.2.2.1,n.2.2.2)
    else
         (Bg d.2.1 d.2.2.1 d.2.2.2 [97,108,105,118,101]).bind fun e =>
         if e.1=true then
     (self.Pk e.2.1 e.2.2.1 e.2.2.2 24 1).bind fun o =>
     some (o.1,o.2.1,o.2.2.1,o.2.2.2)
         else
     (Bg e.2.1 e.2.2.1 e.2.2.2 [115,116,97,114,116]).bind fun f =>
     if f.1=true then
           (ll fu f.2.1 f.2.2.1 f.2.2.2).bind fun p =>
           (self.Jn p.2.1 p.2.2.1 p.2.2.2).bind fun q =>
           some ((Cb.mk 22 0 p.1 q.1),q.2.1,q.2.2.1,q.2.2.2)
     else
           (ll fu f.2.1 f.2.2.1 f.2.2.2).bind fun g =>
           (Tl g.2.1 g.2.2.1 g.2.2.2 [40]).bind fun w =>
           if w=true then
      none
           else
      some ((Cb.mk 3 0 g.1 ([]:List Cb)),g.2.1,g.2.2.1,g.2.2.2)
 else
 none
def Yt (self:rj):Nat→(List Vb)→Int→Int→(List Cb)→Option (List Cb×List Vb×Int×Int)
 | 0,_,_,_,_=>none
 | n+1,d,i51,i52,b =>
 (Bg d i51 i52 [41]).bind fun a =>
 if a.1=true then
   some (b,a.2.1,a.2.2.1,a.2.2.2)
 else
   if (0:Int)<(b.length:Int) then
  none
   else
  if (b.length:Int)=6 then
     none
  else
     (self.Ui a.2.1 a.2.2.1 a.2.2.2).bind fun c =>
     (app b [c.1]).bind fun e =>
     Yt self n c.2.1 c.2.2.1 c.2.2.2 e
def Jn (fu:Nat) (self:rj) (b:List Vb) (c:Int) (d:Int):Option (List Cb×List Vb×Int×Int):=
 (Nj b c d [[40]]).bind fun a =>
 Yt self fu a.1 a.2.1 a.2.2 []
def Iw (i63:Int) (a:Int→(List Vb)→Int→Int→(List Cb)→Option (Cb×List Vb×Int×Int)) (b:List Vb) (i135:Int) (i136:Int) (c:List Cb):Option (Cb×List Vb×Int×Int):=
 (i64 (i63+1)).bind fun i177 =>
 a i177 b i135 i136 c
def Ct (self:rj) (i63:Int) (b:List Cb) (c:Int→(List Vb)→Int→Int→(List Cb)→Option (Cb×List Vb×Int×Int)) (d:List Vb) (i116:Int) (i117:Int):Option (Cb×List Vb×Int×Int):=
 (self.Ui d i116 i117).bind fun a =>
 (app b [a.1]).bind fun e =>
 Iw i63 c a.2.1 a.2.2.1 a.2.2.2 e
def so (self:rj) (a:Int) (b:Int):Nat→Int→(List Vb)→Int→Int→(List Cb)→Option (Cb×List Vb×Int×Int)
 | 0,_,_,_,_,_=>none
 | n+1,i63,c,i68,i69,d =>
 if i63<b then
   if (0:Int)<i63 then
  (Nj c i68 i69 [[44]]).bind fun e =>
  Ct self i63 d (so self a b n) e.1 e.2.1 e.2.2
   else
  Ct self i63 d (so self a b n) c i68 i69
 else
   (Nj c i68 i69 [[41]]).bind fun f =>
   some ((Cb.mk a 0 [] d),f.1,f.2.1,f.2.2)
def Pk (self:rj) (c:List Vb) (d:Int) (e:Int) (f:Int) (b:Int):Option (Cb×List Vb×Int×Int):=
 (Nj c d e [[40]]).bind fun a =>
 so self f b ((b - 0).toNat+1) 0 a.1 a.2.1 a.2.2 []
def Lk:Nat→rj
 | 0=>⟨fun _ _ _=>none,fun _ _ _ _=>none,fun _ _ _=>none,fun _ _ _=>none,fun _ _ _=>none,fun _ _ _ _ _=>none⟩
 | n+1=>⟨Ui (Lk n),Ok n (Lk n),gk (Lk n),um n (Lk n),Jn n (Lk n),Pk (Lk n)⟩
structure Vo where
 Qk:(List Vb)→Int→Int→Option (List me×List Vb×Int×Int)
 Kn:(List Vb)→Int→Int→Option (me×List Vb×Int×Int)
def Zt (self:Vo):Nat→(List Vb)→Int→Int→(List me)→Option (List me×List Vb×Int×Int)
 | 0,_,_,_,_=>none
 | n+1,e,i65,i66,c =>
 (Bg e i65 i66 [125]).bind fun a =>
 if a.1=true then
   (qq a.2.1 a.2.2.1 a.2.2.2).bind fun d =>
   some (c,d.1,d.2.1,d.2.2)
 else
   if (c.length:Int)=50 then
  none
   else
  (self.Kn a.2.1 a.2.2.1 a.2.2.2).bind fun b =>
  (app c [b.1]).bind fun f =>
  Zt self n b.2.1 b.2.2.1 b.2.2.2 f
def Qk (fu:Nat) (self:Vo) (c:List Vb) (d:Int) (e:Int):Option (List me×List Vb×Int×Int):=
 (mq c d e).bind fun a =>
 (Nj a.1 a.2.1 a.2.2 [[123]]).bind fun b =>
 Zt self fu b.1 b.2.1 b.2.2 []
def Ip  (b:List Vb) (i28:Int) (i29:Int) (i30:Int) (c:List UInt8) (i33:Int) (i34:Int) (d:List UInt8) (e:List Cb):Option (me×List Vb×Int×Int):=
 (Nj b i28 i29 [[59]]).bind fun a =>
 some ((me.mk i30 c (Cb.mk i33 i34 d e) ([]:List me) ([]:List me)),a.1,a.2.1,a.2.2)
def Kn (fu:Nat) (self:Vo) (s:List Vb) (t:Int) (u:Int):Option (me×List Vb×Int×Int):=
 (Bg s t u [105,102]).bind fun j =>
 if j.1=true then
 none
 else
 (Bg j.2.1 j.2.2.1 j.2.2.2 [119,104,105,108,101]).bind fun a =>
 if a.1=true then
   ((Lk fu).Ui a.2.1 a.2.2.1 a.2.2.2).bind fun b =>
   (self.Qk b.2.1 b.2.2.1 b.2.2.2).bind fun k =>
   some ((me.mk 4 [] (Cb.mk b.1.Kind b.1.N b.1.Name b.1.Kids) k.1 ([]:List me)),k.2.1,k.2.2.1,k.2.2.2)
 else
   (Bg a.2.1 a.2.2.1 a.2.2.2 [108,101,116]).bind fun c =>
   if c.1=true then
  (ll fu c.2.1 c.2.2.1 c.2.2.2).bind fun l =>
  (Nj l.2.1 l.2.2.1 l.2.2.2 [[61]]).bind fun q =>
  ((Lk fu).Ui q.1 q.2.1 q.2.2).bind fun d =>
  Ip d.2.1 d.2.2.1 d.2.2.2 1 l.1 d.1.Kind d.1.N d.1.Name d.1.Kids
   else
  (Bg c.2.1 c.2.2.1 c.2.2.2 [114,101,116,117,114,110]).bind fun m =>
  if m.1=true then
     none
  else
     (Bg m.2.1 m.2.2.1 m.2.2.2 [115,116,111,112]).bind fun n =>
     if n.1=true then
   none
     else
   (Bg n.2.1 n.2.2.1 n.2.2.2 [115,101,110,100]).bind fun o =>
   if o.1=true then
       none
   else
       (Bg o.2.1 o.2.2.1 o.2.2.2 [111,117,116]).bind fun e =>
       if e.1=true then
    ((Lk fu).Ui e.2.1 e.2.2.1 e.2.2.2).bind fun f =>
    Ip f.2.1 f.2.2.1 f.2.2.2 8 [] f.1.Kind f.1.N f.1.Name f.1.Kids
       else
    (Bg e.2.1 e.2.2.1 e.2.2.2 [100,111]).bind fun g =>
    if g.1=true then
         ((Lk fu).Ui g.2.1 g.2.2.1 g.2.2.2).bind fun h =>
         Ip h.2.1 h.2.2.1 h.2.2.2 9 [] h.1.Kind h.1.N h.1.Name h.1.Kids
    else
         (ll fu g.2.1 g.2.2.1 g.2.2.2).bind fun p =>
         (Nj p.2.1 p.2.2.1 p.2.2.2 [[61]]).bind fun r =>
         ((Lk fu).Ui r.1 r.2.1 r.2.2).bind fun i =>
         Ip i.2.1 i.2.2.1 i.2.2.2 2 p.1 i.1.Kind i.1.N i.1.Name i.1.Kids
def kr:Nat→Vo
 | 0=>⟨fun _ _ _=>none,fun _ _ _=>none⟩
 | n+1=>⟨Qk n (kr n),Kn n (kr n)⟩
def Dy (fu:Nat)  (r:List Vb) (s:Int) (t:Int):Option (Lb×List Vb×Int×Int):=
 (Bv r s t).bind fun u =>
 (Bg r s t [98,111,120]).bind fun b =>
 if b.1=true then
 (ll fu b.2.1 b.2.2.1 b.2.2.2).bind fun g =>
 (pq g.2.1 g.2.2.1 g.2.2.2).bind fun a =>
 (Bv a.2.1 a.2.2.1 a.2.2.2).bind fun v =>
 (uu a.2.1 a.2.2.1 a.2.2.2).bind fun d =>
 if d.1<1 then
   none
 else
   if (20:Int)<d.1 then
  none
   else
  (Nj d.2.1 d.2.2.1 d.2.2.2 [[59]]).bind fun o =>
  some ((Lb.mk 1 g.1 (uc.mk a.1.Kind a.1.Oc) (uc.mk 0 []) d.1 ([]:List TParam) ([]:List me)),o.1,o.2.1,o.2.2)
 else
 (Bg b.2.1 b.2.2.1 b.2.2.2 [102,110]).bind fun h =>
 if h.1=true then
   none
 else
   (Bg h.2.1 h.2.2.1 h.2.2.2 [103,101,110]).bind fun c =>
   if c.1=true then
  (ll fu c.2.1 c.2.2.1 c.2.2.2).bind fun i =>
  (tx fu i.2.1 i.2.2.1 i.2.2.2).bind fun j =>
  (Nj j.2.1 j.2.2.1 j.2.2.2 [[116,97,107,101,115]]).bind fun p =>
  (pq p.1 p.2.1 p.2.2).bind fun e =>
  (Nj e.2.1 e.2.2.1 e.2.2.2 [[121,105,101,108,100,115]]).bind fun q =>
  (pq q.1 q.2.1 q.2.2).bind fun f =>
  ((kr fu).Qk f.2.1 f.2.2.1 f.2.2.2).bind fun k =>
  some ((Lb.mk 3 i.1 (uc.mk f.1.Kind f.1.Oc) (uc.mk e.1.Kind e.1.Oc) 0 j.1 k.1),k.2.1,k.2.2.1,k.2.2.2)
   else
  (Bg c.2.1 c.2.2.1 c.2.2.2 [116,97,115,107]).bind fun l =>
  if l.1=true then
     (ll fu l.2.1 l.2.2.1 l.2.2.2).bind fun m =>
     ((kr fu).Qk m.2.1 m.2.2.1 m.2.2.2).bind fun n =>
     some ((Lb.mk 4 m.1 (uc.mk 0 []) (uc.mk 0 []) 0 ([]:List TParam) n.1),n.2.1,n.2.2.1,n.2.2.2)
  else
     none
end Go.Y
namespace Go.Y
open Go.vc Go.jd
theorem bG {α:Type}{l:List Vb}{e d:Int}{k1 b:List UInt8}(m:¬ k1=b){A B C:Bool×List Vb×Int×Int→Option α}{r:α}
 (h:(Option.bind (Bg l e d k1) fun x=>if x.1=true then A x else Option.bind (Bg x.2.1 x.2.2.1 x.2.2.2 b) fun y=>if y.1=true then B y else C y)=some r) :
 (Option.bind (Bg l e d b) fun y=>if y.1=true then B y else Option.bind (Bg y.2.1 y.2.2.1 y.2.2.2 k1) fun x=>if x.1=true then A x else C x)=some r:=by
 have key:∀ k,(Tl l e d k=some false∧Bg l e d k=some (false,l,e,d))∨(∃ t a,l=t::a∧t.Text=k∧Bg l e d k=some (true,a,e,d)):=by
  intro k;cases l with
  | nil=>first | (left; simp [Tl,Bg]; done) | (exfalso; simp [Tl,Bg] at h)
  | cons t a =>
   by_cases c:t.Text=k
   ·right
    refine ⟨t,a,rfl,c,?_⟩;have f:(0:Int)<((a.length+1:Nat):Int):=by omega
    have n:(1:Int)≤((a.length+1:Nat):Int):=by omega
    have hc:cut (t::a) 1 ((t::a).length)=some a:=by
     unfold cut;rw [if_pos ⟨by omega,by simpa using n,by simp⟩];simp
    have o:Tl (t::a) e d k=some true:=by
     unfold Tl;rw [if_pos (by simp)];simp [at_,c]
    unfold Bg;rw [o,Option.bind_some];simp only [if_true];rw [hc];rfl
   ·left
    have f:(0:Int)<((a.length+1:Nat):Int):=by omega
    simp [Bg,Tl,at_,c,f]
 rcases key k1 with ⟨s1,i1⟩ | ⟨t,a,g,i,i1⟩
 ·rw [i1,Option.bind_some] at h
  simp only [Bool.false_eq_true,if_false] at h;rcases key b with ⟨s2,i2⟩ | ⟨t,a,g,i,i2⟩
  ·rw [i2,Option.bind_some] at h ⊢
   simp only [Bool.false_eq_true,if_false] at h ⊢;rw [i1,Option.bind_some];simpa using h
  ·rw [i2,Option.bind_some] at h ⊢
   simp only [if_true] at h ⊢;exact h
 ·rw [i1,Option.bind_some] at h
  simp only [if_true] at h;rcases key b with ⟨s2,i2⟩ | ⟨t2,q,j,p,i2⟩
  ·rw [i2,Option.bind_some]
   simp only [Bool.false_eq_true,if_false];rw [i1,Option.bind_some];simpa using h
  ·rw [g] at j
   obtain ⟨rfl,rfl⟩:=List.cons.inj j;exact absurd (i.symm.trans p) m
end Go.Y
namespace Go.Y
open Go.vc Go.jd
def QB:Option Unit:=some ()
def pw (a:(List Vb)→Int→Int→(List Lb)→Option (List Lb×Af)) (b:List Vb) (i75:Int) (i76:Int) (c:List Lb):Option (List Lb×Af):=
 a b i75 i76 c
def qw (a:List Vb×Af) (b:List Lb):Option (List Lb×Af):=
 (QB ).bind fun c =>
 some (b,a.2)
def Pq (fu:Nat) (c:List Vb×Af):Nat→(List Vb)→Int→Int→(List Lb)→Option (List Lb×Af)
 | 0,_,_,_,_=>none
 | n+1,d,i41,i42,a =>
 if (0:Int)<(d.length:Int) then
   if (a.length:Int)=30 then
  none
   else
  (Dy fu d i41 i42).bind fun b =>
  (app a [b.1]).bind fun e =>
  pw (Pq fu c n) b.2.1 b.2.2.1 b.2.2.2 e
 else
   (Wt fu a).bind fun f =>
   if f.Wh≠0 then
  none
   else
  qw c a
def vx (fu:Nat)  (p_1:List UInt8):Option (List Lb×Af):=
 (Gw fu p_1).bind fun a =>
 if a.2.Wh≠0 then
 none
 else
 Pq fu a fu a.1 (p_1.length:Int) 0 []
end Go.Y
namespace Go.Y
open Go.vc Go.jd
def qm  (p_1:uc):Option Bool :=
 some (decide (p_1.Kind≠3))
def au  (p_1:Xe) (b:Int) (a:List UInt8):Option (Option Lb×Bool):=
 if (pf p_1.named a).isSome=true then
 ((pf p_1.named a)).bind fun c =>
 some ((pf p_1.named a),decide (c.Kind=b))
 else
 none
def wx  (p_1:Xe) (a:uc):Option Int :=
 (qm a).bind fun b =>
 if b=true then
 some 0
 else
 none
def zo  (p_1:uc):Option uc :=
 (qm p_1).bind fun a =>
 if a=true then
 some (uc.mk p_1.Kind [])
 else
 none
def Fo  :Option uc :=
 some (uc.mk 1 [])
def lp  :Option uc :=
 some (uc.mk 2 [])
def Es (a:List UInt8) (b:List (List (List UInt8×uc))):Nat→Int→Option (uc×Bool)
 | 0,_=>none
 | n+1,i48 =>
 if (0:Int)≤i48 then
   (at_ b i48).bind fun c =>
   if (pf c a).isSome=true then
  some (((pf c a).getD (uc.mk 0 [])),true)
   else
  (i64 (i48 - 1)).bind fun i88 =>
  Es a b n i88
 else
   some ((uc.mk 0 []),false)
def ar (fu:Nat)  (c:Xe) (d:Lb) (a:List (List (List UInt8×uc))) (b:List UInt8):Option (uc×Bool):=
 (i64 ((a.length:Int) - 1)).bind fun i27 =>
 Es b a fu i27
structure nk where
 mf:Xe→Lb→(List (List (List UInt8×uc)))→Cb→uc→Option Int
 kn:Xe→Lb→(List (List (List UInt8×uc)))→Cb→Int→Option (Option Lb×Int)
 El:Xe→Lb→(List (List (List UInt8×uc)))→Cb→Option (Option Lb×Int)
 Mj:Xe→Lb→(List (List (List UInt8×uc)))→Cb→Option (uc×Int)
def mf (self:nk) (c:Xe) (d:Lb) (e:List (List (List UInt8×uc))) (f:Cb) (g:uc):Option Int :=
 (self.Mj c d e f).bind fun a =>
 if a.2=0 then
 (zo g).bind fun b =>
 if (Yl [(decide (a.1.Kind=b.Kind)),(decide (a.1.Oc=b.Oc))])=true then
   some a.2
 else
   none
 else
 none
def Fs (self:nk) (b:Cb) (c:Xe) (d:Lb) (e:List (List (List UInt8×uc))) (f:Option Lb×Bool) (a:Lb):Nat→Int→Option (Option Lb×Int)
 | 0,_=>none
 | n+1,i104 =>
 if i104<(a.Params.length:Int) then
   (at_ a.Params i104).bind fun g =>
   (at_ b.Kids i104).bind fun h =>
   (self.mf c d e h g.we).bind fun i =>
   if i≠0 then
  none
   else
  (i64 (i104+1)).bind fun i158 =>
  Fs self b c d e f a n i158
 else
   some (f.1,0)
def Zv (self:nk) (c:Cb) (d:Xe) (e:Lb) (f:List (List (List UInt8×uc))) (a:Option Lb×Bool) (g:Bool):Option (Option Lb×Int):=
 if g=true then
 none
 else
 (a.1).bind fun b =>
 Fs self c d e f a b (b.Params.length+1) 0
def kn (self:nk) (c:Xe) (d:Lb) (e:List (List (List UInt8×uc))) (a:Cb) (f:Int):Option (Option Lb×Int):=
 (au c f a.Name).bind fun b =>
 if b.2=true then
 (b.1).bind fun g =>
 Zv self a c d e b (decide ((g.Params.length:Int)≠(a.Kids.length:Int)))
 else
 none
def El (self:nk) (b:Xe) (c:Lb) (d:List (List (List UInt8×uc))) (e:Cb):Option (Option Lb×Int):=
 (self.Mj b c d e).bind fun a =>
 if a.2≠0 then
 none
 else
 (qm a.1).bind fun f =>
 if f=true then
   none
 else
   some ((pf b.named a.1.Oc),0)
def aw  (i49:Int) (i50:Int) (a:List UInt8):Option (uc×Int):=
 some ((uc.mk i50 a),i49)
def bw  (i125:Int) (i126:Int) (a:List UInt8):Option (uc×Int):=
 some ((uc.mk i126 a),i125)
def cw  (a:Int) (b:Int) (c:List UInt8):Option (uc×Int):=
 some ((uc.mk b c),a)
def Gs (self:nk) (a:Cb) (c:Xe) (d:Lb) (e:List (List (List UInt8×uc))) (f:uc) (g:Int) (h:List UInt8):Nat→Int→Option (uc×Int)
 | 0,_=>none
 | n+1,b =>
 if b<(a.Kids.length:Int) then
   (at_ a.Kids b).bind fun i =>
   (self.mf c d e i f).bind fun j =>
   if j≠0 then
  none
   else
  (i64 (b+1)).bind fun k =>
  Gs self a c d e f g h n k
 else
   some ((uc.mk g h),0)
def Hs (self:nk) (a:Cb) (b:Xe) (c:Lb) (d:List (List (List UInt8×uc))) (e:uc) (f:Int) (g:List UInt8):Option (uc×Int):=
 Gs self a b c d e f g (a.Kids.length+1) 0
def Mj (fu:Nat) (self:nk) (c:Xe) (b:Lb) (d:List (List (List UInt8×uc))) (a:Cb):Option (uc×Int):=
 if a.Kind=1 then
 (Fo ).bind fun o =>
 some (o,0)
 else
 if a.Kind=2 then
   (lp ).bind fun p =>
   some (p,0)
 else
   if a.Kind=3 then
  (ar fu c b d a.Name).bind fun e =>
  if e.2=true then
     some (e.1,0)
  else
     none
   else
  if a.Kind=4 then
     (Fo ).bind fun f =>
     (at_ a.Kids 0).bind fun q =>
     (Fo ).bind fun r =>
     (self.mf c b d q r).bind fun s =>
     aw s f.Kind f.Oc
  else
     if a.Kind=5 then
   none
     else
   if a.Kind=11 then
       none
   else
       if a.Kind=12 then
    none
       else
    if a.Kind=19 then
         none
    else
         if a.Kind=20 then
     (au c 1 a.Name).bind fun g =>
     if g.2=true then
           (g.1).bind fun t =>
           (zo t.we).bind fun u =>
           some (u,0)
     else
           none
         else
     if a.Kind=21 then
           if b.Kind≠3 then
      none
           else
      (zo b.ie).bind fun h =>
      (at_ a.Kids 0).bind fun v =>
      (self.mf c b d v b.we).bind fun w =>
      bw w h.Kind h.Oc
     else
           if a.Kind=22 then
      (self.kn c b d a 3).bind fun x =>
      some ((uc.mk 3 a.Name),x.2)
           else
      if a.Kind=23 then
             (at_ a.Kids 0).bind fun y =>
             (self.El c b d y).bind fun i =>
             if i.2≠0 then
       none
             else
       (i.1).bind fun j =>
       (zo j.we).bind fun k =>
       (at_ a.Kids 1).bind fun z =>
       (self.mf c b d z j.ie).bind fun A =>
       cw A k.Kind k.Oc
      else
             if a.Kind=24 then
       (at_ a.Kids 0).bind fun B =>
       (self.El c b d B).bind fun C =>
       (lp ).bind fun D =>
       some (D,C.2)
             else
       (Fo ).bind fun l =>
       (Fo ).bind fun m =>
       if (17:Int)≤a.Kind then
               none
       else
               if (13:Int)≤a.Kind then
        (lp ).bind fun n =>
        Hs self a c b d l n.Kind n.Oc
               else
        Hs self a c b d l m.Kind m.Oc
def Ll:Nat→nk
 | 0=>⟨fun _ _ _ _ _=>none,fun _ _ _ _ _=>none,fun _ _ _ _=>none,fun _ _ _ _=>none⟩
 | n+1=>⟨mf (Ll n),kn (Ll n),El (Ll n),Mj n (Ll n)⟩
end Go.Y
namespace Go.Y
open Go.vc Go.jd
def sw  (a:List (List (List UInt8×uc))):Option (List (List (List UInt8×uc))):=
 some a
def yx  (c:Xe) (d:Lb) (a:List (List (List UInt8×uc))):Option (List (List (List UInt8×uc))):=
 (i64 ((a.length:Int) - 1)).bind fun i33 =>
 (cut a 0 i33).bind fun b =>
 sw b
structure Pn where
 Gl:Xe→Lb→(List (List (List UInt8×uc)))→(List me)→Option (Int×List (List (List UInt8×uc)))
 ln:Xe→Lb→(List (List (List UInt8×uc)))→me→Option (Int×List (List (List UInt8×uc)))
def ss (self:Pn) (a:List me) (b:Xe) (c:Lb):Nat→Int→(List (List (List UInt8×uc)))→Option (Int×List (List (List UInt8×uc)))
 | 0,_,_=>none
 | n+1,i74,d =>
 if i74<(a.length:Int) then
   (at_ a i74).bind fun f =>
   (self.ln b c d f).bind fun e =>
   if e.1≠0 then
  none
   else
  (i64 (i74+1)).bind fun i131 =>
  ss self a b c n i131 e.2
 else
   (yx b c d).bind fun g =>
   some (0,g)
def Tv (self:Pn) (a:List me) (b:Xe) (c:Lb) (d:List (List (List UInt8×uc))):Option (Int×List (List (List UInt8×uc))):=
 ss self a b c (a.length+1) 0 d
def Gl (self:Pn) (a:Xe) (b:Lb) (c:List (List (List UInt8×uc))) (d:List me):Option (Int×List (List (List UInt8×uc))):=
 (app c [[]]).bind fun e =>
 Tv self d a b e
def ln (fu:Nat) (self:Pn) (c:Xe) (d:Lb) (b:List (List (List UInt8×uc))) (a:me):Option (Int×List (List (List UInt8×uc))):=
 if a.Kind=1 then
 ((Ll fu).Mj c d b a.X).bind fun g =>
 if g.2≠0 then
   none
 else
   (ar fu c d b a.Name).bind fun i =>
   if i.2=true then
  none
   else
  (i64 ((b.length:Int) - 1)).bind fun i53 =>
  (at_ b i53).bind fun j =>
  some (0,(b.set i53.toNat (Ce j a.Name g.1)))
 else
 if a.Kind=2 then
   (ar fu c d b a.Name).bind fun h =>
   if h.2=true then
  ((Ll fu).mf c d b a.X h.1).bind fun k =>
  some (k,b)
   else
  none
 else
   if a.Kind=3 then
  none
   else
  if a.Kind=4 then
     (lp ).bind fun l =>
     ((Ll fu).mf c d b a.X l).bind fun m =>
     if m≠0 then
   none
     else
   (self.Gl c d b a.Body).bind fun e =>
   if e.1≠0 then
       none
   else
       if a.Kind=4 then
    some (e.1,e.2)
       else
    none
  else
     if a.Kind=5 then
   none
     else
   if a.Kind=6 then
       none
   else
       if a.Kind=7 then
    none
       else
    if a.Kind=8 then
         ((Ll fu).Mj c d b a.X).bind fun f =>
         if f.2=0 then
     (qm f.1).bind fun n =>
     if n=true then
           some (f.2,b)
     else
           none
         else
     none
    else
         if a.Kind=9 then
     ((Ll fu).Mj c d b a.X).bind fun o =>
     some (o.2,b)
         else
     none
def bu:Nat→Pn
 | 0=>⟨fun _ _ _ _=>none,fun _ _ _ _=>none⟩
 | n+1=>⟨Gl (bu n),ln n (bu n)⟩
def np  (a:Bool):Option Int :=
 if a=true then
 none
 else
 some 0
def Is (a:Lb):Option Int :=
 if a.Kind=3 then
 (qm a.ie).bind fun b =>
 if b=true then
   if a.Kind≠4 then
  (qm a.we).bind fun c =>
  np (!c)
   else
  np false
 else
   none
 else
 if a.Kind≠4 then
   (qm a.we).bind fun d =>
   np (!d)
 else
   np false
def Js (p_1:Xe) (b:Lb):Nat→Int→(List (List UInt8×Int))→Option Int
 | 0,_,_=>none
 | n+1,i46,c =>
 if i46<(b.Params.length:Int) then
   (at_ b.Params i46).bind fun a =>
   (i64 (((pf c a.Name).getD 0)+1)).bind fun i90 =>
   if (1:Int)<((pf (Ce c a.Name i90) a.Name).getD 0) then
  none
   else
  (wx p_1 a.we).bind fun d =>
  if d≠0 then
     none
  else
     (i64 (i46+1)).bind fun i102 =>
     Js p_1 b n i102 (Ce c a.Name i90)
 else
   Is b
def Ww  (p_1:Xe) (a:Lb):Option Int :=
 if a.Kind=2 then
 none
 else
 if a.Kind=3 then
   Js p_1 a (a.Params.length+1) 0 ([]:List (List UInt8×Int))
 else
   Is a
def Ks (fu:Nat) (p_1:Xe) (a:Lb) (b:List (List (List UInt8×uc))):Option Int :=
 ((bu fu).Gl p_1 a b a.Body).bind fun c =>
 some c.1
def dw (i63:Int) (a:Int→(List (List (List UInt8×uc)))→Option Int) (b:List (List (List UInt8×uc))):Option Int :=
 (i64 (i63+1)).bind fun i202 =>
 a i202 b
def Kq (fu:Nat) (p_1:Xe) (a:Lb):Nat→Int→(List (List (List UInt8×uc)))→Option Int
 | 0,_,_=>none
 | n+1,i63,b =>
 if i63<(a.Params.length:Int) then
   (at_ a.Params i63).bind fun c =>
   (at_ b 0).bind fun d =>
   (zo c.we).bind fun e =>
   dw i63 (Kq fu p_1 a n) (b.set (0:Int).toNat (Ce d c.Name e))
 else
   Ks fu p_1 a b
def Xw (fu:Nat)  (p_1:Xe) (a:Lb):Option Int :=
 if a.Kind=1 then
 some 0
 else
 if a.Kind≠4 then
   Kq fu p_1 a (a.Params.length+1) 0 [([]:List (List UInt8×uc))]
 else
   Ks fu p_1 a [([]:List (List UInt8×uc))]
def ts (fu:Nat) (p_1:List Lb) (a:List (List UInt8×Lb)):Nat→Int→Option (Xe×Af)
 | 0,_=>none
 | n+1,i317 =>
 if i317<(p_1.length:Int) then
   (at_ p_1 i317).bind fun b =>
   (Xw fu (Xe.mk p_1 a) b).bind fun c =>
   if c≠0 then
  none
   else
  (i64 (i317+1)).bind fun d =>
  ts fu p_1 a n d
 else
   some ((Xe.mk p_1 a),(Af.mk 0 0))
def zs (fu:Nat) (p_1:List Lb) (a:List (List UInt8×Lb)):Nat→Int→Option (Xe×Af)
 | 0,_=>none
 | n+1,i258 =>
 if i258<(p_1.length:Int) then
   (at_ p_1 i258).bind fun b =>
   (Ww (Xe.mk p_1 a) b).bind fun c =>
   if c≠0 then
  none
   else
  (i64 (i258+1)).bind fun i298 =>
  zs fu p_1 a n i298
 else
   ts fu p_1 a (p_1.length+1) 0
def Iq (fu:Nat) (p_1:List Lb):Nat→Int→Int→(List (List UInt8×Lb))→Option (Xe×Af)
 | 0,_,_,_=>none
 | n+1,i90,i91,a =>
 if i91<(p_1.length:Int) then
   (at_ p_1 i91).bind fun d =>
   if (pf a d.Name).isSome=true then
  none
   else
  (at_ p_1 i91).bind fun b =>
  (at_ p_1 i91).bind fun c =>
  (at_ p_1 i91).bind fun e =>
  if e.Kind=4 then
     (i64 (i90+1)).bind fun i228 =>
     (i64 (i91+1)).bind fun i230 =>
     Iq fu p_1 n i228 i230 (Ce a b.Name c)
  else
     (i64 (i91+1)).bind fun i232 =>
     Iq fu p_1 n i90 i232 (Ce a b.Name c)
 else
   if i90=0 then
  none
   else
  zs fu p_1 a (p_1.length+1) 0
def Jw (fu:Nat)  (p_1:List Lb):Option (Xe×Af):=
 (Wt fu p_1).bind fun a =>
 if a.Wh≠0 then
 none
 else
 Iq fu p_1 (p_1.length+1) 0 0 ([]:List (List UInt8×Lb))
end Go.Y
namespace Go.Y
open Go.vc Go.jd
structure Qn where
 Ml:(List (List UInt8))→(List (List UInt8))→(List (List UInt8))→Cb→Option (List (List UInt8)×List (List UInt8)×List (List UInt8))
def Ls (self:Qn) (a:Cb):Nat→Int→(List (List UInt8))→(List (List UInt8))→(List (List UInt8))→Option (List (List UInt8)×List (List UInt8)×List (List UInt8))
 | 0,_,_,_,_=>none
 | n+1,i104,c,d,e =>
 if i104<(a.Kids.length:Int) then
   (at_ a.Kids i104).bind fun f =>
   (self.Ml c d e f).bind fun b =>
   (i64 (i104+1)).bind fun i170 =>
   Ls self a n i170 b.1 b.2.1 b.2.2
 else
   some (c,d,e)
def Lq (self:Qn) (a:Cb) (b:List (List UInt8)) (c:List (List UInt8)) (d:List (List UInt8)):Option (List (List UInt8)×List (List UInt8)×List (List UInt8)):=
 Ls self a (a.Kids.length+1) 0 c b d
def ew (self:Qn) (a:Cb) (b:List (List UInt8)) (c:List (List UInt8)) (d:List (List UInt8)):Option (List (List UInt8)×List (List UInt8)×List (List UInt8)):=
 Lq self a b d c
def fw (self:Qn) (a:List (List UInt8)) (b:Cb) (c:List (List UInt8)) (d:List (List UInt8)):Option (List (List UInt8)×List (List UInt8)×List (List UInt8)):=
 Lq self b c a d
def Ml (self:Qn) (b:List (List UInt8)) (c:List (List UInt8)) (d:List (List UInt8)) (a:Cb):Option (List (List UInt8)×List (List UInt8)×List (List UInt8)):=
 if a.Kind=19 then
 none
 else
 if a.Kind=22 then
   (app b [a.Name]).bind fun e =>
   ew self a c d e
 else
   if a.Kind=20 then
  (app d [a.Name]).bind fun f =>
  fw self b a c f
   else
  Lq self a c b d
def Yw:Nat→Qn
 | 0=>⟨fun _ _ _ _=>none⟩
 | n+1=>⟨Ml (Yw n)⟩
structure Kr where
 Hl:(List (List UInt8))→(List (List UInt8))→(List (List UInt8))→(List me)→Option (List (List UInt8)×List (List UInt8)×List (List UInt8))
def As (i82:Int) (a:me) (b:Int→(List (List UInt8))→(List (List UInt8))→(List (List UInt8))→Option (List (List UInt8)×List (List UInt8)×List (List UInt8))) (c:List (List UInt8)) (d:List (List UInt8)) (e:List (List UInt8)):Option (List (List UInt8)×List (List UInt8)×List (List UInt8)):=
 if a.Kind=3 then
 none
 else
 (i64 (i82+1)).bind fun i218 =>
 b i218 c d e
def hp (fu:Nat) (self:Kr) (c:List me):Nat→Int→(List (List UInt8))→(List (List UInt8))→(List (List UInt8))→Option (List (List UInt8)×List (List UInt8)×List (List UInt8))
 | 0,_,_,_,_=>none
 | n+1,i82,e,f,g =>
 if i82<(c.length:Int) then
   (at_ c i82).bind fun a =>
   if a.Kind=7 then
  none
   else
  if a.Kind≠6 then
     ((Yw fu).Ml e f g a.X).bind fun b =>
     if a.Kind=3 then
   none
     else
   if a.Kind=4 then
       (self.Hl b.1 b.2.1 b.2.2 a.Body).bind fun d =>
       As i82 a (hp fu self c n) d.1 d.2.1 d.2.2
   else
       As i82 a (hp fu self c n) b.1 b.2.1 b.2.2
  else
     none
 else
   some (e,f,g)
def Hl (fu:Nat) (self:Kr) (b:List (List UInt8)) (c:List (List UInt8)) (d:List (List UInt8)) (a:List me):Option (List (List UInt8)×List (List UInt8)×List (List UInt8)):=
 hp fu self a (a.length+1) 0 b c d
def Zw:Nat→Kr
 | 0=>⟨fun _ _ _ _=>none⟩
 | n+1=>⟨Hl n (Zw n)⟩
def Jq (p_1:Xe) (a:List (List UInt8)×List (List UInt8)×List (List UInt8)) (d:List (List UInt8)) (e:List (List UInt8)) (f:(List (List UInt8))→(List (Option Lb))→(List (List UInt8))→(List (List UInt8))→Option Ig):Nat→Int→(List (List UInt8))→(List (Option Lb))→Option Ig
 | 0,_,_,_=>none
 | n+1,b,c,g =>
 if b<(a.1.length:Int) then
   (at_ a.1 b).bind fun h =>
   if c.contains h=true then
  (i64 (b+1)).bind fun i =>
  Jq p_1 a d e f n i c g
   else
  (app c [h]).bind fun j =>
  (app g [(pf p_1.named h)]).bind fun k =>
  (i64 (b+1)).bind fun l =>
  Jq p_1 a d e f n l j k
 else
   f c g d e
def Uv (p_1:Xe) (b:List (List UInt8)) (c:List (Option Lb)) (a:List (List UInt8)×List (List UInt8)×List (List UInt8)) (d:(List (List UInt8))→(List (Option Lb))→(List (List UInt8))→(List (List UInt8))→Option Ig) (g:List (List UInt8)) (h:List (List UInt8)) (e:List (List UInt8)) (f:List (List UInt8)):Option Ig :=
 Jq p_1 a e f d (a.1.length+1) 0 b c
def kp (fu:Nat) (p_1:Xe):Nat→(List (List UInt8))→(List (Option Lb))→(List (List UInt8))→(List (List UInt8))→Option Ig
 | 0,_,_,_,_=>none
 | n+1,e,b,c,d =>
 if (0:Int)<(b.length:Int) then
   (at_ b 0).bind fun f =>
   (cut b 1 b.length).bind fun g =>
   (f).bind fun h =>
   ((Zw fu).Hl ([]:List (List UInt8)) ([]:List (List UInt8)) ([]:List (List UInt8)) h.Body).bind fun a =>
   (app c a.2.1).bind fun i =>
   (app d a.2.2).bind fun j =>
   Uv p_1 e g a (kp fu p_1 n) a.2.1 a.2.2 i j
 else
   some (Ig.mk ([]:List (List UInt8)) c d)
def Kw (fu:Nat)  (p_1:Xe) (a:Lb):Option Ig :=
 kp fu p_1 fu ([]:List (List UInt8)) ([(some a)]:List (Option Lb)) [] []
def Pv (i88:Int) (a:Int→(List (List UInt8×Ig))→Option (List cj×Af)) (b:List (List UInt8×Ig)):Option (List cj×Af):=
 (i64 (i88+1)).bind fun i223 =>
 a i223 b
def ns (a:Int) (b:List UInt8) (c:Int→(List UInt8)→(List UInt8)→Option (List cj×Af)) (d:List UInt8):Option (List cj×Af):=
 (i64 (a+1)).bind fun e =>
 c e b d
def ps (f:List (List UInt8×Ig)) (g:Lb) (a:Int) (b:List UInt8) (c:Lb) (d:Int→(List UInt8)→(List UInt8)→Option (List cj×Af)) (e:List UInt8):Option (List cj×Af):=
 if (((pf f c.Name).getD (Ig.mk ([]:List (List UInt8)) ([]:List (List UInt8)) ([]:List (List UInt8)))).Xl).contains g.Name=true then
 if b≠[] then
   none
 else
   ns a e d c.Name
 else
 ns a e d b
def Ym (p_1:List Lb) (b:List (List UInt8×Ig)) (e:Int) (f:List cj) (a:Lb) (g:Int→(List cj)→Option (List cj×Af)):Nat→Int→(List UInt8)→(List UInt8)→Option (List cj×Af)
 | 0,_,_,_=>none
 | n+1,c,h,i =>
 if c<(p_1.length:Int) then
   (at_ p_1 c).bind fun d =>
   if d.Kind≠4 then
  (i64 (c+1)).bind fun j =>
  Ym p_1 b e f a g n j h i
   else
  if (((pf b d.Name).getD (Ig.mk ([]:List (List UInt8)) ([]:List (List UInt8)) ([]:List (List UInt8)))).Wl).contains a.Name=true then
     if h≠[] then
   none
     else
   ps b a c i d (Ym p_1 b e f a g n) d.Name
  else
     ps b a c i d (Ym p_1 b e f a g n) h
 else
   (app f [(cj.mk a.Name h i)]).bind fun k =>
   (i64 (e+1)).bind fun l =>
   g l k
def Zm (p_1:List Lb) (b:List (List UInt8×Ig)):Nat→Int→(List cj)→Option (List cj×Af)
 | 0,_,_=>none
 | n+1,a,c =>
 if a<(p_1.length:Int) then
   (at_ p_1 a).bind fun d =>
   if d.Kind≠1 then
  (i64 (a+1)).bind fun e =>
  Zm p_1 b n e c
   else
  Ym p_1 b a c d (Zm p_1 b n) (p_1.length+1) 0 [] []
 else
   some (c,(Af.mk 0 0))
def gp (fu:Nat) (p_1:List Lb) (a:Xe×Af):Nat→Int→(List (List UInt8×Ig))→Option (List cj×Af)
 | 0,_,_=>none
 | n+1,i88,b =>
 if i88<(p_1.length:Int) then
   (at_ p_1 i88).bind fun c =>
   if c.Kind=4 then
  (at_ p_1 i88).bind fun d =>
  (at_ p_1 i88).bind fun e =>
  (Kw fu a.1 e).bind fun f =>
  Pv i88 (gp fu p_1 a n) (Ce b d.Name f)
   else
  (i64 (i88+1)).bind fun i225 =>
  gp fu p_1 a n i225 b
 else
   Zm p_1 b (p_1.length+1) 0 []
def tw (fu:Nat)  (p_1:List Lb):Option (List cj×Af):=
 (Jw fu p_1).bind fun a =>
 if a.2.Wh≠0 then
 none
 else
 gp fu p_1 a (p_1.length+1) 0 ([]:List (List UInt8×Ig))
def Lw (fu:Nat)  (p_1:List Lb):Option Af :=
 (tw fu p_1).bind fun a =>
 some a.2
end Go.Y
namespace Go.Y
open Go.vc Go.jd
def Io  (p_1:mh) (a:uc):Option Int :=
 if a.Kind=3 then
 none
 else
 some a.Kind
def Ax  (b:List (List UInt8×Int)) (c:List (List UInt8×Int)) (d:List (List UInt8×Lb)) (a:uc):Option Int :=
 if a.Kind=3 then
 none
 else
 some a.Kind
def ij  (l:mh) (b:Int) (c:Int) (d:List Int) (e:Int) (f:Int) (g:List Kc) (h:List (List (List UInt8×Int))) (i:Int) (j:Int) (k:Int):Option (Int×Int×Int×List Int×Int×Int×List Kc×List (List (List UInt8×Int))):=
 (app g [(Kc.mk i j k)]).bind fun a =>
 (i64 ((a.length:Int) - 1)).bind fun i44 =>
 some (i44,b,c,d,e,f,a,h)
def vu  (b:mh) (c:Int) (d:Int) (e:List Int) (f:Int) (g:Int) (a:List Kc) (h:List (List (List UInt8×Int))):Option Int :=
 some (a.length:Int)
def cu  (l:mh) (c:Int) (d:Int) (e:List Int) (f:Int) (g:Int) (h:List Kc) (a:List (List (List UInt8×Int))) (i:List UInt8) (j:Int):Option (Int×Int×Int×List Int×Int×Int×List Kc×List (List (List UInt8×Int))):=
 (app e [j]).bind fun b =>
 (i64 ((b.length:Int) - 1)).bind fun i44 =>
 (i64 ((a.length:Int) - 1)).bind fun i46 =>
 (at_ a i46).bind fun k =>
 some (i44,c,d,b,f,g,h,(a.set i46.toNat (Ce k i i44)))
def bt (a:List UInt8) (b:List (List (List UInt8×Int))):Nat→Int→Option Int
 | 0,_=>none
 | n+1,i45 =>
 if (0:Int)≤i45 then
   (at_ b i45).bind fun c =>
   if (pf c a).isSome=true then
  some ((pf c a).getD 0)
   else
  (i64 (i45 - 1)).bind fun i77 =>
  bt a b n i77
 else
   none
def wu (fu:Nat)  (c:mh) (d:Int) (e:Int) (f:List Int) (g:Int) (h:Int) (i:List Kc) (a:List (List (List UInt8×Int))) (b:List UInt8):Option Int :=
 (i64 ((a.length:Int) - 1)).bind fun i28 =>
 bt b a fu i28
structure Tr where
 Mk:mh→Int→Int→(List Int)→Int→Int→(List Kc)→(List (List (List UInt8×Int)))→Cb→Option (Int×Int×Int×List Int×Int×Int×List Kc×List (List (List UInt8×Int)))
def uw (a:Int×Int×Int×List Int×Int×Int×List Kc×List (List (List UInt8×Int))) (i276:Int):Option (Int×Int×Int×List Int×Int×Int×List Kc×List (List (List UInt8×Int))):=
 some (i276,a.2.1,a.2.2.1,a.2.2.2.1,a.2.2.2.2.1,a.2.2.2.2.2.1,a.2.2.2.2.2.2.1,a.2.2.2.2.2.2.2)
def vw (a:Int×Int×Int×List Int×Int×Int×List Kc×List (List (List UInt8×Int))) (b:Int):Option (Int×Int×Int×List Int×Int×Int×List Kc×List (List (List UInt8×Int))):=
 some (b,a.2.1,a.2.2.1,a.2.2.2.1,a.2.2.2.2.1,a.2.2.2.2.2.1,a.2.2.2.2.2.2.1,a.2.2.2.2.2.2.2)
def ct (fu:Nat) (self:Tr) (a:Cb) (b:mh):Nat→Int→Int→Int→Int→Int→(List Int)→(List Kc)→(List (List (List UInt8×Int)))→(List Int)→Option (Int×Int×Int×List Int×Int×Int×List Kc×List (List (List UInt8×Int)))
 | 0,_,_,_,_,_,_,_,_,_=>none
 | n+1,i76,i77,i78,i79,i80,d,e,f,q =>
 if i76<(a.Kids.length:Int) then
   (at_ a.Kids i76).bind fun t =>
   (self.Mk b i77 i78 d i79 i80 e f t).bind fun g =>
   (app q [g.1]).bind fun u =>
   (i64 (i76+1)).bind fun i165 =>
   ct fu self a b n i165 g.2.1 g.2.2.1 g.2.2.2.2.1 g.2.2.2.2.2.1 g.2.2.2.1 g.2.2.2.2.2.2.1 g.2.2.2.2.2.2.2 u
 else
   if a.Kind=1 then
  (ij b i77 i78 d i79 i80 e f 1 0 a.N).bind fun k =>
  some (1,k.2.1,k.2.2.1,k.2.2.2.1,k.2.2.2.2.1,k.2.2.2.2.2.1,k.2.2.2.2.2.2.1,k.2.2.2.2.2.2.2)
   else
  if a.Kind=2 then
     (ij b i77 i78 d i79 i80 e f 2 a.N 0).bind fun l =>
     some (2,l.2.1,l.2.2.1,l.2.2.2.1,l.2.2.2.2.1,l.2.2.2.2.2.1,l.2.2.2.2.2.2.1,l.2.2.2.2.2.2.2)
  else
     if a.Kind=3 then
   (wu fu b i77 i78 d i79 i80 e f a.Name).bind fun r =>
   (ij b i77 i78 d i79 i80 e f 3 r 0).bind fun h =>
   (at_ h.2.2.2.1 r).bind fun v =>
   some (v,h.2.1,h.2.2.1,h.2.2.2.1,h.2.2.2.2.1,h.2.2.2.2.2.1,h.2.2.2.2.2.2.1,h.2.2.2.2.2.2.2)
     else
   if a.Kind=4 then
       (ij b i77 i78 d i79 i80 e f 6 0 0).bind fun m =>
       some (1,m.2.1,m.2.2.1,m.2.2.2.1,m.2.2.2.2.1,m.2.2.2.2.2.1,m.2.2.2.2.2.2.1,m.2.2.2.2.2.2.2)
   else
       if a.Kind=5 then
    none
       else
    if (6:Int)≤a.Kind then
         if a.Kind≤18 then
     (i64 (8+a.Kind)).bind fun i239 =>
     (i64 (i239 - 6)).bind fun i241 =>
     (ij b i77 i78 d i79 i80 e f i241 0 0).bind fun c =>
     if a.Kind≤10 then
           some (1,c.2.1,c.2.2.1,c.2.2.2.1,c.2.2.2.2.1,c.2.2.2.2.2.1,c.2.2.2.2.2.2.1,c.2.2.2.2.2.2.2)
     else
           some (2,c.2.1,c.2.2.1,c.2.2.2.1,c.2.2.2.2.1,c.2.2.2.2.2.1,c.2.2.2.2.2.2.1,c.2.2.2.2.2.2.2)
         else
     if a.Kind=19 then
           none
     else
           if a.Kind=20 then
      (ij b i77 i78 d i79 i80 e f 27 ((pf b.boxes a.Name).getD 0) 0).bind fun w =>
      ((pf b.defs a.Name)).bind fun x =>
      (Io b x.we).bind fun y =>
      uw w y
           else
      if a.Kind=22 then
             (ij b i77 i78 d i79 i80 e f 29 ((pf b.Sk a.Name).getD 0) 0).bind fun o =>
             (i64 (10+((pf b.Sk a.Name).getD 0))).bind fun z =>
             some (z,o.2.1,o.2.2.1,o.2.2.2.1,o.2.2.2.2.1,o.2.2.2.2.2.1,o.2.2.2.2.2.2.1,o.2.2.2.2.2.2.2)
      else
             if a.Kind=21 then
       (ij b i77 i78 d i79 i80 e f 31 0 0).bind fun i =>
       some (i.2.2.2.2.2.1,i.2.1,i.2.2.1,i.2.2.2.1,i.2.2.2.2.1,i.2.2.2.2.2.1,i.2.2.2.2.2.2.1,i.2.2.2.2.2.2.2)
             else
       if a.Kind=24 then
               (ij b i77 i78 d i79 i80 e f 32 0 0).bind fun p =>
               some (2,p.2.1,p.2.2.1,p.2.2.2.1,p.2.2.2.2.1,p.2.2.2.2.2.1,p.2.2.2.2.2.2.1,p.2.2.2.2.2.2.2)
       else
               (ij b i77 i78 d i79 i80 e f 30 0 0).bind fun j =>
               (at_ q 0).bind fun A =>
               (i64 (A - 10)).bind fun B =>
               (Jr b.Sk B).bind fun s =>
               if s.isSome=true then
        ((pf b.defs ((s.getD ([],0)).1))).bind fun C =>
        (Io b C.we).bind fun D =>
        vw j D
               else
        some (0,j.2.1,j.2.2.1,j.2.2.2.1,j.2.2.2.2.1,j.2.2.2.2.2.1,j.2.2.2.2.2.2.1,j.2.2.2.2.2.2.2)
    else
         none
def Mk (fu:Nat) (self:Tr) (b:mh) (c:Int) (d:Int) (e:List Int) (f:Int) (g:Int) (h:List Kc) (i:List (List (List UInt8×Int))) (a:Cb):Option (Int×Int×Int×List Int×Int×Int×List Kc×List (List (List UInt8×Int))):=
 ct fu self a b (a.Kids.length+1) 0 c d f g e h i []
def xu:Nat→Tr
 | 0=>⟨fun _ _ _ _ _ _ _ _ _=>none⟩
 | n+1=>⟨Mk n (xu n)⟩
structure Wo where
 Pl:mh→Int→Int→(List Int)→Int→Int→(List Kc)→(List (List (List UInt8×Int)))→(List me)→Option (Int×Int×List Int×Int×Int×List Kc×List (List (List UInt8×Int)))
 qn:mh→Int→Int→(List Int)→Int→Int→(List Kc)→(List (List (List UInt8×Int)))→me→Option (Int×Int×List Int×Int×Int×List Kc×List (List (List UInt8×Int)))
def dt (self:Wo) (b:List me) (d:mh):Nat→Int→Int→Int→Int→Int→(List Int)→(List Kc)→(List (List (List UInt8×Int)))→Option (Int×Int×List Int×Int×Int×List Kc×List (List (List UInt8×Int)))
 | 0,_,_,_,_,_,_,_,_=>none
 | n+1,i81,i82,i83,i84,i85,e,f,c =>
 if i81<(b.length:Int) then
   (at_ b i81).bind fun g =>
   (self.qn d i82 i83 e i84 i85 f c g).bind fun a =>
   (i64 (i81+1)).bind fun i163 =>
   dt self b d n i163 a.1 a.2.1 a.2.2.2.1 a.2.2.2.2.1 a.2.2.1 a.2.2.2.2.2.1 a.2.2.2.2.2.2
 else
   (i64 ((c.length:Int) - 1)).bind fun i165 =>
   (cut c 0 i165).bind fun h =>
   some (i82,i83,e,i84,i85,f,h)
def Pl (self:Wo) (b:mh) (c:Int) (d:Int) (e:List Int) (f:Int) (g:Int) (h:List Kc) (i:List (List (List UInt8×Int))) (a:List me):Option (Int×Int×List Int×Int×Int×List Kc×List (List (List UInt8×Int))):=
 (app i [[]]).bind fun j =>
 dt self a b (a.length+1) 0 c d f g e h j
def xw (a:Int×Int×Int×List Int×Int×Int×List Kc×List (List (List UInt8×Int))) (b:List Kc):Option (Int×Int×List Int×Int×Int×List Kc×List (List (List UInt8×Int))):=
 some (a.2.1,a.2.2.1,a.2.2.2.1,a.2.2.2.2.1,a.2.2.2.2.2.1,b,a.2.2.2.2.2.2.2)
def qn (fu:Nat) (self:Wo) (c:mh) (m:Int) (n:Int) (o:List Int) (p:Int) (q:Int) (r:List Kc) (s:List (List (List UInt8×Int))) (b:me):Option (Int×Int×List Int×Int×Int×List Kc×List (List (List UInt8×Int))):=
 if b.Kind=3 then
 none
 else
 if b.Kind=4 then
   (vu c m n o p q r s).bind fun u =>
   ((xu fu).Mk c m n o p q r s b.X).bind fun g =>
   (ij c g.2.1 g.2.2.1 g.2.2.2.1 g.2.2.2.2.1 g.2.2.2.2.2.1 g.2.2.2.2.2.2.1 g.2.2.2.2.2.2.2 22 0 0).bind fun e =>
   (self.Pl c e.2.1 e.2.2.1 e.2.2.2.1 e.2.2.2.2.1 e.2.2.2.2.2.1 e.2.2.2.2.2.2.1 e.2.2.2.2.2.2.2 b.Body).bind fun h =>
   (ij c h.1 h.2.1 h.2.2.1 h.2.2.2.1 h.2.2.2.2.1 h.2.2.2.2.2.1 h.2.2.2.2.2.2 21 u 0).bind fun d =>
   (vu c d.2.1 d.2.2.1 d.2.2.2.1 d.2.2.2.2.1 d.2.2.2.2.2.1 d.2.2.2.2.2.2.1 d.2.2.2.2.2.2.2).bind fun v =>
   (at_ d.2.2.2.2.2.2.1 e.1).bind fun t =>
   xw d (d.2.2.2.2.2.2.1.set e.1.toNat (Kc.mk t.Op v t.N))
 else
   if b.Kind=6 then
  none
   else
  ((xu fu).Mk c m n o p q r s b.X).bind fun a =>
  if b.Kind=1 then
     (cu c a.2.1 a.2.2.1 a.2.2.2.1 a.2.2.2.2.1 a.2.2.2.2.2.1 a.2.2.2.2.2.2.1 a.2.2.2.2.2.2.2 b.Name a.1).bind fun f =>
     (ij c f.2.1 f.2.2.1 f.2.2.2.1 f.2.2.2.2.1 f.2.2.2.2.2.1 f.2.2.2.2.2.2.1 f.2.2.2.2.2.2.2 4 f.1 0).bind fun i =>
     some (i.2.1,i.2.2.1,i.2.2.2.1,i.2.2.2.2.1,i.2.2.2.2.2.1,i.2.2.2.2.2.2.1,i.2.2.2.2.2.2.2)
  else
     if b.Kind=2 then
   (wu fu c a.2.1 a.2.2.1 a.2.2.2.1 a.2.2.2.2.1 a.2.2.2.2.2.1 a.2.2.2.2.2.2.1 a.2.2.2.2.2.2.2 b.Name).bind fun w =>
   (ij c a.2.1 a.2.2.1 a.2.2.2.1 a.2.2.2.2.1 a.2.2.2.2.2.1 a.2.2.2.2.2.2.1 a.2.2.2.2.2.2.2 4 w 0).bind fun j =>
   some (j.2.1,j.2.2.1,j.2.2.2.1,j.2.2.2.2.1,j.2.2.2.2.2.1,j.2.2.2.2.2.2.1,j.2.2.2.2.2.2.2)
     else
   if b.Kind=5 then
       none
   else
       if b.Kind=7 then
    none
       else
    if b.Kind=8 then
         (ij c a.2.1 a.2.2.1 a.2.2.2.1 a.2.2.2.2.1 a.2.2.2.2.2.1 a.2.2.2.2.2.2.1 a.2.2.2.2.2.2.2 28 0 0).bind fun k =>
         some (k.2.1,k.2.2.1,k.2.2.2.1,k.2.2.2.2.1,k.2.2.2.2.2.1,k.2.2.2.2.2.2.1,k.2.2.2.2.2.2.2)
    else
         if b.Kind=9 then
     (ij c a.2.1 a.2.2.1 a.2.2.2.1 a.2.2.2.2.1 a.2.2.2.2.2.1 a.2.2.2.2.2.2.1 a.2.2.2.2.2.2.2 5 0 0).bind fun l =>
     some (l.2.1,l.2.2.1,l.2.2.2.1,l.2.2.2.2.1,l.2.2.2.2.2.1,l.2.2.2.2.2.2.1,l.2.2.2.2.2.2.2)
         else
     none
def yu:Nat→Wo
 | 0=>⟨fun _ _ _ _ _ _ _ _ _=>none,fun _ _ _ _ _ _ _ _ _=>none⟩
 | n+1=>⟨Pl (yu n),qn n (yu n)⟩
def et (fu:Nat) (p_1:mh) (c:Lb) (d:List (List (List UInt8×Int))) (i40:Int) (i41:Int) (i42:Int) (e:List Int) (f:List Kc) (i187:Int):Option hf :=
 ((yu fu).Pl p_1 i40 i41 e i42 i187 f d c.Body).bind fun a =>
 if c.Kind≠2 then
 (ij p_1 a.1 a.2.1 a.2.2.1 a.2.2.2.1 a.2.2.2.2.1 a.2.2.2.2.2.1 a.2.2.2.2.2.2 25 0 0).bind fun b =>
 some (hf.mk b.2.1 b.2.2.1 b.2.2.2.1 b.2.2.2.2.1 b.2.2.2.2.2.1 b.2.2.2.2.2.2.1)
 else
 none
def ft (fu:Nat) (p_1:mh) (a:Lb) (b:List (List (List UInt8×Int))) (i40:Int) (i41:Int) (i42:Int) (i43:Int) (c:List Int) (d:List Kc):Option hf :=
 if a.Kind=3 then
 (Io p_1 a.ie).bind fun e =>
 et fu p_1 a b i40 i41 i42 c d e
 else
 et fu p_1 a b i40 i41 i42 c d i43
def yw (i87:Int) (a:Int→(List (List (List UInt8×Int)))→Int→Int→Int→Int→(List Int)→(List Kc)→Option hf) (b:List (List (List UInt8×Int))) (i150:Int) (i151:Int) (i152:Int) (i153:Int) (c:List Int) (d:List Kc):Option hf :=
 (i64 (i87+1)).bind fun i181 =>
 a i181 b i150 i151 i152 i153 c d
def Qq (fu:Nat) (p_1:mh) (b:Lb):Nat→Int→(List (List (List UInt8×Int)))→Int→Int→Int→Int→(List Int)→(List Kc)→Option hf
 | 0,_,_,_,_,_,_,_,_=>none
 | n+1,i87,c,i92,i93,i94,i95,d,e =>
 if i87<(b.Params.length:Int) then
   (at_ b.Params i87).bind fun f =>
   (Io p_1 f.we).bind fun g =>
   (cu p_1 i92 i93 d i94 i95 e c f.Name g).bind fun a =>
   yw i87 (Qq fu p_1 b n) a.2.2.2.2.2.2.2 a.2.1 a.2.2.1 a.2.2.2.2.1 a.2.2.2.2.2.1 a.2.2.2.1 a.2.2.2.2.2.2.1
 else
   ft fu p_1 b c i92 i93 i94 i95 d e
def zw (fu:Nat) (p_1:mh) (a:Lb) (i53:Int):Option hf :=
 Qq fu p_1 a (a.Params.length+1) 0 [([]:List (List UInt8×Int))] a.Kind (a.Params.length:Int) i53 0 [] []
def Bx (fu:Nat)  (p_1:mh) (a:Lb):Option hf :=
 if a.Kind≠4 then
 (Io p_1 a.we).bind fun b =>
 zw fu p_1 a b
 else
 ft fu p_1 a [([]:List (List UInt8×Int))] a.Kind 0 0 0 [] []
def Qv (i162:Int) (a:List (List UInt8×Int)) (b:List (List UInt8×Lb)) (c:Lb) (d:Lb) (e:List (List UInt8×Int)) (f:Int→(List (List UInt8×Int))→(List (List UInt8×Int))→(List (List UInt8×Lb))→(List ak)→Option (Uc×Af)) (g:List ak):Option (Uc×Af):=
 (i64 (i162+1)).bind fun h =>
 f h e a (Ce b c.Name d) g
def Rv (p_1:List Lb) (i162:Int) (a:List (List UInt8×Int)) (b:List (List UInt8×Lb)) (f:List ak) (c:Lb) (d:Lb) (g:Int→(List (List UInt8×Int))→(List (List UInt8×Int))→(List (List UInt8×Lb))→(List ak)→Option (Uc×Af)) (e:List (List UInt8×Int)):Option (Uc×Af):=
 (at_ p_1 i162).bind fun h =>
 (at_ p_1 i162).bind fun i =>
 (Ax e a (Ce b c.Name d) h.we).bind fun r417 =>
 (app f [(ak.mk r417 i.gh)]).bind fun j =>
 Qv i162 a b c d e g j
def Sv (i162:Int) (a:List (List UInt8×Int)) (b:List (List UInt8×Lb)) (c:List ak) (d:Lb) (e:Lb) (f:Int→(List (List UInt8×Int))→(List (List UInt8×Int))→(List (List UInt8×Lb))→(List ak)→Option (Uc×Af)) (g:List (List UInt8×Int)):Option (Uc×Af):=
 (i64 (i162+1)).bind fun h =>
 f h a g (Ce b d.Name e) c
def Fq (fu:Nat) (p_1:List Lb) (b:List (List UInt8×Int)) (c:List (List UInt8×Int)) (d:List (List UInt8×Lb)) (e:List ak):Nat→Int→(List hf)→Option (Uc×Af)
 | 0,_,_=>none
 | n+1,a,f =>
 if a<(p_1.length:Int) then
   (at_ p_1 a).bind fun h =>
   if h.Kind=1 then
  (i64 (a+1)).bind fun i =>
  Fq fu p_1 b c d e n i f
   else
  (at_ p_1 a).bind fun j =>
  (Bx fu (mh.mk b c d) j).bind fun g =>
  if (200:Int)<(g.qd.length:Int) then
     none
  else
     if (4000:Int)<(g.Code.length:Int) then
   none
     else
   (app f [g]).bind fun k =>
   (i64 (a+1)).bind fun l =>
   Fq fu p_1 b c d e n l k
 else
   some ((Uc.mk e f),(Af.mk 0 0))
def an (fu:Nat) (p_1:List Lb):Nat→Int→(List (List UInt8×Int))→(List (List UInt8×Int))→(List (List UInt8×Lb))→(List ak)→Option (Uc×Af)
 | 0,_,_,_,_,_=>none
 | n+1,i162,a,b,c,d =>
 if i162<(p_1.length:Int) then
   (at_ p_1 i162).bind fun e =>
   (at_ p_1 i162).bind fun f =>
   (at_ p_1 i162).bind fun g =>
   if g.Kind=1 then
  (at_ p_1 i162).bind fun h =>
  Rv p_1 i162 b c d e f (an fu p_1 n) (Ce a h.Name (a.length:Int))
   else
  (at_ p_1 i162).bind fun i =>
  Sv i162 a c d e f (an fu p_1 n) (Ce b i.Name (b.length:Int))
 else
   Fq fu p_1 a b c d (p_1.length+1) 0 []
def Aw (fu:Nat)  (p_1:List Lb):Option (Uc×Af):=
 (Lw fu p_1).bind fun a =>
 if a.Wh≠0 then
 none
 else
 an fu p_1 (p_1.length+1) 0 ([]:List (List UInt8×Int)) ([]:List (List UInt8×Int)) ([]:List (List UInt8×Lb)) []
end Go.Y
namespace Go.Y
open Go.vc Go.jd
def rn  (p_1:Int):Option Bool :=
 if p_1=1 then
 some true
 else
 some (decide (p_1=2))
def Lu  (p_1:Ge) (a:Int) (c:Int):Option Bool :=
 if (0:Int)≤a then
 (p_1.m).bind fun b =>
 if a<(b.Ld.length:Int) then
   (at_ b.Ld a).bind fun d =>
   some (decide (d.Kind=c))
 else
   none
 else
 none
def du  (p_1:Ge) (a:Int):Option Bool :=
 if (10:Int)≤a then
 (i64 (a - 10)).bind fun i7 =>
 (Lu p_1 i7 3).bind fun b =>
 some b
 else
 none
def en  (Hh:Bool):Option Int :=
 if Hh=true then
 some 0
 else
 none
def ht (p_1:Ge) (b:hf) (a:Kc) (df:Bool):Option Int :=
 if df=true then
 if (0:Int)≤a.A then
   en (decide (a.A<(b.Code.length:Int)))
 else
   none
 else
 if a.Op=23 then
   none
 else
   if a.Op=29 then
  (Lu p_1 a.A 3).bind fun c =>
  en c
   else
  if a.Op=26 then
     none
  else
     if a.Op=27 then
   if (0:Int)≤a.A then
       (p_1.m).bind fun d =>
       en (decide (a.A<(d.Se.length:Int)))
   else
       none
     else
   if a.Op<1 then
       none
   else
       if (32:Int)<a.Op then
    none
       else
    en true
def jt (p_1:Ge) (b:hf) (a:Kc) (Cf:Bool):Option Int :=
 if Cf=true then
 if (0:Int)≤a.A then
   en (decide (a.A<(b.qd.length:Int)))
 else
   none
 else
 if a.Op=21 then
   ht p_1 b a (decide (a.Op=21))
 else
   ht p_1 b a (decide (a.Op=22))
def Cx  (p_1:Ge) (b:hf) (a:Kc):Option Int :=
 if a.Op=2 then
 if a.A=0 then
   none
 else
   en (decide (a.A=1))
 else
 if a.Op=3 then
   jt p_1 b a (decide (a.Op=3))
 else
   jt p_1 b a (decide (a.Op=4))
def eu (p_1:List Int) (a:Int→Option Bool):Nat→Int→Option Int
 | 0,_=>none
 | n+1,i20 =>
 if i20<(p_1.length:Int) then
   (at_ p_1 i20).bind fun b =>
   (a b).bind fun c =>
   if c=true then
  some i20
   else
  (i64 (i20+1)).bind fun i49 =>
  eu p_1 a n i49
 else
   some (-1)
def oy  (p_1:List Int) (a:Int→Option Bool):Option Int :=
 eu p_1 a (p_1.length+1) 0
def cv  (p_1:List Int) (a:Int→Option Bool):Option Bool :=
 (oy p_1 a).bind fun b =>
 some (decide ((0:Int)≤b))
def gu (p_1:List Kc) (a:Kc→Option Bool):Nat→Int→Option Int
 | 0,_=>none
 | n+1,i20 =>
 if i20<(p_1.length:Int) then
   (at_ p_1 i20).bind fun b =>
   (a b).bind fun c =>
   if c=true then
  some i20
   else
  (i64 (i20+1)).bind fun i49 =>
  gu p_1 a n i49
 else
   some (-1)
def py  (p_1:List Kc) (a:Kc→Option Bool):Option Int :=
 gu p_1 a (p_1.length+1) 0
def qy  (p_1:List Kc) (a:Kc→Option Bool):Option Bool :=
 (py p_1 a).bind fun b =>
 some (decide ((0:Int)≤b))
def Dx  (p_1:Int) (a:Option Ge):Option Bool :=
 (rn p_1).bind fun b =>
 if b=true then
 some false
 else
 (a).bind fun c =>
 (du c p_1).bind fun d =>
 some (!d)
def Bp (p_1:Ge) (a:hf) (b:Bool):Option Int :=
 if b=true then
 none
 else
 (cv a.qd (fun c=>Dx c (some p_1))).bind fun d =>
 if d=true then
   none
 else
   some 0
def Dt (p_1:Ge) (a:hf) (b:Bool):Option Int :=
 if b=true then
 none
 else
 if (a.Code.length:Int)<1 then
   none
 else
   if (4000:Int)<(a.Code.length:Int) then
  none
   else
  if a.Kind≠4 then
     (rn a.Result).bind fun c =>
     if c=true then
   if a.Kind=3 then
       (rn a.ie).bind fun d =>
       Bp p_1 a (!d)
   else
       Bp p_1 a false
     else
   none
  else
     if a.Kind=3 then
   (rn a.ie).bind fun e =>
   Bp p_1 a (!e)
     else
   Bp p_1 a false
def Et (p_1:Ge) (a:hf) (Hh:Bool):Option Int :=
 if Hh=true then
 none
 else
 if (200:Int)<(a.qd.length:Int) then
   none
 else
   if a.Params<0 then
  none
   else
  if (6:Int)<a.Params then
     none
  else
     if (a.qd.length:Int)<a.Params then
   none
     else
   if a.Kind=4 then
       Dt p_1 a (decide ((0:Int)<a.Params))
   else
       Dt p_1 a false
def Sx  (p_1:Ge) (a:hf):Option Int :=
 if a.Kind≠2 then
 if a.Kind≠3 then
   Et p_1 a (decide (a.Kind≠4))
 else
   Et p_1 a false
 else
 none
def Ft (p_1:Ge) (i144:Int) (i145:Int) (a:hf) (b:Int→Int→Option Th):Nat→Int→Option Th
 | 0,_=>none
 | n+1,i249 =>
 if i249<(a.Code.length:Int) then
   (at_ a.Code i249).bind fun c =>
   (Cx p_1 a c).bind fun d =>
   if d≠0 then
  none
   else
  (i64 (i249+1)).bind fun i281 =>
  Ft p_1 i144 i145 a b n i281
 else
   if a.Kind=4 then
  (i64 (i144+1)).bind fun i284 =>
  (i64 (i145+1)).bind fun i286 =>
  b i284 i286
   else
  (i64 (i145+1)).bind fun i288 =>
  b i144 i288
def Wq (p_1:Ge) (a:Uc):Nat→Int→Int→Option Th
 | 0,_,_=>none
 | n+1,i144,i145 =>
 if i145<(a.Ld.length:Int) then
   (at_ a.Ld i145).bind fun b =>
   (Sx p_1 b).bind fun c =>
   if c≠0 then
  none
   else
  Ft p_1 i144 i145 b (Wq p_1 a n) (b.Code.length+1) 0
 else
   if i144=0 then
  none
   else
  some (Th.mk 0 0 0)
def Gt (p_1:Ge) (a:Uc):Nat→Int→Option Th
 | 0,_=>none
 | n+1,i39 =>
 if i39<(a.Se.length:Int) then
   (at_ a.Se i39).bind fun b =>
   (rn b.we).bind fun c =>
   if c=true then
  if b.gh<1 then
     none
  else
     if (20:Int)<b.gh then
   none
     else
   (i64 (i39+1)).bind fun i74 =>
   Gt p_1 a n i74
   else
  none
 else
   Wq p_1 a (a.Ld.length+1) 0 0
def Tx  (p_1:Ge):Option Th :=
 (p_1.m).bind fun a =>
 if (30:Int)<(a.Se.length:Int) then
 none
 else
 if (30:Int)<(a.Ld.length:Int) then
   none
 else
   Gt p_1 a (a.Se.length+1) 0
end Go.Y
namespace Go.Y
open Go.vc Go.jd
def gw  (a:List Int) (b:List Bool):Option Gd :=
 some (Gd.mk a b)
def ax  (p_1:Gd):Option Gd :=
 (small p_1.stack).bind fun a =>
 (small p_1.has).bind fun b =>
 gw p_1.stack p_1.has
def Vv  (a:List Int) (b:List Bool):Option Gd :=
 some (Gd.mk a b)
def Mw  (p_1:Gd):Option Gd :=
 (small p_1.stack).bind fun a =>
 (small p_1.has).bind fun b =>
 Vv p_1.stack p_1.has
def Bw (p_1:List Int):Nat→Option Bool
 | 0=>none
 | n+1 =>
 if (0:Int)<(p_1.length:Int) then
   none
 else
   some true
def Ex  (p_1:List Int) (a:List Int):Option Bool :=
 if (p_1.length:Int)≠(a.length:Int) then
 none
 else
 Bw p_1 (p_1.length+1)
def vk  (h:Ge) (i:hf) (b:List (Int×Gd)) (c:List Int) (d:List Int) (e:List Bool) (f:Int) (g:Int):Option (List (Int×Gd)×List Int×List Int×List Bool×Int):=
 (app d [g]).bind fun a =>
 if (300:Int)<(a.length:Int) then
 none
 else
 some (b,c,a,e,f)
def Lo  (h:Ge) (i:hf) (b:List (Int×Gd)) (c:List Int) (a:List Int) (d:List Bool) (e:Int):Option (Int×List (Int×Gd)×List Int×List Int×List Bool×Int):=
 if (a.length:Int)=0 then
 none
 else
 (i64 ((a.length:Int) - 1)).bind fun i49 =>
 (at_ a i49).bind fun f =>
 (i64 ((a.length:Int) - 1)).bind fun i65 =>
 (cut a 0 i65).bind fun g =>
 some (f,b,c,g,d,e)
def Ht (b:Ge) (c:List Int) (d:hf):Nat→Int→Int→(List (Int×Gd))→(List Int)→(List Int)→(List Bool)→Option (List (Int×Gd)×List Int×List Int×List Bool×Int)
 | 0,_,_,_,_,_,_=>none
 | n+1,i78,i79,e,f,g,h =>
 if (0:Int)≤i78 then
   (Lo b d e f g h i79).bind fun a =>
   (at_ c i78).bind fun i =>
   if a.1≠i then
  none
   else
  (i64 (i78 - 1)).bind fun i151 =>
  Ht b c d n i151 a.2.2.2.2.2 a.2.1 a.2.2.1 a.2.2.2.1 a.2.2.2.2.1
 else
   some (e,f,g,h,i79)
def Dm (fu:Nat)  (b:Ge) (c:hf) (d:List (Int×Gd)) (e:List Int) (f:List Int) (g:List Bool) (h:Int) (a:List Int):Option (List (Int×Gd)×List Int×List Int×List Bool×Int):=
 (i64 ((a.length:Int) - 1)).bind fun i51 =>
 Ht b a c fu i51 h d e f g
def Fx (a:Int) (b:List Int) (c:List Int) (d:List Bool) (e:Int) (f:List (Int×Gd)):Option (List (Int×Gd)×List Int×List Int×List Bool×Int):=
 (app b [a]).bind fun g =>
 some (f,g,c,d,e)
def zu (i128:Int) (a:Int→Option (List (Int×Gd)×List Int×List Int×List Bool×Int)) (b:Bool):Option (List (Int×Gd)×List Int×List Int×List Bool×Int):=
 if b=true then
 none
 else
 (i64 (i128+1)).bind fun i183 =>
 a i183
def Rp (b:Int) (a:List (Int×Gd)) (d:List Int) (e:List Int) (c:List Bool) (f:Int):Nat→Int→Option (List (Int×Gd)×List Int×List Int×List Bool×Int)
 | 0,_=>none
 | n+1,i128 =>
 if i128<((((pf a b).getD (Gd.mk ([]:List Int) ([]:List Bool))).has).length:Int) then
   (at_ (((pf a b).getD (Gd.mk ([]:List Int) ([]:List Bool))).has) i128).bind fun g =>
   if g=true then
  (at_ c i128).bind fun h =>
  zu i128 (Rp b a d e c f n) (!h)
   else
  zu i128 (Rp b a d e c f n) false
 else
   some (a,d,e,c,f)
def rq  (j:Ge) (g:hf) (b:List (Int×Gd)) (f:List Int) (c:List Int) (d:List Bool) (e:Int) (a:Int):Option (List (Int×Gd)×List Int×List Int×List Bool×Int):=
 if e≠0 then
 none
 else
 if a=(g.Code.length:Int) then
   none
 else
   if (pf b a).isSome=true then
  (Ex (((pf b a).getD (Gd.mk ([]:List Int) ([]:List Bool))).stack) c).bind fun h =>
  if h=true then
     Rp a b f c d e ((((pf b a).getD (Gd.mk ([]:List Int) ([]:List Bool))).has).length+1) 0
  else
     none
   else
  (Mw (Gd.mk c d)).bind fun i =>
  Fx a f c d e (Ce b a i)
def Ux (fu:Nat)  (c:Ge) (d:hf) (e:List (Int×Gd)) (f:List Int) (g:List Int) (h:List Bool) (i:Int) (j:Int):Option (hf×List (Int×Gd)×List Int×List Int×List Bool×Int):=
 (c.m).bind fun k =>
 (at_ k.Ld j).bind fun b =>
 (cut b.qd 0 b.Params).bind fun l =>
 (Dm fu c d e f g h i l).bind fun a =>
 some (b,a.1,a.2.1,a.2.2.1,a.2.2.2.1,a.2.2.2.2)
def dv  (b:Ge) (c:hf) (d:List (Int×Gd)) (e:List Int) (f:List Int) (g:List Bool) (h:Int):Option (hf×List (Int×Gd)×List Int×List Int×List Bool×Int):=
 (Lo b c d e f g h).bind fun a =>
 if a.2.2.2.2.2≠0 then
 none
 else
 (du b a.1).bind fun i =>
 if i=true then
   (b.m).bind fun j =>
   (i64 (a.1 - 10)).bind fun i90 =>
   (at_ j.Ld i90).bind fun k =>
   some (k,a.2.1,a.2.2.1,a.2.2.2.1,a.2.2.2.2.1,a.2.2.2.2.2)
 else
   none
def Vx  (f:Ge) (g:hf) (b:List (Int×Gd)) (c:List Int) (a:List Int) (d:List Bool) (e:Int):Option (Bool×List (Int×Gd)×List Int×List Int×List Bool×Int):=
 if (0:Int)<(a.length:Int) then
 none
 else
 some (false,b,c,a,d,e)
def bn  (i50:Int) (a:List (Int×Gd)) (b:List Int) (c:List Int) (d:List Bool):Option (Bool×List (Int×Gd)×List Int×List Int×List Bool×Int):=
 some (true,a,b,c,d,i50)
def Nw (fu:Nat)  (b:Ge) (a:hf) (d:List (Int×Gd)) (e:List Int) (f:List Int) (g:List Bool) (h:Int) (c:Kc):Option (Bool×List (Int×Gd)×List Int×List Int×List Bool×Int):=
 if c.Op=23 then
 none
 else
 if c.Op=29 then
   (Ux fu b a d e f g h c.A).bind fun n =>
   (i64 (10+c.A)).bind fun i93 =>
   (vk b a n.2.1 n.2.2.1 n.2.2.2.1 n.2.2.2.2.1 n.2.2.2.2.2 i93).bind fun o =>
   bn o.2.2.2.2 o.1 o.2.1 o.2.2.1 o.2.2.2.1
 else
   if c.Op=24 then
  none
   else
  if c.Op=25 then
     if a.Kind=2 then
   none
     else
   (Vx b a d e f g h).bind fun k =>
   some (k.1,k.2.1,k.2.2.1,k.2.2.2.1,k.2.2.2.2.1,k.2.2.2.2.2)
  else
     if c.Op=26 then
   none
     else
   if c.Op=27 then
       (b.m).bind fun v =>
       (at_ v.Se c.A).bind fun w =>
       (vk b a d e f g h w.we).bind fun p =>
       bn p.2.2.2.2 p.1 p.2.1 p.2.2.1 p.2.2.2.1
   else
       if c.Op=28 then
    (Lo b a d e f g h).bind fun i =>
    if i.2.2.2.2.2=0 then
         (rn i.1).bind fun x =>
         if x=true then
     bn i.2.2.2.2.2 i.2.1 i.2.2.1 i.2.2.2.1 i.2.2.2.2.1
         else
     none
    else
         none
       else
    if c.Op=30 then
         (Lo b a d e f g h).bind fun l =>
         (dv b a l.2.1 l.2.2.1 l.2.2.2.1 l.2.2.2.2.1 l.2.2.2.2.2).bind fun j =>
         if l.1≠j.1.ie then
     none
         else
     (vk b a j.2.1 j.2.2.1 j.2.2.2.1 j.2.2.2.2.1 j.2.2.2.2.2 j.1.Result).bind fun q =>
     bn q.2.2.2.2 q.1 q.2.1 q.2.2.1 q.2.2.2.1
    else
         if c.Op=31 then
     if a.Kind≠3 then
           none
     else
           (Dm fu b a d e f g h [a.Result]).bind fun r =>
           (vk b a r.1 r.2.1 r.2.2.1 r.2.2.2.1 r.2.2.2.2 a.ie).bind fun s =>
           bn s.2.2.2.2 s.1 s.2.1 s.2.2.1 s.2.2.2.1
         else
     if c.Op=32 then
           (dv b a d e f g h).bind fun t =>
           (vk b a t.2.1 t.2.2.1 t.2.2.2.1 t.2.2.2.2.1 t.2.2.2.2.2 2).bind fun u =>
           bn u.2.2.2.2 u.1 u.2.1 u.2.2.1 u.2.2.2.1
     else
           none
def fl  (i50:Int) (a:List (Int×Gd)) (b:List Int) (c:List Int) (d:List Bool):Option (Bool×List (Int×Gd)×List Int×List Int×List Bool×Int):=
 some (true,a,b,c,d,i50)
def Wx (fu:Nat)  (c:Ge) (b:hf) (e:List (Int×Gd)) (f:List Int) (g:List Int) (d:List Bool) (h:Int) (a:Kc):Option (Bool×List (Int×Gd)×List Int×List Int×List Bool×Int):=
 if a.Op=1 then
 (vk c b e f g d h 1).bind fun k =>
 fl k.2.2.2.2 k.1 k.2.1 k.2.2.1 k.2.2.2.1
 else
 if a.Op=2 then
   (vk c b e f g d h 2).bind fun l =>
   fl l.2.2.2.2 l.1 l.2.1 l.2.2.1 l.2.2.2.1
 else
   if a.Op=3 then
  (at_ d a.A).bind fun x =>
  if x=true then
     (at_ b.qd a.A).bind fun y =>
     (vk c b e f g d h y).bind fun m =>
     fl m.2.2.2.2 m.1 m.2.1 m.2.2.1 m.2.2.2.1
  else
     none
   else
  if a.Op=4 then
     (at_ b.qd a.A).bind fun z =>
     (Dm fu c b e f g d h [z]).bind fun i =>
     (at_ i.2.2.2.1 a.A).bind fun B =>
     fl i.2.2.2.2 i.1 i.2.1 i.2.2.1 (i.2.2.2.1.set a.A.toNat true)
  else
     if a.Op=5 then
   (Lo c b e f g d h).bind fun n =>
   fl n.2.2.2.2.2 n.2.1 n.2.2.1 n.2.2.2.1 n.2.2.2.2.1
     else
   if a.Op=6 then
       (Dm fu c b e f g d h [1]).bind fun o =>
       (vk c b o.1 o.2.1 o.2.2.1 o.2.2.2.1 o.2.2.2.2 1).bind fun p =>
       fl p.2.2.2.2 p.1 p.2.1 p.2.2.1 p.2.2.2.1
   else
       if a.Op=7 then
    none
       else
    if (8:Int)≤a.Op then
         if a.Op≤12 then
     (Dm fu c b e f g d h [1,1]).bind fun q =>
     (vk c b q.1 q.2.1 q.2.2.1 q.2.2.2.1 q.2.2.2.2 1).bind fun r =>
     fl r.2.2.2.2 r.1 r.2.1 r.2.2.1 r.2.2.2.1
         else
     if a.Op=13 then
           none
     else
           if a.Op=14 then
      none
           else
      if (15:Int)≤a.Op then
             if a.Op≤18 then
       (Dm fu c b e f g d h [1,1]).bind fun s =>
       (vk c b s.1 s.2.1 s.2.2.1 s.2.2.2.1 s.2.2.2.2 2).bind fun t =>
       fl t.2.2.2.2 t.1 t.2.1 t.2.2.1 t.2.2.2.1
             else
       if a.Op=19 then
               none
       else
               if a.Op=20 then
        none
               else
        if a.Op=21 then
                 (rq c b e f g d h a.A).bind fun u =>
                 some (false,u.1,u.2.1,u.2.2.1,u.2.2.2.1,u.2.2.2.2)
        else
                 if a.Op=22 then
         (Dm fu c b e f g d h [2]).bind fun v =>
         (rq c b v.1 v.2.1 v.2.2.1 v.2.2.2.1 v.2.2.2.2 a.A).bind fun w =>
         fl w.2.2.2.2 w.1 w.2.1 w.2.2.1 w.2.2.2.1
                 else
         (Nw fu c b e f g d h a).bind fun j =>
         some (j.1,j.2.1,j.2.2.1,j.2.2.2.1,j.2.2.2.2.1,j.2.2.2.2.2)
      else
             none
    else
         none
def It (b:(List (Int×Gd))→Int→(List Bool)→(List Int)→(List Int)→Option Th) (c:List (Int×Gd)) (a:Int) (d:List Bool) (e:List Int) (f:List Int):Option Th :=
 if a≠0 then
 none
 else
 b c a d e f
def Cp (fu:Nat) (p_1:Ge) (b:hf):Nat→(List (Int×Gd))→Int→(List Bool)→(List Int)→(List Int)→Option Th
 | 0,_,_,_,_,_=>none
 | n+1,f,i222,k,d,l =>
 if (0:Int)<(d.length:Int) then
   (at_ d 0).bind fun e =>
   (cut d 1 d.length).bind fun h =>
   (ax ((pf f e).getD (Gd.mk ([]:List Int) ([]:List Bool)))).bind fun g =>
   (at_ b.Code e).bind fun i =>
   (Wx fu p_1 b f h g.stack g.has i222 i).bind fun a =>
   if a.1=true then
  (i64 (e+1)).bind fun j =>
  (rq p_1 b a.2.1 a.2.2.1 a.2.2.2.1 a.2.2.2.2.1 a.2.2.2.2.2 j).bind fun c =>
  It (Cp fu p_1 b n) c.1 c.2.2.2.2 c.2.2.2.1 c.2.1 c.2.2.1
   else
  It (Cp fu p_1 b n) a.2.1 a.2.2.2.2.2 a.2.2.2.2.1 a.2.2.1 a.2.2.2.1
 else
   some (Th.mk 0 0 0)
def Jt (fu:Nat) (p_1:Ge) (b:hf):Nat→Int→(List Bool)→Option Th
 | 0,_,_=>none
 | n+1,i60,c =>
 if i60<b.Params then
   (at_ c i60).bind fun d =>
   (i64 (i60+1)).bind fun i100 =>
   Jt fu p_1 b n i100 (c.set i60.toNat true)
 else
   (rq p_1 b ([]:List (Int×Gd)) ([]:List Int) ([]:List Int) c 0 0).bind fun a =>
   Cp fu p_1 b fu a.1 a.2.2.2.2 a.2.2.2.1 a.2.1 a.2.2.1
def Xx (fu:Nat)  (p_1:Ge) (b:Int):Option Th :=
 (p_1.m).bind fun c =>
 (at_ c.Ld b).bind fun a =>
 (Vk (a.qd.length:Int)).bind fun d =>
 Jt fu p_1 a ((a.Params - 0).toNat+1) 0 (List.replicate d (false:Bool))
def kt (a:Int) (b:List Int) (d:Kc) (c:Int→(List Int)→Option (List Int)) (e:Bool):Option (List Int):=
 if e=true then
 (app b [d.A]).bind fun f =>
 (i64 (a+1)).bind fun g =>
 c g f
 else
 (i64 (a+1)).bind fun h =>
 c h b
def vp (i141:Int) (b:hf) (e:Int→(List Int)→Option (List Int)):Nat→Int→(List Int)→Option (List Int)
 | 0,_,_=>none
 | n+1,c,d =>
 if c<(b.Code.length:Int) then
   (at_ b.Code c).bind fun a =>
   if a.Op=23 then
  none
   else
  if a.Op=29 then
     kt c d a (vp i141 b e n) (!(d.contains a.A))
  else
     kt c d a (vp i141 b e n) false
 else
   (i64 (i141+1)).bind fun f =>
   e f d
def xp (p_1:Ge):Nat→Int→(List Int)→Option (List Int)
 | 0,_,_=>none
 | n+1,i141,a =>
 if i141<(a.length:Int) then
   (at_ a i141).bind fun c =>
   (p_1.m).bind fun d =>
   (at_ d.Ld c).bind fun b =>
   vp i141 b (xp p_1 n) (b.Code.length+1) 0 a
 else
   some a
def Gx (fu:Nat)  (p_1:Ge) (a:Int):Option (List Int):=
 xp p_1 fu 0 ([a]:List Int)
def Ow  (p_1:Kc) (a:Int) (b:Int):Option Bool :=
 if p_1.Op=a then
 some (decide (p_1.A=b))
 else
 some false
def cx  (p_1:Int) (a:Option Ge) (b:Int) (c:Int):Option Bool :=
 (a).bind fun d =>
 (d.m).bind fun e =>
 (at_ e.Ld p_1).bind fun f =>
 (qy f.Code (fun g=>Ow g b c)).bind fun h =>
 some h
def nt (a:Int) (b:Int) (c:Int→Int→Option Th) (d:Bool):Option Th :=
 if d=true then
 (i64 (a+1)).bind fun e =>
 (i64 (b+1)).bind fun f =>
 c e f
 else
 (i64 (b+1)).bind fun g =>
 c a g
def yp (fu:Nat) (p_1:Ge) (b:Uc) (c:Int) (d:Int) (e:Int) (f:Int→Option Th):Nat→Int→Int→Option Th
 | 0,_,_=>none
 | n+1,g,a =>
 if a<(b.Ld.length:Int) then
   (at_ b.Ld a).bind fun h =>
   if h.Kind=4 then
  (Gx fu p_1 a).bind fun i =>
  (cv i (fun j=>cx j (some p_1) e c)).bind fun k =>
  nt g a (yp fu p_1 b c d e f n) k
   else
  nt g a (yp fu p_1 b c d e f n) false
 else
   if (1:Int)<g then
  none
   else
  (i64 (d+1)).bind fun l =>
  f l
def zp (fu:Nat) (p_1:Ge) (a:Uc) (b:Int) (d:Int→Option Th):Nat→Int→Option Th
 | 0,_=>none
 | n+1,c =>
 if c<2 then
   (at_ [26,27] c).bind fun e =>
   yp fu p_1 a b c e (zp fu p_1 a b d n) (a.Ld.length+1) 0 0
 else
   (i64 (b+1)).bind fun f =>
   d f
def qo (fu:Nat) (p_1:Ge) (a:Uc):Nat→Int→Option Th
 | 0,_=>none
 | n+1,b =>
 if b<(a.Se.length:Int) then
   zp fu p_1 a b (qo fu p_1 a n) 3 0
 else
   some (Th.mk 0 0 0)
def Hx (fu:Nat)  (p_1:Ge):Option Th :=
 (p_1.m).bind fun a =>
 qo fu p_1 a (a.Se.length+1) 0
def Ms (fu:Nat) (p_1:Uc):Nat→Int→Option Th
 | 0,_=>none
 | n+1,i30 =>
 if i30<(p_1.Ld.length:Int) then
   (Xx fu (Ge.mk (some p_1)) i30).bind fun a =>
   if a.Wh≠0 then
  none
   else
  (i64 (i30+1)).bind fun i46 =>
  Ms fu p_1 n i46
 else
   (Hx fu (Ge.mk (some p_1))).bind fun b =>
   some b
def iu (fu:Nat)  (p_1:Uc):Option Th :=
 (Tx (Ge.mk (some p_1))).bind fun a =>
 if a.Wh≠0 then
 none
 else
 Ms fu p_1 (p_1.Ld.length+1) 0
end Go.Y
namespace Go.Y
open Go.vc Go.jd
def ev  (p_1:Int) (a:Int):Option (List Int×Int×Int×Int):=
 (Vk p_1).bind fun b =>
 some ((List.replicate b (0:Int)),0,p_1,a)
def Rl  (a:Int):Option Int :=
 some a
def Sp  (b:List Int) (a:Int) (c:Int) (d:Int) (e:Int):Option (List Int×Int×Int×Int):=
 (Vk e).bind fun f =>
 (cut b 0 a).bind fun g =>
 some ((Zo (List.replicate f (0:Int)) g),a,c,d)
def Dp (b:Int) (i14:Int) (i15:Int) (i16:Int) (a:List Int):Option (Bool×List Int×Int×Int×Int):=
 (at_ a i14).bind fun c =>
 (i64 (i14+1)).bind fun i56 =>
 some (true,(a.set i14.toNat b),i56,i15,i16)
def Pw (a:Int) (i22:Int) (i23:Int) (i24:Int) (b:List Int):Option (Bool×List Int×Int×Int×Int):=
 Dp a i22 i23 i24 b
def Kt (a:List Int) (e:Int) (c:Int) (f:Int) (d:Int):Option (Bool×List Int×Int×Int×Int):=
 if c=(a.length:Int) then
 (i64 (2*(a.length:Int))).bind fun i29 =>
 (Sp a c f d (min i29 d)).bind fun b =>
 Pw e b.2.1 b.2.2.1 b.2.2.2 b.1
 else
 Dp e c f d a
def Zp  (c:List Int) (a:Int) (d:Int) (b:Int) (e:Int):Option (Bool×List Int×Int×Int×Int):=
 if a=b then
 none
 else
 Kt c e a d b
def dx  (i20:Int) (i21:Int) (i22:Int) (a:List Int):Option (List Int×Int×Int×Int):=
 some (a,i20,i21,i22)
def Jp (b:List Int) (c:Int) (d:Int) (i12:Int) (e:Bool):Option (List Int×Int×Int×Int):=
 if e=true then
 (quo (b.length:Int) 2).bind fun i27 =>
 (Sp b i12 c d (max i27 c)).bind fun a =>
 dx a.2.1 a.2.2.1 a.2.2.2 a.1
 else
 some (b,i12,c,d)
def Mo  (a:List Int) (d:Int) (b:Int) (c:Int) (e:Int):Option (List Int×Int×Int×Int):=
 (i64 (d - e)).bind fun i12 =>
 (quo (a.length:Int) 4).bind fun i15 =>
 if i12≤i15 then
 Jp a b c i12 (decide (b<(a.length:Int)))
 else
 Jp a b c i12 false
def zn  (a:Int) (b:Int) (c:Int):Option Unit :=
 some ()
def il  (p_1:Bool):Option Int :=
 if p_1=true then
 some 1
 else
 some 0
def mn (p_1:Int) (a:Int) (b:Int) (zf:Bool):Option Int :=
 if zf=true then
 (il (decide (p_1=11))).bind fun c =>
 some (Nf (c*a))
 else
 if p_1=11 then
   (quo a b).bind fun i16 =>
   some i16
 else
   (wv a b).bind fun i18 =>
   some i18
def Ao (p_1:Int) (a:Int) (b:Int) (yf:Bool):Option Int :=
 if yf=true then
 if a=(-9223372036854775808) then
   mn p_1 a b (decide (b=(-1)))
 else
   mn p_1 a b false
 else
 if p_1=13 then
   (il (decide (a=b))).bind fun c =>
   some c
 else
   if p_1=14 then
  (il (decide (a≠b))).bind fun d =>
  some d
   else
  if p_1=15 then
     (il (decide (a<b))).bind fun e =>
     some e
  else
     if p_1=16 then
   (il (decide (a≤b))).bind fun f =>
   some f
     else
   if p_1=17 then
       (il (decide (b<a))).bind fun g =>
       some g
   else
       none
def Ar  (p_1:Int) (a:Int) (b:Int):Option Int :=
 if p_1=8 then
 some (Nf (a+b))
 else
 if p_1=9 then
   some (Nf (a - b))
 else
   if p_1=10 then
  some (Nf (a*b))
   else
  if p_1=11 then
     Ao p_1 a b (decide (p_1=11))
  else
     Ao p_1 a b (decide (p_1=12))
def Rq (p_1:Uc):Nat→Int→(List Int)→Option (List Int)
 | 0,_,_=>none
 | n+1,i43,a =>
 if i43<(p_1.Ld.length:Int) then
   (at_ p_1.Ld i43).bind fun b =>
   if b.Kind=4 then
  (app a [i43]).bind fun c =>
  (i64 (i43+1)).bind fun i104 =>
  Rq p_1 n i104 c
   else
  (i64 (i43+1)).bind fun i106 =>
  Rq p_1 n i106 a
 else
   some a
def Au  (p_1:Uc):Option (List Int):=
 Rq p_1 (p_1.Ld.length+1) 0 []
end Go.Y
namespace Go.Y
open Go.vc Go.jd
structure Jc where
 unit:Int
 Vc:Int
 base:Int
 deriving DecidableEq,Inhabited,Repr
instance:Wa Jc where
 sz:=3
 pos:=by decide
 cs μ l x:=l=[.int .i64 x.unit,.int .i64 x.Vc,.int .i64 x.base]
 sh h:=by obtain rfl:=h;rfl
 up le h:=by exact h
 Ug h:=by obtain rfl:=h;rfl
def lr  (a:List (List Int)) (b:List Int) (d:List (List Int)) (c:Int):Option (Bool×List (List Int)×List Int×List (List Int)):=
 (at_ a c).bind fun e =>
 (at_ b c).bind fun f =>
 some (decide (f=(e.length:Int)),a,b,d)
def sr  (c:List (List Int)) (b:List Int) (d:List (List Int)) (a:Int):Option (Int×List (List Int)×List Int×List (List Int)):=
 (at_ b a).bind fun e =>
 (i64 (e+1)).bind fun i37 =>
 (at_ b a).bind fun i =>
 (at_ (b.set a.toNat i37) a).bind fun f =>
 (i64 (f - 1)).bind fun i68 =>
 (at_ c a).bind fun g =>
 (at_ g i68).bind fun h =>
 some (h,c,(b.set a.toNat i37),d)
def hk  (b:Int) (c:Int) (d:Int) (e:List Int) (f:Int) (g:Int) (h:Int) (i:Int):Option (Int×Int×Int×List Int×Int×Int×Int):=
 (Zp e f g h i).bind fun a =>
 if a.1=true then
 some (b,c,d,a.2.1,a.2.2.1,a.2.2.2.1,a.2.2.2.2)
 else
 none
def jk  (d:Int) (e:Int) (f:Int) (b:List Int) (c:Int) (g:Int) (h:Int):Option (Int×Int×Int×Int×List Int×Int×Int×Int):=
 (Rl c).bind fun i =>
 (i64 (i - 1)).bind fun i27 =>
 (at_ b i27).bind fun j =>
 (Mo b c g h 1).bind fun a =>
 some (j,d,e,f,a.1,a.2.1,a.2.2.1,a.2.2.2)
def Sq (a:Int) (i33:Int) (i34:Int) (b:List (List Int)) (c:List (List Int)) (d:List Int):Option (Bool×Int×Int×Int×List (List Int)×List Int×List (List Int)):=
 some (decide (i33≠1),i33,i34,a,b,d,c)
def ot (a:Kc) (b:Int) (c:List (List Int)) (d:List (List Int)) (e:List Int):Option (Bool×Int×Int×Int×List (List Int)×List Int×List (List Int)):=
 Sq b 3 a.A c d e
def Tq (e:Kc) (a:Int) (f:Bool) (b:List (List Int)) (c:List (List Int)) (d:List Int):Option (Bool×Int×Int×Int×List (List Int)×List Int×List (List Int)):=
 if f=true then
 ot e a b c d
 else
 Sq a 1 0 b c d
def mr  (g:Int) (h:Int) (c:Int) (d:List (List Int)) (e:List Int) (f:List (List Int)) (a:Kc):Option (Bool×Int×Int×Int×List (List Int)×List Int×List (List Int)):=
 if a.Op=26 then
 none
 else
 if a.Op=27 then
   (lr d e f a.A).bind fun b =>
   Tq a c b.1 b.2.1 b.2.2.2 b.2.2.1
 else
   Tq a c false d f e
def Lt (d:Uc) (e:Int) (f:Int) (g:Int) (h:List (List Int)) (i:List Int) (j:List (List Int)) (b:List Jc) (i53:Int):Option (Int×Int×Int×List (List Int)×List Int×List (List Int)×List Jc):=
 (at_ b i53).bind fun c =>
 (at_ d.Ld c.unit).bind fun k =>
 (at_ k.Code c.Vc).bind fun l =>
 (mr e f g h i j l).bind fun a =>
 some (a.2.1,a.2.2.1,a.2.2.2.1,a.2.2.2.2.1,a.2.2.2.2.2.1,a.2.2.2.2.2.2,b)
def An  (c:Uc) (b:Int) (d:Int) (e:Int) (f:List (List Int)) (g:List Int) (h:List (List Int)) (a:List Jc):Option (Int×Int×Int×List (List Int)×List Int×List (List Int)×List Jc):=
 if b≤3 then
 (i64 ((a.length:Int) - 1)).bind fun i55 =>
 (at_ a i55).bind fun i =>
 Lt c b d e f g h a i55
 else
 none
def uo (b:List Jc) (i68:Int):Nat→Int→Int→Int→Int→Int→Int→Int→(List Int)→Option (Int×Int×Int×List Jc×List Int×Int×Int×Int)
 | 0,_,_,_,_,_,_,_,_=>none
 | n+1,i78,i79,i80,i81,i82,i83,i84,c =>
 if i78<i68 then
   (hk i79 i80 i81 c i82 i83 i84 0).bind fun a =>
   (i64 (i78+1)).bind fun i106 =>
   uo b i68 n i106 a.1 a.2.1 a.2.2.1 a.2.2.2.2.1 a.2.2.2.2.2.1 a.2.2.2.2.2.2 a.2.2.2.1
 else
   some (i79,i80,i81,b,c,i82,i83,i84)
def Mt (c:Int) (d:Int) (e:Int) (f:Int) (a:List Jc) (g:List Int) (h:Int) (i:Int) (j:Int) (b:hf) (i53:Int):Option (Int×Int×Int×List Jc×List Int×Int×Int×Int):=
 if (a.length:Int)=40 then
 none
 else
 (app a [(Jc.mk c 0 i53)]).bind fun k =>
 (i64 ((b.qd.length:Int) - b.Params)).bind fun i68 =>
 uo k i68 ((i68 - 0).toNat+1) 0 d e f h i j g
def tr  (d:Uc) (e:Int) (f:Int) (g:Int) (h:List Jc) (i:List Int) (a:Int) (j:Int) (k:Int) (b:Int):Option (Int×Int×Int×List Jc×List Int×Int×Int×Int):=
 (at_ d.Ld b).bind fun c =>
 (Rl a).bind fun l =>
 (i64 (l - c.Params)).bind fun i57 =>
 Mt b e f g h i a j k c i57
def pt (c:Int) (b:Int×Int×Int×Int×List Int×Int×Int×Int) (d:List Jc) (i111:Int) (i112:Int) (i113:Int) (e:List Int):Option (Int×Int×Int×Int×List Jc×List Int×Int×Int×Int):=
 (hk b.2.1 b.2.2.1 b.2.2.2.1 e i111 i112 i113 b.1).bind fun a =>
 some (a.1,a.2.1,a.2.2.1,c,d,a.2.2.2.1,a.2.2.2.2.1,a.2.2.2.2.2.1,a.2.2.2.2.2.2)
def qt (c:Int) (a:Int×Int×Int×Int×List Int×Int×Int×Int) (i61:Int) (d:List Jc):Option (Int×Int×Int×Int×List Jc×List Int×Int×Int×Int):=
 (Rl a.2.2.2.2.2.1).bind fun e =>
 (i64 (e - i61)).bind fun i121 =>
 (Mo a.2.2.2.2.1 a.2.2.2.2.2.1 a.2.2.2.2.2.2.1 a.2.2.2.2.2.2.2 i121).bind fun b =>
 pt c a d b.2.1 b.2.2.1 b.2.2.2 b.1
def Uq (b:Int) (a:List Jc) (c:Int×Int×Int×Int×List Int×Int×Int×Int) (i59:Int) (i60:Int) (i61:Int):Option (Int×Int×Int×Int×List Jc×List Int×Int×Int×Int):=
 (i64 ((a.length:Int) - 1)).bind fun i99 =>
 (cut a 0 i99).bind fun d =>
 qt b c i61 d
def nr  (m:Uc) (e:Int) (f:Int) (g:Int) (h:Int) (b:List Jc) (i:List Int) (j:Int) (k:Int) (l:Int) (c:Kc):Option (Int×Int×Int×Int×List Jc×List Int×Int×Int×Int):=
 if c.Op=23 then
 (tr m e f g b i j k l c.A).bind fun a =>
 some (a.1,a.2.1,a.2.2.1,h,a.2.2.2.1,a.2.2.2.2.1,a.2.2.2.2.2.1,a.2.2.2.2.2.2.1,a.2.2.2.2.2.2.2)
 else
 if c.Op=24 then
   (jk e f g i j k l).bind fun n =>
   (i64 ((b.length:Int) - 1)).bind fun i62 =>
   (at_ b i62).bind fun d =>
   Uq h b n d.unit d.Vc d.base
 else
   if c.Op=25 then
  none
   else
  none
end Go.Y
namespace Go.Y
open Go.vc Go.jd
def hj (b:Uc) (i145:Int) (i146:Int) (i147:Int) (c:List Int) (d:List (List Int)) (e:List (List Int)) (f:List Int) (i164:Int) (g:List Jc) (i169:Int) (i170:Int) (i171:Int) (h:List Int):Option (Bool×Int×Int×Int×List Int×List (List Int)×List Int×List (List Int)×Int×List Jc×List Int×Int×Int×Int):=
 (An b i145 i146 i147 d f e g).bind fun a =>
 some (true,a.1,a.2.1,a.2.2.1,c,a.2.2.2.1,a.2.2.2.2.1,a.2.2.2.2.2.1,i164,a.2.2.2.2.2.2,h,i169,i170,i171)
def Nt (c:Uc) (d:List Int) (e:Int) (a:Int×Int×Int×List (List Int)×List Int×List (List Int)×List Jc) (i84:Int) (b:Jc) (i142:Int) (i191:Int) (i192:Int) (i193:Int) (i194:Int) (i195:Int) (i196:Int) (f:List Int):Option (Bool×Int×Int×Int×List Int×List (List Int)×List Int×List (List Int)×Int×List Jc×List Int×Int×Int×Int):=
 hj c i191 i192 i193 d a.2.2.2.1 a.2.2.2.2.2.1 a.2.2.2.2.1 e (a.2.2.2.2.2.2.set i84.toNat (Jc.mk b.unit i142 b.base)) i194 i195 i196 f
def Ot (d:Uc) (e:List Int) (f:Int) (b:Int×Int×Int×List (List Int)×List Int×List (List Int)×List Jc) (i84:Int) (c:Jc) (i142:Int) (a:Int×Int×Int×Int×List Int×Int×Int×Int) (g:List Int):Option (Bool×Int×Int×Int×List Int×List (List Int)×List Int×List (List Int)×Int×List Jc×List Int×Int×Int×Int):=
 hj d a.2.1 a.2.2.1 a.2.2.2.1 e b.2.2.2.1 b.2.2.2.2.2.1 b.2.2.2.2.1 f (b.2.2.2.2.2.2.set i84.toNat (Jc.mk c.unit i142 c.base)) a.2.2.2.2.2.1 a.2.2.2.2.2.2.1 a.2.2.2.2.2.2.2 g
def vo (e:Uc) (f:List Int) (g:Int) (c:Int×Int×Int×List (List Int)×List Int×List (List Int)×List Jc) (i84:Int) (d:Jc) (h:Kc) (i142:Int) (i:Int×Int×Int×Int×List Int×Int×Int×Int) (a:Int×Int×Int×Int×List Int×Int×Int×Int) (j:Bool):Option (Bool×Int×Int×Int×List Int×List (List Int)×List Int×List (List Int)×Int×List Jc×List Int×Int×Int×Int):=
 if j=true then
 none
 else
 (Ar h.Op a.1 i.1).bind fun k =>
 (hk a.2.1 a.2.2.1 a.2.2.2.1 a.2.2.2.2.1 a.2.2.2.2.2.1 a.2.2.2.2.2.2.1 a.2.2.2.2.2.2.2 k).bind fun b =>
 hj e b.1 b.2.1 b.2.2.1 f c.2.2.2.1 c.2.2.2.2.2.1 c.2.2.2.2.1 g (c.2.2.2.2.2.2.set i84.toNat (Jc.mk d.unit i142 d.base)) b.2.2.2.2.1 b.2.2.2.2.2.1 b.2.2.2.2.2.2 b.2.2.2.1
def Pt (d:Uc) (e:List Int) (f:Int) (h:List Int) (i:Int) (j:Int) (k:Int) (a:Int×Int×Int×List (List Int)×List Int×List (List Int)×List Jc) (i84:Int):Option (Bool×Int×Int×Int×List Int×List (List Int)×List Int×List (List Int)×Int×List Jc×List Int×Int×Int×Int):=
 (at_ a.2.2.2.2.2.2 i84).bind fun b =>
 (at_ d.Ld b.unit).bind fun y =>
 (at_ y.Code b.Vc).bind fun c =>
 (i64 (b.Vc+1)).bind fun i142 =>
 if c.Op=1 then
 (hk a.1 a.2.1 a.2.2.1 h i j k c.N).bind fun p =>
 hj d p.1 p.2.1 p.2.2.1 e a.2.2.2.1 a.2.2.2.2.2.1 a.2.2.2.2.1 f (a.2.2.2.2.2.2.set i84.toNat (Jc.mk b.unit i142 b.base)) p.2.2.2.2.1 p.2.2.2.2.2.1 p.2.2.2.2.2.2 p.2.2.2.1
 else
 if c.Op=2 then
   (hk a.1 a.2.1 a.2.2.1 h i j k c.A).bind fun q =>
   hj d q.1 q.2.1 q.2.2.1 e a.2.2.2.1 a.2.2.2.2.2.1 a.2.2.2.2.1 f (a.2.2.2.2.2.2.set i84.toNat (Jc.mk b.unit i142 b.base)) q.2.2.2.2.1 q.2.2.2.2.2.1 q.2.2.2.2.2.2 q.2.2.2.1
 else
   if c.Op=3 then
  (i64 (b.base+c.A)).bind fun i201 =>
  (at_ h i201).bind fun z =>
  (hk a.1 a.2.1 a.2.2.1 h i j k z).bind fun r =>
  Nt d e f a i84 b i142 r.1 r.2.1 r.2.2.1 r.2.2.2.2.1 r.2.2.2.2.2.1 r.2.2.2.2.2.2 r.2.2.2.1
   else
  if c.Op=4 then
     (jk a.1 a.2.1 a.2.2.1 h i j k).bind fun w =>
     (i64 (b.base+c.A)).bind fun i237 =>
     (at_ w.2.2.2.2.1 i237).bind fun C =>
     Ot d e f a i84 b i142 w (w.2.2.2.2.1.set i237.toNat w.1)
  else
     if c.Op=5 then
   (jk a.1 a.2.1 a.2.2.1 h i j k).bind fun s =>
   hj d s.2.1 s.2.2.1 s.2.2.2.1 e a.2.2.2.1 a.2.2.2.2.2.1 a.2.2.2.2.1 f (a.2.2.2.2.2.2.set i84.toNat (Jc.mk b.unit i142 b.base)) s.2.2.2.2.2.1 s.2.2.2.2.2.2.1 s.2.2.2.2.2.2.2 s.2.2.2.2.1
     else
   if c.Op=6 then
       (jk a.1 a.2.1 a.2.2.1 h i j k).bind fun o =>
       (hk o.2.1 o.2.2.1 o.2.2.2.1 o.2.2.2.2.1 o.2.2.2.2.2.1 o.2.2.2.2.2.2.1 o.2.2.2.2.2.2.2 (Nf (0 - o.1))).bind fun t =>
       hj d t.1 t.2.1 t.2.2.1 e a.2.2.2.1 a.2.2.2.2.2.1 a.2.2.2.2.1 f (a.2.2.2.2.2.2.set i84.toNat (Jc.mk b.unit i142 b.base)) t.2.2.2.2.1 t.2.2.2.2.2.1 t.2.2.2.2.2.2 t.2.2.2.1
   else
       if c.Op=7 then
    none
       else
    if (8:Int)≤c.Op then
         if c.Op≤20 then
     (jk a.1 a.2.1 a.2.2.1 h i j k).bind fun l =>
     (jk l.2.1 l.2.2.1 l.2.2.2.1 l.2.2.2.2.1 l.2.2.2.2.2.1 l.2.2.2.2.2.2.1 l.2.2.2.2.2.2.2).bind fun x =>
     if c.Op=11 then
           vo d e f a i84 b c i142 l x (decide (l.1=0))
     else
           if c.Op=12 then
      vo d e f a i84 b c i142 l x (decide (l.1=0))
           else
      vo d e f a i84 b c i142 l x false
         else
     if c.Op=21 then
           hj d a.1 a.2.1 a.2.2.1 e a.2.2.2.1 a.2.2.2.2.2.1 a.2.2.2.2.1 f (a.2.2.2.2.2.2.set i84.toNat (Jc.mk b.unit c.A b.base)) i j k h
     else
           if c.Op=22 then
      (jk a.1 a.2.1 a.2.2.1 h i j k).bind fun g =>
      if g.1=0 then
             hj d g.2.1 g.2.2.1 g.2.2.2.1 e a.2.2.2.1 a.2.2.2.2.2.1 a.2.2.2.2.1 f (a.2.2.2.2.2.2.set i84.toNat (Jc.mk b.unit c.A b.base)) g.2.2.2.2.2.1 g.2.2.2.2.2.2.1 g.2.2.2.2.2.2.2 g.2.2.2.2.1
      else
             hj d g.2.1 g.2.2.1 g.2.2.2.1 e a.2.2.2.1 a.2.2.2.2.2.1 a.2.2.2.2.1 f (a.2.2.2.2.2.2.set i84.toNat (Jc.mk b.unit i142 b.base)) g.2.2.2.2.2.1 g.2.2.2.2.2.2.1 g.2.2.2.2.2.2.2 g.2.2.2.2.1
           else
      if c.Op=26 then
             none
      else
             if c.Op=27 then
       (sr a.2.2.2.1 a.2.2.2.2.1 a.2.2.2.2.2.1 c.A).bind fun v =>
       (zn 3 c.A v.1).bind fun D =>
       (hk a.1 a.2.1 a.2.2.1 h i j k v.1).bind fun u =>
       hj d u.1 u.2.1 u.2.2.1 e v.2.1 v.2.2.2 v.2.2.1 f (a.2.2.2.2.2.2.set i84.toNat (Jc.mk b.unit i142 b.base)) u.2.2.2.2.1 u.2.2.2.2.2.1 u.2.2.2.2.2.2 u.2.2.2.1
             else
       if c.Op=28 then
               (jk a.1 a.2.1 a.2.2.1 h i j k).bind fun m =>
               (app e [m.1]).bind fun B =>
               (zn 1 0 m.1).bind fun E =>
               hj d m.2.1 m.2.2.1 m.2.2.2.1 B a.2.2.2.1 a.2.2.2.2.2.1 a.2.2.2.2.1 f (a.2.2.2.2.2.2.set i84.toNat (Jc.mk b.unit i142 b.base)) m.2.2.2.2.2.1 m.2.2.2.2.2.2.1 m.2.2.2.2.2.2.2 m.2.2.2.2.1
       else
               (nr d a.1 a.2.1 a.2.2.1 f (a.2.2.2.2.2.2.set i84.toNat (Jc.mk b.unit i142 b.base)) h i j k c).bind fun n =>
               hj d n.1 n.2.1 n.2.2.1 e a.2.2.2.1 a.2.2.2.2.2.1 a.2.2.2.2.1 n.2.2.2.1 n.2.2.2.2.1 n.2.2.2.2.2.2.1 n.2.2.2.2.2.2.2.1 n.2.2.2.2.2.2.2.2 n.2.2.2.2.2.1
    else
         none
def Bn  (b:Uc) (i:Int) (j:Int) (k:Int) (c:List Int) (l:List (List Int)) (m:List Int) (n:List (List Int)) (d:Int) (o:List Jc) (e:List Int) (f:Int) (g:Int) (h:Int):Option (Bool×Int×Int×Int×List Int×List (List Int)×List Int×List (List Int)×Int×List Jc×List Int×Int×Int×Int):=
 (An b i j k l m n o).bind fun a =>
 if a.1≠1 then
 some (false,a.1,a.2.1,a.2.2.1,c,a.2.2.2.1,a.2.2.2.2.1,a.2.2.2.2.2.1,d,a.2.2.2.2.2.2,e,f,g,h)
 else
 (i64 ((a.2.2.2.2.2.2.length:Int) - 1)).bind fun i86 =>
 (at_ a.2.2.2.2.2.2 i86).bind fun p =>
 Pt b c d e f g h a i86
end Go.Y
namespace Go.Y
open Go.vc Go.jd
def Ap (i74:Int) (i75:Int) (i76:Int) (i77:Int) (b:List Int) (c:Int→Int→Int→Int→(List Int)→Option (Int×List Jc×List Int×Int×Int×Int)) (i102:Int):Option (Int×List Jc×List Int×Int×Int×Int):=
 (Zp b i75 i76 i77 i102).bind fun a =>
 (i64 (i74+1)).bind fun i119 =>
 c i119 a.2.2.1 a.2.2.2.1 a.2.2.2.2 a.2.1
def nm (b:Int) (a:List Int) (c:hf):Nat→Int→Int→Int→Int→(List Int)→Option (Int×List Jc×List Int×Int×Int×Int)
 | 0,_,_,_,_,_=>none
 | n+1,i74,i75,i76,i77,d =>
 if i74<(c.qd.length:Int) then
   if i74<(a.length:Int) then
  (at_ a i74).bind fun e =>
  Ap i74 i75 i76 i77 d (nm b a c n) e
   else
  Ap i74 i75 i76 i77 d (nm b a c n) 0
 else
   some (0,([(Jc.mk b 0 0)]:List Jc),d,i75,i76,i77)
def Tp  (d:Uc) (b:Int) (e:List Int):Option (Int×List Jc×List Int×Int×Int×Int):=
 (ev 8 400).bind fun a =>
 (at_ d.Ld b).bind fun c =>
 nm b e c (c.qd.length+1) 0 a.2.1 a.2.2.1 a.2.2.2 a.1
def Bu  (a:List Int) (b:Int) (e:Int) (f:Int):Option (List Int):=
 (cut a 0 b).bind fun c =>
 (app ([]:List Int) c).bind fun d =>
 some d
def Mu  (h:Int) (i:Int) (j:Int) (c:List Int) (b:Int) (d:Int) (e:Int) (f:Int):Option (List Int×Int×Int×Int×List Int×Int×Int×Int):=
 (Bu c b d e).bind fun g =>
 (Rl b).bind fun k =>
 (i64 (k - f)).bind fun i36 =>
 (cut g i36 g.length).bind fun l =>
 (Mo c b d e f).bind fun a =>
 some (l,h,i,j,a.1,a.2.1,a.2.2.1,a.2.2.2)
end Go.Y
namespace Go.Y
open Go.vc Go.jd
structure di where
 state:Int
 up:Option Nat
 fr:List Jc
 l:List Int
 live:Int
 Eg:Int
 mg:Int
structure gd where
 cs:List di
 now:Nat
def gd.length (p:gd):Nat:=p.cs.length
def gd.put (p:gd) (c:di):gd:=⟨p.cs.set p.now c,p.now⟩
def aq (m:Uc) (p:gd) (s bx t:Int) (fd:List (List Int)) (Zc:List Int) (lb:List (List Int)):Option (gd×Int×Int×Int×List (List Int)×List Int×List (List Int)):=
 (p.cs[p.now]?).bind fun c =>
 (An m s bx t fd Zc lb c.fr).bind fun r =>
 some (p.put { c with fr:=r.2.2.2.2.2.2 },r.1,r.2.1,r.2.2.1,r.2.2.2.1,r.2.2.2.2.1,r.2.2.2.2.2.1)
def Cn (p:gd) (s bx t v:Int):Option (gd×Int×Int×Int):=
 (p.cs[p.now]?).bind fun c =>
 (hk s bx t c.l c.live c.Eg c.mg v).bind fun r =>
 some (p.put { c with l:=r.2.2.2.1,live:=r.2.2.2.2.1,Eg:=r.2.2.2.2.2.1,mg:=r.2.2.2.2.2.2 },r.1,r.2.1,r.2.2.1)
def Ln (p:gd) (s bx t:Int):Option (Int×gd×Int×Int×Int):=
 (p.cs[p.now]?).bind fun c =>
 (jk s bx t c.l c.live c.Eg c.mg).bind fun r =>
 some (r.1,p.put { c with l:=r.2.2.2.2.1,live:=r.2.2.2.2.2.1,Eg:=r.2.2.2.2.2.2.1,mg:=r.2.2.2.2.2.2.2 },r.2.1,r.2.2.1,r.2.2.2.1)
def Nu (p:gd) (s bx t n:Int):Option (List Int×gd×Int×Int×Int):=
 (p.cs[p.now]?).bind fun c =>
 (Mu s bx t c.l c.live c.Eg c.mg n).bind fun r =>
 some (r.1,p.put { c with l:=r.2.2.2.2.1,live:=r.2.2.2.2.2.1,Eg:=r.2.2.2.2.2.2.1,mg:=r.2.2.2.2.2.2.2 },r.2.1,r.2.2.1,r.2.2.2.1)
def Ix (m:Uc) (p:gd) (s bx t:Int) (x:Kc):Option (gd×Int×Int×Int):=
 (at_ m.Ld x.A).bind fun u =>
 (Nu p s bx t u.Params).bind fun a =>
 if (30:Int)<a.2.1.length then none else
 (Tp m x.A a.1).bind fun b =>
 (zn 6 0 x.A).bind fun _ =>
 (i64 (((a.2.1.cs++[di.mk b.1 none b.2.1 b.2.2.1 b.2.2.2.1 b.2.2.2.2.1 b.2.2.2.2.2]).length:Int) - 1)).bind fun n =>
 Cn ⟨a.2.1.cs++[di.mk b.1 none b.2.1 b.2.2.1 b.2.2.2.1 b.2.2.2.2.1 b.2.2.2.2.2],a.2.1.now⟩ a.2.2.1 a.2.2.2.1 a.2.2.2.2 n
def br (p:gd) (s bx t:Int) (j:Nat) (v:Int):Option (gd×Int×Int×Int):=
 if j=p.now then none else
 (p.cs[j]?).bind fun d =>
 if d.state=0 then some (⟨p.cs.set j { d with state:=2,up:=some p.now },j⟩,s,bx,t)
 else if d.state=1 then Cn ⟨p.cs.set j { d with state:=2,up:=some p.now },j⟩ s bx t v
 else none
def Jo (p:gd) (s bx t st v:Int):Option (gd×Int×Int×Int):=
 (p.cs[p.now]?).bind fun c=>c.up.bind fun j =>
 Cn ⟨p.cs.set p.now { c with state:=st,up:=none },j⟩ s bx t v
def ti (m:Uc) (p:gd) (s bx t:Int) (x:Kc):Option (gd×Int×Int×Int):=
 if x.Op=25 then Jo p s bx t 3 0
 else if x.Op=29 then Ix m p s bx t x
 else if x.Op=30 then (Ln p s bx t).bind fun a=>(Ln a.2.1 a.2.2.1 a.2.2.2.1 a.2.2.2.2).bind fun b =>
 if b.1<0 then none else br b.2.1 b.2.2.1 b.2.2.2.1 b.2.2.2.2 b.1.toNat a.1
 else if x.Op=31 then (Ln p s bx t).bind fun a=>Jo a.2.1 a.2.2.1 a.2.2.2.1 a.2.2.2.2 1 a.1
 else if x.Op=32 then (Ln p s bx t).bind fun a=>if a.1<0 then none else (a.2.1.cs[a.1.toNat]?).bind fun d =>
 (il (decide (d.state≠3))).bind fun b=>Cn a.2.1 a.2.2.1 a.2.2.2.1 a.2.2.2.2 b
 else none
def ju (m:Uc) (p:gd) (c:di) (out:List Int) (a:Int×Int×Int×List (List Int)×List Int×List (List Int)×List Jc) (i84:Int):Option (Bool×gd×Int×Int×Int×List Int×List (List Int)×List Int×List (List Int)):=
 (at_ a.2.2.2.2.2.2 i84).bind fun b =>
 (at_ m.Ld b.unit).bind fun d =>
 (at_ d.Code b.Vc).bind fun e =>
 (i64 (b.Vc+1)).bind fun i142 =>
 (ti m (p.put { c with fr:=a.2.2.2.2.2.2.set i84.toNat (Jc.mk b.unit i142 b.base) }) a.1 a.2.1 a.2.2.1 e).bind fun q =>
 (aq m q.1 q.2.1 q.2.2.1 q.2.2.2 a.2.2.2.1 a.2.2.2.2.1 a.2.2.2.2.2.1).bind fun z =>
 some (true,z.1,z.2.1,z.2.2.1,z.2.2.2.1,out,z.2.2.2.2.1,z.2.2.2.2.2.1,z.2.2.2.2.2.2)
def Mn (m:Uc) (p:gd) (s bx t:Int) (out:List Int) (fd:List (List Int)) (Zc:List Int) (lb:List (List Int)):Option (Bool×gd×Int×Int×Int×List Int×List (List Int)×List Int×List (List Int)):=
 (p.cs[p.now]?).bind fun c =>
 (An m s bx t fd Zc lb c.fr).bind fun a =>
 if a.1≠1 then none else
 (i64 ((a.2.2.2.2.2.2.length:Int) - 1)).bind fun i86 =>
 (at_ a.2.2.2.2.2.2 i86).bind fun b =>
 ju m p c out a i86
def Cu (m:Uc) (p:gd) (s bx t:Int) (out:List Int) (fd:List (List Int)) (Zc:List Int) (lb:List (List Int)):Option (Bool×gd×Int×Int×Int×List Int×List (List Int)×List Int×List (List Int)):=
 (p.cs[p.now]?).bind fun c =>
 (Bn m s bx t out fd Zc lb c.state c.fr c.l c.live c.Eg c.mg).bind fun r =>
 some (r.1,p.put { c with state:=r.2.2.2.2.2.2.2.2.1,fr:=r.2.2.2.2.2.2.2.2.2.1,l:=r.2.2.2.2.2.2.2.2.2.2.1,live:=r.2.2.2.2.2.2.2.2.2.2.2.1,Eg:=r.2.2.2.2.2.2.2.2.2.2.2.2.1,mg:=r.2.2.2.2.2.2.2.2.2.2.2.2.2 },r.2.1,r.2.2.1,r.2.2.2.1,r.2.2.2.2.1,r.2.2.2.2.2.1,r.2.2.2.2.2.2.1,r.2.2.2.2.2.2.2.1)
def Dn (m:Uc) (p:gd) (s bx t:Int) (out:List Int) (fd:List (List Int)) (Zc:List Int) (lb:List (List Int)):Option (Bool×gd×Int×Int×Int×List Int×List (List Int)×List Int×List (List Int)):=
 match Mn m p s bx t out fd Zc lb with
 | some r=>some r
 | none=>Cu m p s bx t out fd Zc lb
def fv (m:Uc) (u:Int):Option (gd×Int×Int×Int×List Int):=
 (Tp m u ([]:List Int)).bind fun r =>
 some (⟨[di.mk 2 none r.2.1 r.2.2.1 r.2.2.2.1 r.2.2.2.2.1 r.2.2.2.2.2],0⟩,1,0,0,([]:List Int))
end Go.Y
namespace Go.Y
open Go.vc Go.jd
def rm (p_1:Uc) (c:Int):Nat→Int→Int→Int→Int→gd→(List Int)→(List Int)→(List (List Int))→(List (List Int))→Option (Wj×Int)
 | 0,_,_,_,_,_,_,_,_,_=>none
 | n+1,b,d,e,f,g,h,i,j,k =>
 if b<c then
   (Dn p_1 g d e f h j i k).bind fun a =>
   if a.1=true then
  (i64 (b+1)).bind fun l =>
  rm p_1 c n l a.2.2.1 a.2.2.2.1 a.2.2.2.2.1 a.2.1 a.2.2.2.2.2.1 a.2.2.2.2.2.2.2.1 a.2.2.2.2.2.2.1 a.2.2.2.2.2.2.2.2
   else
  some ((Wj.mk a.2.2.1 a.2.2.2.1 a.2.2.2.2.1 a.2.2.2.2.2.1 a.2.2.2.2.2.2.2.2 a.2.2.2.2.2.2.2.1 b),0)
 else
   none
def Xq (fu:Nat) (p_1:Uc) (c:Int) (d:List (List Int)) (e:Int) (f:List Int) (g:List Int) (h:List (List Int)):Option (Wj×Int):=
 (at_ f c).bind fun i =>
 (fv p_1 i).bind fun b =>
 (aq p_1 b.1 b.2.1 b.2.2.1 b.2.2.2.1 d g h).bind fun a =>
 rm p_1 e fu 0 a.2.1 a.2.2.1 a.2.2.2.1 a.1 b.2.2.2.2 a.2.2.2.2.2.1 a.2.2.2.2.1 a.2.2.2.2.2.2
def wo (i231:Int) (a:Int→Option (Wj×Int)) (b:Bool):Option (Wj×Int):=
 if b=true then
 none
 else
 (i64 (i231+1)).bind fun i276 =>
 a i276
def Il (p_1:Uc) (i119:Int) (a:List Int) (b:Int→Option (Wj×Int)):Nat→Int→Option (Wj×Int)
 | 0,_=>none
 | n+1,i231 =>
 if i231<(a.length:Int) then
   (at_ a i231).bind fun c =>
   (at_ p_1.Se i119).bind fun d =>
   if d.we=2 then
  if c≠0 then
     wo i231 (Il p_1 i119 a b n) (decide (c≠1))
  else
     wo i231 (Il p_1 i119 a b n) false
   else
  wo i231 (Il p_1 i119 a b n) false
 else
   (i64 (i119+1)).bind fun i278 =>
   b i278
def tm (fu:Nat) (p_1:Uc) (b:Int) (a:List (List Int)) (c:Int) (d:List Int):Nat→Int→Option (Wj×Int)
 | 0,_=>none
 | n+1,i119 =>
 if i119<(a.length:Int) then
   (at_ a i119).bind fun e =>
   Il p_1 i119 e (tm fu p_1 b a c d n) (e.length+1) 0
 else
   (Vk (a.length:Int)).bind fun f =>
   (Vk (a.length:Int)).bind fun g =>
   Xq fu p_1 b a c d (List.replicate f (0:Int)) (List.replicate g (([]:List Int):List Int))
def ur (fu:Nat)  (p_1:Uc) (a:Int) (b:List (List Int)) (c:Int):Option (Wj×Int):=
 (iu fu p_1).bind fun e =>
 if e.Wh≠0 then
 none
 else
 (Au p_1).bind fun d =>
 if a<0 then
   none
 else
   if (d.length:Int)≤a then
  none
   else
  if c<0 then
     none
  else
     if (5000:Int)<c then
   none
     else
   if (b.length:Int)≠(p_1.Se.length:Int) then
       none
   else
       tm fu p_1 a b c d (b.length+1) 0
end Go.Y
namespace Go.Y
open Go.vc Go.jd
def ez:List UInt8:=[98,111,120,32,105,110,32,110,117,109,32,50,48,32,59,10,103,101,110,32,109,101,97,110,40,41,32,116,97,107,101,115,32,110,117,109,32,121,105,101,108,100,115,32,110,117,109,32,123,10,32,32,108,101,116,32,115,32,61,32,48,32,59,10,32,32,108,101,116,32,110,32,61,32,48,32,59,10,32,32,108,101,116,32,120,32,61,32,121,105,101,108,100,40,48,41,32,59,10,32,32,119,104,105,108,101,32,116,114,117,101,32,123,32,115,32,61,32,115,32,43,32,120,32,59,32,110,32,61,32,110,32,43,32,49,32,59,32,120,32,61,32,121,105,101,108,100,40,115,32,47,32,110,41,32,59,32,125,10,125,10,116,97,115,107,32,109,97,105,110,32,123,10,32,32,108,101,116,32,109,32,61,32,115,116,97,114,116,32,109,101,97,110,40,41,32,59,10,32,32,100,111,32,114,101,115,117,109,101,40,109,44,32,48,41,32,59,10,32,32,119,104,105,108,101,32,116,114,117,101,32,123,32,111,117,116,32,114,101,115,117,109,101,40,109,44,32,114,101,99,118,40,105,110,41,41,32,59,32,125,10,125,10]
def fz:List UInt8:=[98,111,120,32,105,110,32,110,117,109,32,50,48,32,59,10,116,97,115,107,32,109,97,105,110,32,123,10,32,32,119,104,105,108,101,32,116,114,117,101,32,123,10,32,32,32,32,108,101,116,32,120,32,61,32,114,101,99,118,40,105,110,41,32,59,10,32,32,32,32,108,101,116,32,110,32,61,32,48,32,59,10,32,32,32,32,119,104,105,108,101,32,120,32,62,32,48,32,123,32,110,32,61,32,110,32,43,32,120,32,37,32,50,32,59,32,120,32,61,32,120,32,47,32,50,32,59,32,125,10,32,32,32,32,111,117,116,32,110,32,59,10,32,32,125,10,125,10]
def gz:List UInt8:=[98,111,120,32,105,110,32,110,117,109,32,50,48,32,59,10,116,97,115,107,32,109,97,105,110,32,123,10,32,32,108,101,116,32,108,97,115,116,32,61,32,114,101,99,118,40,105,110,41,32,59,10,32,32,108,101,116,32,110,32,61,32,49,32,59,10,32,32,119,104,105,108,101,32,116,114,117,101,32,123,10,32,32,32,32,108,101,116,32,120,32,61,32,114,101,99,118,40,105,110,41,32,59,10,32,32,32,32,105,102,32,120,32,61,61,32,108,97,115,116,32,123,32,110,32,61,32,110,32,43,32,49,32,59,32,125,32,101,108,115,101,32,123,32,111,117,116,32,108,97,115,116,32,59,32,111,117,116,32,110,32,59,32,108,97,115,116,32,61,32,120,32,59,32,110,32,61,32,49,32,59,32,125,10,32,32,125,10,125,10]
def hz:List UInt8:=[98,111,120,32,105,110,32,110,117,109,32,50,48,32,59,10,116,97,115,107,32,109,97,105,110,32,123,10,32,32,119,104,105,108,101,32,116,114,117,101,32,123,10,32,32,32,32,108,101,116,32,110,32,61,32,114,101,99,118,40,105,110,41,32,59,10,32,32,32,32,108,101,116,32,107,32,61,32,48,32,59,10,32,32,32,32,119,104,105,108,101,32,110,32,62,32,49,32,123,10,32,32,32,32,32,32,105,102,32,110,32,37,32,50,32,61,61,32,48,32,123,32,110,32,61,32,110,32,47,32,50,32,59,32,125,32,101,108,115,101,32,123,32,110,32,61,32,51,32,42,32,110,32,43,32,49,32,59,32,125,10,32,32,32,32,32,32,107,32,61,32,107,32,43,32,49,32,59,10,32,32,32,32,125,10,32,32,32,32,111,117,116,32,107,32,59,10,32,32,125,10,125,10]
def iz:List UInt8:=[98,111,120,32,105,110,32,110,117,109,32,50,48,32,59,10,116,97,115,107,32,109,97,105,110,32,123,10,32,32,108,101,116,32,108,97,115,116,32,61,32,114,101,99,118,40,105,110,41,32,59,10,32,32,111,117,116,32,108,97,115,116,32,59,10,32,32,119,104,105,108,101,32,116,114,117,101,32,123,10,32,32,32,32,108,101,116,32,120,32,61,32,114,101,99,118,40,105,110,41,32,59,10,32,32,32,32,105,102,32,120,32,33,61,32,108,97,115,116,32,123,32,111,117,116,32,120,32,59,32,108,97,115,116,32,61,32,120,32,59,32,125,10,32,32,125,10,125,10]
def jz:List UInt8:=[98,111,120,32,105,110,32,110,117,109,32,50,48,32,59,10,116,97,115,107,32,109,97,105,110,32,123,10,32,32,119,104,105,108,101,32,116,114,117,101,32,123,10,32,32,32,32,108,101,116,32,120,32,61,32,114,101,99,118,40,105,110,41,32,59,10,32,32,32,32,108,101,116,32,115,32,61,32,48,32,59,10,32,32,32,32,119,104,105,108,101,32,120,32,62,32,48,32,123,32,115,32,61,32,115,32,43,32,120,32,37,32,49,48,32,59,32,120,32,61,32,120,32,47,32,49,48,32,59,32,125,10,32,32,32,32,111,117,116,32,115,32,59,10,32,32,125,10,125,10]
def kz:List UInt8:=[98,111,120,32,105,110,32,110,117,109,32,50,48,32,59,10,116,97,115,107,32,109,97,105,110,32,123,10,32,32,119,104,105,108,101,32,116,114,117,101,32,123,32,111,117,116,32,114,101,99,118,40,105,110,41,32,42,32,50,32,59,32,125,10,125,10]
def lz:List UInt8:=[98,111,120,32,105,110,32,110,117,109,32,50,48,32,59,10,116,97,115,107,32,109,97,105,110,32,123,10,32,32,119,104,105,108,101,32,116,114,117,101,32,123,10,32,32,32,32,108,101,116,32,120,32,61,32,114,101,99,118,40,105,110,41,32,59,10,32,32,32,32,105,102,32,120,32,37,32,50,32,61,61,32,48,32,123,32,111,117,116,32,120,32,59,32,125,10,32,32,125,10,125,10]
def mz:List UInt8:=[98,111,120,32,105,110,32,110,117,109,32,50,48,32,59,10,102,110,32,102,97,99,116,40,110,32,110,117,109,41,32,110,117,109,32,123,10,32,32,105,102,32,110,32,60,32,50,32,123,32,114,101,116,117,114,110,32,49,32,59,32,125,10,32,32,114,101,116,117,114,110,32,110,32,42,32,102,97,99,116,40,110,32,45,32,49,41,32,59,10,125,10,116,97,115,107,32,109,97,105,110,32,123,10,32,32,119,104,105,108,101,32,116,114,117,101,32,123,32,111,117,116,32,102,97,99,116,40,114,101,99,118,40,105,110,41,41,32,59,32,125,10,125,10]
def Ey:List UInt8:=[98,111,120,32,105,110,32,110,117,109,32,50,48,32,59,10,35,32,101,97,99,104,32,110,117,109,98,101,114,32,97,115,107,115,32,102,111,114,32,97,115,32,109,97,110,121,10,103,101,110,32,102,105,98,115,40,41,32,116,97,107,101,115,32,98,111,111,108,32,121,105,101,108,100,115,32,110,117,109,32,123,10,32,32,108,101,116,32,97,32,61,32,48,32,59,10,32,32,108,101,116,32,98,32,61,32,49,32,59,10,32,32,119,104,105,108,101,32,121,105,101,108,100,40,97,41,32,123,32,108,101,116,32,99,32,61,32,97,32,43,32,98,32,59,32,97,32,61,32,98,32,59,32,98,32,61,32,99,32,59,32,125,10,125,10,116,97,115,107,32,109,97,105,110,32,123,10,32,32,108,101,116,32,102,32,61,32,115,116,97,114,116,32,102,105,98,115,40,41,32,59,10,32,32,119,104,105,108,101,32,116,114,117,101,32,123,10,32,32,32,32,108,101,116,32,110,32,61,32,114,101,99,118,40,105,110,41,32,59,10,32,32,32,32,119,104,105,108,101,32,110,32,62,32,48,32,123,32,111,117,116,32,114,101,115,117,109,101,40,102,44,32,116,114,117,101,41,32,59,32,110,32,61,32,110,32,45,32,49,32,59,32,125,10,32,32,125,10,125,10]
def Fy:List UInt8:=[98,111,120,32,105,110,32,110,117,109,32,50,48,32,59,10,98,111,120,32,111,112,101,110,32,98,111,111,108,32,50,48,32,59,10,116,97,115,107,32,109,97,105,110,32,123,10,32,32,119,104,105,108,101,32,116,114,117,101,32,123,10,32,32,32,32,108,101,116,32,120,32,61,32,114,101,99,118,40,105,110,41,32,59,10,32,32,32,32,105,102,32,114,101,99,118,40,111,112,101,110,41,32,123,32,111,117,116,32,120,32,59,32,125,10,32,32,125,10,125,10]
def Gy:List UInt8:=[98,111,120,32,105,110,32,110,117,109,32,50,48,32,59,10,102,110,32,103,99,100,40,97,32,110,117,109,44,32,98,32,110,117,109,41,32,110,117,109,32,123,10,32,32,105,102,32,98,32,61,61,32,48,32,123,32,114,101,116,117,114,110,32,97,32,59,32,125,10,32,32,114,101,116,117,114,110,32,103,99,100,40,98,44,32,97,32,37,32,98,41,32,59,10,125,10,116,97,115,107,32,109,97,105,110,32,123,10,32,32,119,104,105,108,101,32,116,114,117,101,32,123,32,111,117,116,32,103,99,100,40,114,101,99,118,40,105,110,41,44,32,114,101,99,118,40,105,110,41,41,32,59,32,125,10,125,10]
def Hy:List UInt8:=[98,111,120,32,105,110,32,110,117,109,32,50,48,32,59,10,102,110,32,109,97,120,40,97,32,110,117,109,44,32,98,32,110,117,109,41,32,110,117,109,32,123,10,32,32,105,102,32,97,32,60,32,98,32,123,32,114,101,116,117,114,110,32,98,32,59,32,125,10,32,32,114,101,116,117,114,110,32,97,32,59,10,125,10,116,97,115,107,32,109,97,105,110,32,123,10,32,32,108,101,116,32,109,32,61,32,114,101,99,118,40,105,110,41,32,59,10,32,32,119,104,105,108,101,32,116,114,117,101,32,123,32,111,117,116,32,109,32,59,32,109,32,61,32,109,97,120,40,109,44,32,114,101,99,118,40,105,110,41,41,32,59,32,125,10,125,10]
def Iy:List UInt8:=[98,111,120,32,97,32,110,117,109,32,50,48,32,59,10,98,111,120,32,98,32,110,117,109,32,50,48,32,59,10,116,97,115,107,32,109,97,105,110,32,123,10,32,32,108,101,116,32,120,32,61,32,114,101,99,118,40,97,41,32,59,10,32,32,108,101,116,32,121,32,61,32,114,101,99,118,40,98,41,32,59,10,32,32,119,104,105,108,101,32,116,114,117,101,32,123,10,32,32,32,32,105,102,32,120,32,60,61,32,121,32,123,32,111,117,116,32,120,32,59,32,120,32,61,32,114,101,99,118,40,97,41,32,59,32,125,32,101,108,115,101,32,123,32,111,117,116,32,121,32,59,32,121,32,61,32,114,101,99,118,40,98,41,32,59,32,125,10,32,32,125,10,125,10]
def Jy:List UInt8:=[98,111,120,32,105,110,32,110,117,109,32,50,48,32,59,10,116,97,115,107,32,109,97,105,110,32,123,10,32,32,119,104,105,108,101,32,116,114,117,101,32,123,32,111,117,116,32,114,101,99,118,40,105,110,41,32,45,32,114,101,99,118,40,105,110,41,32,59,32,125,10,125,10]
def Ky:List UInt8:=[98,111,120,32,112,105,110,103,32,110,117,109,32,49,32,59,10,98,111,120,32,112,111,110,103,32,110,117,109,32,49,32,59,10,116,97,115,107,32,111,110,101,32,123,10,32,32,108,101,116,32,120,32,61,32,49,32,59,10,32,32,119,104,105,108,101,32,120,32,60,32,49,48,48,32,123,32,115,101,110,100,32,112,105,110,103,32,120,32,59,32,120,32,61,32,114,101,99,118,40,112,111,110,103,41,32,59,32,111,117,116,32,120,32,59,32,125,10,125,10,116,97,115,107,32,111,116,104,101,114,32,123,10,32,32,119,104,105,108,101,32,116,114,117,101,32,123,32,115,101,110,100,32,112,111,110,103,32,114,101,99,118,40,112,105,110,103,41,32,42,32,50,32,59,32,125,10,125,10]
def Ly:List UInt8:=[98,111,120,32,105,110,32,110,117,109,32,50,48,32,59,10,116,97,115,107,32,109,97,105,110,32,123,10,32,32,119,104,105,108,101,32,116,114,117,101,32,123,10,32,32,32,32,108,101,116,32,120,32,61,32,114,101,99,118,40,105,110,41,32,59,10,32,32,32,32,108,101,116,32,110,32,61,32,114,101,99,118,40,105,110,41,32,59,10,32,32,32,32,108,101,116,32,112,32,61,32,49,32,59,10,32,32,32,32,119,104,105,108,101,32,110,32,62,32,48,32,123,10,32,32,32,32,32,32,105,102,32,110,32,37,32,50,32,61,61,32,49,32,123,32,112,32,61,32,112,32,42,32,120,32,59,32,125,10,32,32,32,32,32,32,120,32,61,32,120,32,42,32,120,32,59,10,32,32,32,32,32,32,110,32,61,32,110,32,47,32,50,32,59,10,32,32,32,32,125,10,32,32,32,32,111,117,116,32,112,32,59,10,32,32,125,10,125,10]
def My:List UInt8:=[98,111,120,32,105,110,32,110,117,109,32,50,48,32,59,10,102,110,32,112,114,105,109,101,40,110,32,110,117,109,41,32,98,111,111,108,32,123,10,32,32,105,102,32,110,32,60,32,50,32,123,32,114,101,116,117,114,110,32,102,97,108,115,101,32,59,32,125,10,32,32,108,101,116,32,100,32,61,32,50,32,59,10,32,32,119,104,105,108,101,32,100,32,42,32,100,32,60,61,32,110,32,123,10,32,32,32,32,105,102,32,110,32,37,32,100,32,61,61,32,48,32,123,32,114,101,116,117,114,110,32,102,97,108,115,101,32,59,32,125,10,32,32,32,32,100,32,61,32,100,32,43,32,49,32,59,10,32,32,125,10,32,32,114,101,116,117,114,110,32,116,114,117,101,32,59,10,125,10,116,97,115,107,32,109,97,105,110,32,123,10,32,32,119,104,105,108,101,32,116,114,117,101,32,123,32,111,117,116,32,112,114,105,109,101,40,114,101,99,118,40,105,110,41,41,32,59,32,125,10,125,10]
def Ny:List UInt8:=[98,111,120,32,105,110,32,110,117,109,32,50,48,32,59,10,35,32,97,32,103,101,110,101,114,97,116,111,114,32,119,105,116,104,105,110,32,97,32,103,101,110,101,114,97,116,111,114,10,103,101,110,32,105,110,110,101,114,40,110,32,110,117,109,41,32,116,97,107,101,115,32,98,111,111,108,32,121,105,101,108,100,115,32,110,117,109,32,123,10,32,32,108,101,116,32,105,32,61,32,48,32,59,10,32,32,119,104,105,108,101,32,105,32,60,32,110,32,123,32,100,111,32,121,105,101,108,100,40,105,41,32,59,32,105,32,61,32,105,32,43,32,49,32,59,32,125,10,125,10,103,101,110,32,111,117,116,101,114,40,41,32,116,97,107,101,115,32,110,117,109,32,121,105,101,108,100,115,32,110,117,109,32,123,10,32,32,108,101,116,32,110,32,61,32,121,105,101,108,100,40,48,41,32,59,10,32,32,119,104,105,108,101,32,116,114,117,101,32,123,10,32,32,32,32,108,101,116,32,103,32,61,32,115,116,97,114,116,32,105,110,110,101,114,40,110,41,32,59,10,32,32,32,32,108,101,116,32,115,32,61,32,48,32,59,10,32,32,32,32,119,104,105,108,101,32,97,108,105,118,101,40,103,41,32,123,32,115,32,61,32,115,32,43,32,114,101,115,117,109,101,40,103,44,32,116,114,117,101,41,32,59,32,125,10,32,32,32,32,110,32,61,32,121,105,101,108,100,40,115,41,32,59,10,32,32,125,10,125,10,116,97,115,107,32,109,97,105,110,32,123,10,32,32,108,101,116,32,111,32,61,32,115,116,97,114,116,32,111,117,116,101,114,40,41,32,59,10,32,32,100,111,32,114,101,115,117,109,101,40,111,44,32,48,41,32,59,10,32,32,119,104,105,108,101,32,116,114,117,101,32,123,32,111,117,116,32,114,101,115,117,109,101,40,111,44,32,114,101,99,118,40,105,110,41,41,32,59,32,125,10,125,10]
def Oy:List UInt8:=[98,111,120,32,105,110,116,115,32,110,117,109,32,49,32,59,10,98,111,120,32,111,100,100,32,110,117,109,32,49,32,59,10,98,111,120,32,114,101,115,116,32,110,117,109,32,49,32,59,10,116,97,115,107,32,110,117,109,98,101,114,115,32,123,10,32,32,108,101,116,32,105,32,61,32,50,32,59,10,32,32,119,104,105,108,101,32,105,32,60,32,50,54,32,123,32,115,101,110,100,32,105,110,116,115,32,105,32,59,32,105,32,61,32,105,32,43,32,49,32,59,32,125,10,125,10,116,97,115,107,32,116,119,111,32,123,10,32,32,111,117,116,32,50,32,59,10,32,32,119,104,105,108,101,32,116,114,117,101,32,123,32,108,101,116,32,120,32,61,32,114,101,99,118,40,105,110,116,115,41,32,59,32,105,102,32,120,32,37,32,50,32,33,61,32,48,32,123,32,115,101,110,100,32,111,100,100,32,120,32,59,32,125,32,125,10,125,10,116,97,115,107,32,116,104,114,101,101,32,123,10,32,32,111,117,116,32,51,32,59,10,32,32,119,104,105,108,101,32,116,114,117,101,32,123,32,108,101,116,32,120,32,61,32,114,101,99,118,40,111,100,100,41,32,59,32,105,102,32,120,32,37,32,51,32,33,61,32,48,32,123,32,115,101,110,100,32,114,101,115,116,32,120,32,59,32,125,32,125,10,125,10,116,97,115,107,32,111,116,104,101,114,115,32,123,10,32,32,119,104,105,108,101,32,116,114,117,101,32,123,32,108,101,116,32,120,32,61,32,114,101,99,118,40,114,101,115,116,41,32,59,32,105,102,32,120,32,37,32,53,32,33,61,32,48,32,123,32,111,117,116,32,120,32,59,32,125,32,101,108,115,101,32,123,32,105,102,32,120,32,61,61,32,53,32,123,32,111,117,116,32,120,32,59,32,125,32,125,32,125,10,125,10]
def Py:List UInt8:=[98,111,120,32,105,110,32,110,117,109,32,50,48,32,59,10,116,97,115,107,32,109,97,105,110,32,123,10,32,32,108,101,116,32,115,32,61,32,48,32,59,10,32,32,119,104,105,108,101,32,116,114,117,101,32,123,32,115,32,61,32,115,32,43,32,114,101,99,118,40,105,110,41,32,59,32,111,117,116,32,115,32,59,32,125,10,125,10]
def Qy:List UInt8:=[98,111,120,32,105,110,32,110,117,109,32,50,48,32,59,10,35,32,116,119,111,32,116,104,97,116,32,116,97,107,101,32,116,117,114,110,115,10,103,101,110,32,112,108,117,115,40,107,32,110,117,109,41,32,116,97,107,101,115,32,110,117,109,32,121,105,101,108,100,115,32,110,117,109,32,123,10,32,32,108,101,116,32,120,32,61,32,121,105,101,108,100,40,48,41,32,59,10,32,32,119,104,105,108,101,32,116,114,117,101,32,123,32,120,32,61,32,121,105,101,108,100,40,120,32,43,32,107,41,32,59,32,125,10,125,10,116,97,115,107,32,109,97,105,110,32,123,10,32,32,108,101,116,32,97,32,61,32,115,116,97,114,116,32,112,108,117,115,40,49,41,32,59,10,32,32,108,101,116,32,98,32,61,32,115,116,97,114,116,32,112,108,117,115,40,45,49,41,32,59,10,32,32,100,111,32,114,101,115,117,109,101,40,97,44,32,48,41,32,59,10,32,32,100,111,32,114,101,115,117,109,101,40,98,44,32,48,41,32,59,10,32,32,119,104,105,108,101,32,116,114,117,101,32,123,32,111,117,116,32,114,101,115,117,109,101,40,97,44,32,114,101,99,118,40,105,110,41,41,32,59,32,111,117,116,32,114,101,115,117,109,101,40,98,44,32,114,101,99,118,40,105,110,41,41,32,59,32,125,10,125,10]
def Ry:List UInt8:=[98,111,120,32,105,110,32,110,117,109,32,50,48,32,59,10,116,97,115,107,32,109,97,105,110,32,123,10,32,32,108,101,116,32,120,32,61,32,114,101,99,118,40,105,110,41,32,59,10,32,32,119,104,105,108,101,32,120,32,33,61,32,48,32,123,32,111,117,116,32,120,32,59,32,120,32,61,32,114,101,99,118,40,105,110,41,32,59,32,125,10,125,10]
def Sy:List UInt8:=[98,111,120,32,105,110,32,110,117,109,32,50,48,32,59,10,116,97,115,107,32,109,97,105,110,32,123,10,32,32,108,101,116,32,97,32,61,32,114,101,99,118,40,105,110,41,32,59,10,32,32,108,101,116,32,98,32,61,32,114,101,99,118,40,105,110,41,32,59,10,32,32,119,104,105,108,101,32,116,114,117,101,32,123,10,32,32,32,32,108,101,116,32,99,32,61,32,114,101,99,118,40,105,110,41,32,59,10,32,32,32,32,111,117,116,32,97,32,43,32,98,32,43,32,99,32,59,10,32,32,32,32,97,32,61,32,98,32,59,10,32,32,32,32,98,32,61,32,99,32,59,10,32,32,125,10,125,10]
def Ty:List UInt8:=[98,111,120,32,97,32,110,117,109,32,50,48,32,59,10,98,111,120,32,98,32,110,117,109,32,50,48,32,59,10,116,97,115,107,32,109,97,105,110,32,123,10,32,32,119,104,105,108,101,32,116,114,117,101,32,123,32,111,117,116,32,114,101,99,118,40,97,41,32,43,32,114,101,99,118,40,98,41,32,59,32,125,10,125,10]
def Jx  :Option (List Pc):=
 some [(Pc.mk [97,118,101,114,97,103,101] ez),(Pc.mk [98,105,116,115] fz),(Pc.mk [99,104,97,110,103,101,115] gz),(Pc.mk [99,111,108,108,97,116,122] hz),(Pc.mk [100,101,100,117,112,101] iz),(Pc.mk [100,105,103,105,116,115] jz),(Pc.mk [100,111,117,98,108,101] kz),(Pc.mk [101,118,101,110,115] lz),(Pc.mk [102,97,99,116] mz)]
def fx  :Option (List Pc):=
 some [(Pc.mk [102,105,98] Ey),(Pc.mk [103,97,116,101] Fy),(Pc.mk [103,99,100] Gy),(Pc.mk [103,114,101,97,116,101,115,116] Hy),(Pc.mk [109,101,114,103,101] Iy),(Pc.mk [112,97,105,114,115] Jy),(Pc.mk [112,105,110,103,112,111,110,103] Ky),(Pc.mk [112,111,119,101,114] Ly),(Pc.mk [112,114,105,109,101] My)]
def Yx  :Option (List Pc):=
 some [(Pc.mk [114,111,117,110,100,115] Ny),(Pc.mk [115,105,101,118,101] Oy),(Pc.mk [115,117,109,115] Py),(Pc.mk [116,117,114,110,115] Qy),(Pc.mk [117,110,116,105,108] Ry),(Pc.mk [119,105,110,100,111,119] Sy),(Pc.mk [122,105,112] Ty)]
def Kx  (p_1:Pc) (a:List UInt8):Option Bool :=
 some (decide (p_1.name=a))
def hs (p_1:List Pc) (a:Pc→Option Bool):Nat→Int→Option Int
 | 0,_=>none
 | n+1,i20 =>
 if i20<(p_1.length:Int) then
   (at_ p_1 i20).bind fun b =>
   (a b).bind fun c =>
   if c=true then
  some i20
   else
  (i64 (i20+1)).bind fun i49 =>
  hs p_1 a n i49
 else
   none
def Ov  (p_1:List Pc) (a:Pc→Option Bool):Option Int :=
 hs p_1 a (p_1.length+1) 0
end Go.Y
namespace Go.Y
open Go.vc Go.jd
def Cw  (a:Int):Option (List Pc):=
 if a<0 then
 none
 else
 (i64 (0 - 0)).bind fun i5 =>
 (i64 (a - i5)).bind fun i7 =>
 if (0:Int)<i7 then
   (xv i7).bind fun na =>
   (cut (List.replicate na ((Pc.mk [] []):Pc)) 0 0).bind fun b =>
   some b
 else
   none
def js (p_1:List (List Pc)):Nat→Int→(List Pc)→Option (List Pc)
 | 0,_,_=>none
 | n+1,i83,a =>
 if i83<(p_1.length:Int) then
   (at_ p_1 i83).bind fun b =>
   (app a b).bind fun c =>
   (i64 (i83+1)).bind fun i129 =>
   js p_1 n i129 c
 else
   some a
def ks (p_1:List (List Pc)):Nat→Int→Int→Option (List Pc)
 | 0,_,_=>none
 | n+1,i22,i23 =>
 if i23<(p_1.length:Int) then
   (at_ p_1 i23).bind fun a =>
   (i64 (i22+(a.length:Int))).bind fun i52 =>
   if i52<0 then
  none
   else
  (i64 (i23+1)).bind fun i55 =>
  ks p_1 n i52 i55
 else
   (Cw i22).bind fun b =>
   js p_1 (p_1.length+1) 0 b
def Wv  (p_1:List (List Pc)):Option (List Pc):=
 ks p_1 (p_1.length+1) 0 0
def ry  :Option (List Pc):=
 (Jx ).bind fun a =>
 (fx ).bind fun b =>
 (Yx ).bind fun c =>
 (Wv [a,b,c]).bind fun d =>
 some d
def Zx  (p_1:List UInt8):Option (List UInt8×Int):=
 (ry ).bind fun a =>
 (Ov a (fun c=>Kx c p_1)).bind fun b =>
 if b<0 then
 none
 else
 (at_ a b).bind fun d =>
 some (d.text,0)
def iw (a:Uc×Af):Option (Uc×Int):=
 some (a.1,a.2.Wh)
def cr (fu:Nat)  (p_1:List UInt8):Option (Uc×Int):=
 (Zx p_1).bind fun a =>
 if a.2≠0 then
 none
 else
 (vx fu a.1).bind fun b =>
 if b.2.Wh≠0 then
   none
 else
   (Aw fu b.1).bind fun c =>
   iw c
def gv (fu:Nat)  (p_1:List UInt8) (c:List (List Int)):Option (Wj×Int):=
 (cr fu p_1).bind fun a =>
 if a.2≠0 then
 none
 else
 (ur fu a.1 0 c 5000).bind fun b =>
 some (b.1,b.2)
end Go.Y
