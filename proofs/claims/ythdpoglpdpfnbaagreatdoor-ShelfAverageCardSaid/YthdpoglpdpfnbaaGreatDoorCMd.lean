/- The shelf: texts of Md. -/
import Derived.Test.YthdpoglpdpfnbaaGreatDoorCXu
set_option linter.unusedSimpArgs false
set_option linter.unusedVariables false
set_option linter.unusedSectionVars false
namespace Go.Y
open Go.vc Go.hd
structure Bb where
 Kind:Int
 N:Int
 Name:List UInt8
 Kids:List Bb
 deriving Inhabited,Repr
structure fe where
 Kind:Int
 Name:List UInt8
 X:Bb
 Body:List fe
 Fj:List fe
 deriving Inhabited,Repr
def Dk {α:Type}(sz:Nat) (μ:M) (a:Option Addr) (c:Nat) (xs:List α) (g:Nat→List Value):Prop :=
 xs.length≤c∧c≤maxLen∧(xs=[]∨∃ b o,a=some ⟨b,o,none⟩∧∀ (i:Nat) (y:α),xs[i]?=some y→uc μ b (o+i*sz) (g i))
inductive Fm (μ:M):List Value→Bb→Prop where
 | mk (x:Bb) (a:Option Addr) (c:Nat) (g:Nat→List Value) (h:Dk 4 μ a c x.Kids g) (k:∀ (i:Nat) (y:Bb),x.Kids[i]?=some y→Fm μ (g i) y) :
 Fm μ [.int .i64 x.Kind,.int .i64 x.N,S x.Name,.slice a x.Kids.length c] x
theorem Dk.sq {α:Type}{sz:Nat}{μ:M}{a:Option Addr}{c:Nat}{xs:List α}{g:Nat→List Value}{R:List Value→α→Prop}(h:Dk sz μ a c xs g) (k:∀ (i:Nat) (y:α),xs[i]?=some y→R (g i) y):Dc sz R μ a c xs:=by
 refine ⟨h.1,h.2.1,?_⟩;rcases h.2.2 with h | ⟨b,o,e,f⟩
 ·exact .inl h
 ·exact .inr ⟨b,o,e,g,fun i x d=>⟨f i x d,k i x d⟩⟩
theorem Dk.of {α:Type}{sz:Nat}{μ:M}{a:Option Addr}{c:Nat}{xs:List α}{R:List Value→α→Prop}(h:Dc sz R μ a c xs):∃ g,Dk sz μ a c xs g∧∀ (i:Nat) (y:α),xs[i]?=some y→R (g i) y:=by
 rcases h.el with e | ⟨b,o,j,g,f⟩
 ·exact ⟨fun _=>[],⟨h.le,h.cap,.inl e⟩,fun i y d=>by simp [e] at d⟩
 ·exact ⟨g,⟨h.le,h.cap,.inr ⟨b,o,j,fun i y d=>(f i y d).1⟩⟩,fun i y d=>(f i y d).2⟩
theorem Dk.up {α:Type}{sz:Nat}{μ I:M}{a:Option Addr}{c:Nat}{xs:List α}{g:Nat→List Value}(h:Dk sz μ a c xs g) (l:ga μ I):Dk sz I a c xs g:=by
 refine ⟨h.1,h.2.1,?_⟩;rcases h.2.2 with h | ⟨b,o,d,e⟩
 ·exact .inl h
 ·exact .inr ⟨b,o,d,fun i y f=>(e i y f).up l⟩
theorem Fm.up {μ I:M}(l:ga μ I){cs:List Value}{x:Bb}(h:Fm μ cs x):Fm I cs x:=by
 induction h with
 | mk x a c g h k b=>exact .mk x a c g (h.up l) b
instance:Ua Bb where
 sz:=4
 pos:=by decide
 cs:=Fm
 qh h:=by cases h;rfl
 up l h:=Fm.up l h
 Sg h:=by cases h;rfl
theorem Bb.o {μ:M}{l:List Value}{x:Bb}(h:Ua.cs μ l x):∃ a c,l=[.int .i64 x.Kind,.int .i64 x.N,S x.Name,.slice a x.Kids.length c]∧wa μ a c x.Kids:=by
 have b:Fm μ l x:=h;cases b with
 | mk _ a c g d k1=>exact ⟨a,c,rfl,d.sq k1⟩
theorem Bb.i {μ:M}{l:List Value}{x:Bb}(h:∃ a c,l=[.int .i64 x.Kind,.int .i64 x.N,S x.Name,.slice a x.Kids.length c]∧wa μ a c x.Kids):Ua.cs μ l x:=by
 obtain ⟨a,c,rfl,h⟩:=h;obtain ⟨g,h,k⟩:=Dk.of h;exact Fm.mk x a c g h k
inductive Nl (μ:M):List Value→fe→Prop where
 | mk (x:fe) (O:Option Addr) (a:Nat) (a2:Option Addr) (c2:Nat) (a3:Option Addr) (c3:Nat) (g2 g3:Nat→List Value) (b:wa μ O a x.X.Kids)
   (c:Dk 8 μ a2 c2 x.Body g2) (d:∀ (i:Nat) (y:fe),x.Body[i]?=some y→Nl μ (g2 i) y)
   (e:Dk 8 μ a3 c3 x.Fj g3) (f:∀ (i:Nat) (y:fe),x.Fj[i]?=some y→Nl μ (g3 i) y) :
 Nl μ [.int .i64 x.Kind,S x.Name,.int .i64 x.X.Kind,.int .i64 x.X.N,S x.X.Name,.slice O x.X.Kids.length a,.slice a2 x.Body.length c2,.slice a3 x.Fj.length c3] x
theorem Nl.up {μ I:M}(l:ga μ I){cs:List Value}{x:fe}(h:Nl μ cs x):Nl I cs x:=by
 induction h with
 | mk x O a a2 c2 a3 c3 g2 g3 b c g d i e f=>exact .mk x O a a2 c2 a3 c3 g2 g3 (b.up l) (c.up l) e (d.up l) f
instance:Ua fe where
 sz:=8
 pos:=by decide
 cs:=Nl
 qh h:=by cases h;rfl
 up l h:=Nl.up l h
 Sg h:=by cases h;rfl
theorem fe.o {μ:M}{l:List Value}{x:fe}(h:Ua.cs μ l x):∃ O a a2 c2 a3 c3,l=[.int .i64 x.Kind,S x.Name,.int .i64 x.X.Kind,.int .i64 x.X.N,S x.X.Name,.slice O x.X.Kids.length a,.slice a2 x.Body.length c2,.slice a3 x.Fj.length c3]∧wa μ O a x.X.Kids∧wa μ a2 c2 x.Body∧wa μ a3 c3 x.Fj:=by
 have b:Nl μ l x:=h;cases b with
 | mk _ O a a2 c2 a3 c3 g2 g3 c d e f g=>exact ⟨O,a,a2,c2,a3,c3,rfl,c,d.sq e,f.sq g⟩
theorem fe.i {μ:M}{l:List Value}{x:fe}(h:∃ O a a2 c2 a3 c3,l=[.int .i64 x.Kind,S x.Name,.int .i64 x.X.Kind,.int .i64 x.X.N,S x.X.Name,.slice O x.X.Kids.length a,.slice a2 x.Body.length c2,.slice a3 x.Fj.length c3]∧wa μ O a x.X.Kids∧wa μ a2 c2 x.Body∧wa μ a3 c3 x.Fj):Ua.cs μ l x:=by
 obtain ⟨O,a,a2,c2,a3,c3,rfl,d,b,c⟩:=h;obtain ⟨g2,b,e⟩:=Dk.of b;obtain ⟨g3,c,f⟩:=Dk.of c;exact Nl.mk x O a a2 c2 a3 c3 g2 g3 d b e c f
structure Tb where
 Kind:Int
 Text:List UInt8
 wC:Int
 uc:Int
 deriving DecidableEq,Inhabited,Repr
instance:Ua Tb where
 sz:=4
 pos:=by decide
 cs μ l x:=l=[.int .i64 x.Kind,S x.Text,.int .i64 x.wC,.int .i64 x.uc]
 qh h:=by obtain rfl:=h;rfl
 up le h:=by exact h
 Sg h:=by obtain rfl:=h;rfl
structure yf where
 Th:Int
 uc:Int
 deriving DecidableEq,Inhabited,Repr
structure sc where
 Kind:Int
 Nc:List UInt8
 deriving DecidableEq,Inhabited,Repr
instance:Ua sc where
 sz:=2
 pos:=by decide
 cs μ l x:=l=[.int .i64 x.Kind,S x.Nc]
 qh h:=by obtain rfl:=h;rfl
 up le h:=by exact h
 Sg h:=by obtain rfl:=h;rfl
structure TParam where
 Name:List UInt8
 ue:sc
 deriving DecidableEq,Inhabited,Repr
instance:Ua TParam where
 sz:=3
 pos:=by decide
 cs μ l x:=l=[S x.Name,.int .i64 x.ue.Kind,S x.ue.Nc]
 qh h:=by obtain rfl:=h;rfl
 up le h:=by exact h
 Sg h:=by obtain rfl:=h;rfl
structure Kb where
 Kind:Int
 Name:List UInt8
 ue:sc
 ae:sc
 eh:Int
 Params:List TParam
 Body:List fe
 deriving Inhabited,Repr
instance:Ua Kb where
 sz:=9
 pos:=by decide
 cs μ l x:=∃ O a a2 c2,l=[.int .i64 x.Kind,S x.Name,.int .i64 x.ue.Kind,S x.ue.Nc,.int .i64 x.ae.Kind,S x.ae.Nc,.int .i64 x.eh,.slice O x.Params.length a,.slice a2 x.Body.length c2]∧wa μ O a x.Params∧wa μ a2 c2 x.Body
 qh h:=by obtain ⟨O,a,a2,c2,rfl,m1,m2⟩:=h;rfl
 up le h:=by obtain ⟨O,a,a2,c2,rfl,m1,m2⟩:=h;exact ⟨O,a,a2,c2,rfl,m1.up le,m2.up le⟩
 Sg h:=by obtain ⟨O,a,a2,c2,rfl,m1,m2⟩:=h;rfl
theorem Kb.i {μ:M}{l:List Value}{x:Kb}(h:∃ O a a2 c2,l=[.int .i64 x.Kind,S x.Name,.int .i64 x.ue.Kind,S x.ue.Nc,.int .i64 x.ae.Kind,S x.ae.Nc,.int .i64 x.eh,.slice O x.Params.length a,.slice a2 x.Body.length c2]∧wa μ O a x.Params∧wa μ a2 c2 x.Body):Ua.cs μ l x:=h
structure aj where
 wv:List UInt8
 Writer:List UInt8
 Reader:List UInt8
 deriving DecidableEq,Inhabited,Repr
instance:Ua aj where
 sz:=3
 pos:=by decide
 cs μ l x:=l=[S x.wv,S x.Writer,S x.Reader]
 qh h:=by obtain rfl:=h;rfl
 up le h:=by exact h
 Sg h:=by obtain rfl:=h;rfl
instance:Hh sc:=⟨Gk,Gk.up⟩
instance:Hh Kb:=⟨im,im.up⟩
structure Ue where
 defs:List Kb
 named:List (List UInt8×Kb)
 deriving Inhabited,Repr
structure Gg where
 calls:List (List UInt8)
 Rl:List (List UInt8)
 Sl:List (List UInt8)
 deriving DecidableEq,Inhabited,Repr
instance:Ua Gg where
 sz:=3
 pos:=by decide
 cs μ l x:=∃ O a a2 c2 a3 c3,l=[.slice O x.calls.length a,.slice a2 x.Rl.length c2,.slice a3 x.Sl.length c3]∧wa μ O a x.calls∧wa μ a2 c2 x.Rl∧wa μ a3 c3 x.Sl
 qh h:=by obtain ⟨O,a,a2,c2,a3,c3,rfl,m1,m2,m3⟩:=h;rfl
 up le h:=by obtain ⟨O,a,a2,c2,a3,c3,rfl,m1,m2,m3⟩:=h;exact ⟨O,a,a2,c2,a3,c3,rfl,m1.up le,m2.up le,m3.up le⟩
 Sg h:=by obtain ⟨O,a,a2,c2,a3,c3,rfl,m1,m2,m3⟩:=h;rfl
theorem Gg.i {μ:M}{l:List Value}{x:Gg}(h:∃ O a a2 c2 a3 c3,l=[.slice O x.calls.length a,.slice a2 x.Rl.length c2,.slice a3 x.Sl.length c3]∧wa μ O a x.calls∧wa μ a2 c2 x.Rl∧wa μ a3 c3 x.Sl):Ua.cs μ l x:=h
structure zh where
 Hn:List (List UInt8×Int)
 once:Bool
 deriving DecidableEq,Inhabited,Repr
instance:Ua zh where
 sz:=2
 pos:=by decide
 cs μ l x:=∃ L,l=[.map (some L),.bool x.once]∧Tf μ L x.Hn
 qh h:=by obtain ⟨L,rfl,m1⟩:=h;rfl
 up le h:=by obtain ⟨L,rfl,m1⟩:=h;exact ⟨L,rfl,m1.up le⟩
 Sg h:=by obtain ⟨L,rfl,m1⟩:=h;rfl
theorem zh.i {μ:M}{l:List Value}{x:zh}(h:∃ L,l=[.map (some L),.bool x.once]∧Tf μ L x.Hn):Ua.cs μ l x:=h
structure ih where
 boxes:List (List UInt8×Int)
 Ok:List (List UInt8×Int)
 defs:List (List UInt8×Kb)
 deriving Inhabited,Repr
instance:Hh Gg:=⟨Gk,Gk.up⟩
structure Vj where
 ue:Int
 eh:Int
 deriving DecidableEq,Inhabited,Repr
instance:Ua Vj where
 sz:=2
 pos:=by decide
 cs μ l x:=l=[.int .i64 x.ue,.int .i64 x.eh]
 qh h:=by obtain rfl:=h;rfl
 up le h:=by exact h
 Sg h:=by obtain rfl:=h;rfl
structure Jc where
 Op:Int
 A:Int
 N:Int
 deriving DecidableEq,Inhabited,Repr
instance:Ua Jc where
 sz:=3
 pos:=by decide
 cs μ l x:=l=[.int .i64 x.Op,.int .i64 x.A,.int .i64 x.N]
 qh h:=by obtain rfl:=h;rfl
 up le h:=by exact h
 Sg h:=by obtain rfl:=h;rfl
structure gf where
 Kind:Int
 Params:Int
 pd:List Int
 Result:Int
 ae:Int
 Code:List Jc
 deriving DecidableEq,Inhabited,Repr
instance:Ua gf where
 sz:=6
 pos:=by decide
 cs μ l x:=∃ O a a2 c2,l=[.int .i64 x.Kind,.int .i64 x.Params,.slice O x.pd.length a,.int .i64 x.Result,.int .i64 x.ae,.slice a2 x.Code.length c2]∧wa μ O a x.pd∧wa μ a2 c2 x.Code
 qh h:=by obtain ⟨O,a,a2,c2,rfl,m1,m2⟩:=h;rfl
 up le h:=by obtain ⟨O,a,a2,c2,rfl,m1,m2⟩:=h;exact ⟨O,a,a2,c2,rfl,m1.up le,m2.up le⟩
 Sg h:=by obtain ⟨O,a,a2,c2,rfl,m1,m2⟩:=h;rfl
theorem gf.i {μ:M}{l:List Value}{x:gf}(h:∃ O a a2 c2,l=[.int .i64 x.Kind,.int .i64 x.Params,.slice O x.pd.length a,.int .i64 x.Result,.int .i64 x.ae,.slice a2 x.Code.length c2]∧wa μ O a x.pd∧wa μ a2 c2 x.Code):Ua.cs μ l x:=h
structure Xc where
 Qe:List Vj
 Jd:List gf
 deriving DecidableEq,Inhabited,Repr
instance:Ua Xc where
 sz:=2
 pos:=by decide
 cs μ l x:=∃ O a a2 c2,l=[.slice O x.Qe.length a,.slice a2 x.Jd.length c2]∧wa μ O a x.Qe∧wa μ a2 c2 x.Jd
 qh h:=by obtain ⟨O,a,a2,c2,rfl,m1,m2⟩:=h;rfl
 up le h:=by obtain ⟨O,a,a2,c2,rfl,m1,m2⟩:=h;exact ⟨O,a,a2,c2,rfl,m1.up le,m2.up le⟩
 Sg h:=by obtain ⟨O,a,a2,c2,rfl,m1,m2⟩:=h;rfl
theorem Xc.i {μ:M}{l:List Value}{x:Xc}(h:∃ O a a2 c2,l=[.slice O x.Qe.length a,.slice a2 x.Jd.length c2]∧wa μ O a x.Qe∧wa μ a2 c2 x.Jd):Ua.cs μ l x:=h
structure Qh where
 Th:Int
 Unit:Int
 uc:Int
 deriving DecidableEq,Inhabited,Repr
structure Qj where
 State:Int
 wv:Int
 oC:Int
 Out:List Int
 rv:List (List Int)
 sv:List Int
 Steps:Int
 deriving DecidableEq,Inhabited,Repr
structure Oc where
 name:List UInt8
 text:List UInt8
 deriving DecidableEq,Inhabited,Repr
instance:Ua Oc where
 sz:=2
 pos:=by decide
 cs μ l x:=l=[S x.name,S x.text]
 qh h:=by obtain rfl:=h;rfl
 up le h:=by exact h
 Sg h:=by obtain rfl:=h;rfl
structure Dd where
 stack:List Int
 has:List Bool
 deriving DecidableEq,Inhabited,Repr
instance:Ua Dd where
 sz:=2
 pos:=by decide
 cs μ l x:=∃ O a a2 c2,l=[.slice O x.stack.length a,.slice a2 x.has.length c2]∧wa μ O a x.stack∧wa μ a2 c2 x.has
 qh h:=by obtain ⟨O,a,a2,c2,rfl,m1,m2⟩:=h;rfl
 up le h:=by obtain ⟨O,a,a2,c2,rfl,m1,m2⟩:=h;exact ⟨O,a,a2,c2,rfl,m1.up le,m2.up le⟩
 Sg h:=by obtain ⟨O,a,a2,c2,rfl,m1,m2⟩:=h;rfl
theorem Dd.i {μ:M}{l:List Value}{x:Dd}(h:∃ O a a2 c2,l=[.slice O x.stack.length a,.slice a2 x.has.length c2]∧wa μ O a x.stack∧wa μ a2 c2 x.has):Ua.cs μ l x:=h
structure Ee where
 m:Option Xc
 deriving DecidableEq,Inhabited,Repr
instance:Ua Ee where
 sz:=1
 pos:=by decide
 cs μ l x:=∃ v1,l=[v1]∧Ke μ v1 x.m
 qh h:=by obtain ⟨v1,rfl,m1⟩:=h;rfl
 up le h:=by obtain ⟨v1,rfl,m1⟩:=h;exact ⟨v1,rfl,m1.up le⟩
 Sg h:=by obtain ⟨v1,rfl,m1⟩:=h;simp [m1.Md]
theorem Ee.i {μ:M}{l:List Value}{x:Ee}(h:∃ v1,l=[v1]∧Ke μ v1 x.m):Ua.cs μ l x:=h
instance:Hh Dd:=⟨Gk,Gk.up⟩
end Go.Y
namespace Go.Y
open Go.vc Go.hd
def DI : List UInt8 := [32,98,111,120,32,102,110,32,103,101,110,32,116,97,115,107,32,116,97,107,101,115,32,121,105,101,108,100,115,32,108,101,116,32,105,102,32,101,108,115,101,32,119,104,105,108,101,32,114,101,116,117,114,110,32,115,116,111,112,32,115,101,110,100,32,111,117,116,32,100,111,32,114,101,99,118,32,121,105,101,108,100,32,115,116,97,114,116,32,114,101,115,117,109,101,32,97,108,105,118,101,32,110,117,109,32,98,111,111,108,32,116,114,117,101,32,102,97,108,115,101,32,97,110,100,32,111,114,32,110,111,116,32]
def Bp  (p_1 : UInt8) : Option Bool :=
 if (97 : Int) ≤ (p_1.toNat : Int) then
  if (p_1.toNat : Int) ≤ 122 then
   some true
  else
   some (decide ((p_1.toNat : Int) = 95))
 else
  some (decide ((p_1.toNat : Int) = 95))
def Zq  (p_1 : UInt8) : Option Bool :=
 if (48 : Int) ≤ (p_1.toNat : Int) then
  some (decide ((p_1.toNat : Int) ≤ 57))
 else
  some false
def Fs (i13 : Int) (a : Int → Option Int) (b : Bool) : Option Int :=
 if b = true then
  (i64 (i13 + 1)).bind fun i33 =>
  a i33
 else
  some i13
def fp (p_1 : List UInt8) (a : UInt8 → Option Bool) : Nat → Int → Option Int
 | 0, _ => none
 | n + 1, i13 =>
  if i13 < (p_1.length : Int) then
   (at_ p_1 i13).bind fun b =>
   (a b).bind fun c =>
   Fs i13 (fp p_1 a n) c
  else
   Fs i13 (fp p_1 a n) false
def Kp (fu : Nat)  (p_1 : List UInt8) (a : UInt8 → Option Bool) : Option Int :=
 fp p_1 a fu 0
def qy  (p_1 : UInt8) : Option Bool :=
 (Bp p_1).bind fun a =>
 if a = true then
  some true
 else
  (Zq p_1).bind fun b =>
  some b
def ry  (p_1 : UInt8) : Option Bool :=
 some (decide ((p_1.toNat : Int) ≠ 10))
def sy  (p_1 : UInt8) : Option Bool :=
 (Bp p_1).bind fun a =>
 if a = true then
  some true
 else
  none
def ey  (p_1 a : List UInt8) : Option Bool :=
 if (a.length : Int) ≤ (p_1.length : Int) then
  (cut p_1 0 (a.length : Int)).bind fun s2 =>
  some (decide (s2 = a))
 else
  none
def uy  (p_1 a : List UInt8) : Option Bool :=
 (ey p_1 a).bind fun b =>
 some b
def ht (p_1 : List UInt8) : Nat → Int → Option (List UInt8)
 | 0, _ => none
 | n + 1, i18 =>
  if i18 < 18 then
   (at_ [[61, 61], [33, 61], [60, 61], [62, 61], [60], [62], [61], [43], [45], [42], [47], [37], [40], [41], [123], [125], [44], [59]] i18).bind fun a =>
   (uy p_1 a).bind fun b =>
   if b = true then
    some a
   else
    (i64 (i18 + 1)).bind fun i46 =>
    ht p_1 n i46
  else
   none
def Gx  (p_1 : List UInt8) : Option (List UInt8):=
 ht p_1 19 0
def Gs (fu : Nat) (p_1 : List UInt8) (i13 : Int) (b : UInt8) (a : Int → Option Int) (Nj : Bool) : Option Int :=
 if Nj = true then
  (i64 (i13 + 1)).bind fun i35 =>
  a i35
 else
  if (b.toNat : Int) = 35 then
   (cut p_1 i13 p_1.length).bind fun c =>
   (Kp fu c ry).bind fun d =>
   (i64 (i13 + d)).bind fun i43 =>
   a i43
  else
   some i13
def gp (fu : Nat) (p_1 : List UInt8) : Nat → Int → Option Int
 | 0, _ => none
 | n + 1, i13 =>
  if i13 < (p_1.length : Int) then
   (at_ p_1 i13).bind fun a =>
   if (a.toNat : Int) = 32 then
    Gs fu p_1 i13 a (gp fu p_1 n) (decide ((a.toNat : Int) = 32))
   else
    if (a.toNat : Int) = 9 then
     none
    else
     Gs fu p_1 i13 a (gp fu p_1 n) (decide ((a.toNat : Int) = 10))
  else
   some i13
def ku (fu : Nat)  (p_1 : List UInt8) : Option Int :=
 gp fu p_1 fu 0
def El (fu : Nat)  (p_1 : List UInt8) : Option Bool :=
 if (p_1.length : Int) < 1 then
  none
 else
  if (12 : Int) < (p_1.length : Int) then
   none
  else
   (at_ p_1 0).bind fun a =>
   (Bp a).bind fun b =>
   if b = true then
    (cat [32] p_1).bind fun c =>
    (cat c [32]).bind fun d =>
    (py DI d).bind fun Zg =>
    if Zg = true then
     none
    else
     (Kp fu p_1 sy).bind fun e =>
     some (decide (e = (p_1.length : Int)))
   else
    none
def yq (fu : Nat) (p_1 : List UInt8) (i58 : Int) (b : List Tb) (c : Int → (List Tb) → Option (List Tb × yf)) (i118 : Int) (a : List UInt8) (i120 : Int) : Option (List Tb × yf):=
 (app b [(Tb.mk i118 a i120 i58)]).bind fun d =>
 (i64 (i58 + (a.length : Int))).bind fun i154 =>
 (cut p_1 i154 p_1.length).bind fun e =>
 (ku fu e).bind fun f =>
 (i64 (i154 + f)).bind fun i161 =>
 c i161 d
def eo (fu : Nat) (p_1 : List UInt8) : Nat → Int → (List Tb) → Option (List Tb × yf)
 | 0, _, _ => none
 | n + 1, i58, b =>
  if i58 < (p_1.length : Int) then
   (cut p_1 i58 p_1.length).bind fun a =>
   (at_ a 0).bind fun d =>
   (Bp d).bind fun f =>
   if f = true then
    (Kp fu a qy).bind fun g =>
    (cut a 0 g).bind fun h =>
    yq fu p_1 i58 b (eo fu p_1 n) 1 h 0
   else
    (Zq d).bind fun i =>
    if i = true then
     (Kp fu a Zq).bind fun j =>
     (cut a 0 j).bind fun c =>
     if (15 : Int) < (c.length : Int) then
      none
     else
      (Vy c).bind fun i140 =>
      yq fu p_1 i58 b (eo fu p_1 n) 2 c i140
    else
     (Gx a).bind fun e =>
     if e = [] then
      none
     else
      yq fu p_1 i58 b (eo fu p_1 n) 3 e 0
  else
   some (b, (yf.mk 0 0))
def xw (fu : Nat)  (p_1 : List UInt8) : Option (List Tb × yf):=
 if (6000 : Int) < (p_1.length : Int) then
  none
 else
  (ku fu p_1).bind fun a =>
  eo fu p_1 fu a []
end Go.Y
namespace Go.Y
open Go.vc Go.hd
def Hs  (mi:Bool):Option Int :=
 if mi=true then
 some 2
 else
 some (-1)
def Fq (p_1:Int) (gg:Bool):Option Int :=
 if gg=true then
 some 1
 else
 if p_1≤18 then
   Hs true
 else
   Hs (decide (p_1=23))
def Is (p_1:Int) (L:Bool):Option Int :=
 if L=true then
 some 0
 else
 if p_1≤5 then
   Fq p_1 true
 else
   if p_1=21 then
  Fq p_1 true
   else
  Fq p_1 (decide (p_1=24))
def ix  (p_1:Int):Option Int :=
 if p_1≤3 then
 Is p_1 true
 else
 Is p_1 (decide (p_1=20))
def ar  (a:Int) (b:Int):Option (Int×Int):=
 (i64 (a+1)).bind fun i3 =>
 if (2000:Int)<i3 then
 none
 else
 if (40:Int)<b then
   none
 else
   some (0,i3)
def hr  (p_1:sc):Option Int :=
 if p_1.Kind<1 then
 none
 else
 if (3:Int)<p_1.Kind then
   none
 else
   if p_1.Kind=3 then
  none
   else
  some 0
structure Ll where
 Jl:Int→Bb→Int→Option (Int×Int)
def Js (self:Ll) (a:Bb) (b:Int):Nat→Int→Int→Option (Int×Int)
 | 0,_,_=>none
 | n+1,i69,i70 =>
 if i69<(a.Kids.length:Int) then
   (at_ a.Kids i69).bind fun d =>
   (i64 (b+1)).bind fun i102 =>
   (self.Jl i70 d i102).bind fun c =>
   if c.1≠0 then
  none
   else
  (i64 (i69+1)).bind fun i108 =>
  Js self a b n i108 c.2
 else
   some (0,i70)
def Ks (self:Ll) (a:Bb) (b:Int) (c:Int×Int) (d:Bool):Option (Int×Int):=
 if d=true then
 none
 else
 Js self a b (a.Kids.length+1) 0 c.2
def Ls (self:Ll) (a:Bb) (b:Int) (c:Int×Int) (d:Int) (e:Bool):Option (Int×Int):=
 if e=true then
 none
 else
 if d<0 then
   Ks self a b c (decide ((6:Int)<(a.Kids.length:Int)))
 else
   Ks self a b c false
def hp (self:Ll) (b:Bb) (c:Int) (d:Int×Int) (a:Int) (e:Bool):Option (Int×Int):=
 if e=true then
 none
 else
 if (0:Int)≤a then
   Ls self b c d a (decide ((b.Kids.length:Int)≠a))
 else
   Ls self b c d a false
def Ms (fu:Nat) (self:Ll) (a:Bb) (c:Int) (d:Int×Int) (b:Int) (e:Bool):Option (Int×Int):=
 if e=true then
 none
 else
 if a.Kind=3 then
   (El fu a.Name).bind fun f =>
   hp self a c d b (!f)
 else
   if a.Kind=20 then
  (El fu a.Name).bind fun g =>
  hp self a c d b (!g)
   else
  if b<0 then
     (El fu a.Name).bind fun h =>
     hp self a c d b (!h)
  else
     hp self a c d b false
def Ns (fu:Nat) (self:Ll) (a:Bb) (b:Int) (c:Int×Int) (d:Int) (ph:Bool):Option (Int×Int):=
 if ph=true then
 none
 else
 if a.Kind=2 then
   if a.N≠0 then
  Ms fu self a b c d (decide (a.N≠1))
   else
  none
 else
   Ms fu self a b c d false
def Jl (fu:Nat) (self:Ll) (e:Int) (a:Bb) (b:Int):Option (Int×Int):=
 (ar e b).bind fun c =>
 if c.1≠0 then
 none
 else
 if a.Kind<1 then
   none
 else
   if (24:Int)<a.Kind then
  none
   else
  (ix a.Kind).bind fun d =>
  if a.Kind=1 then
     if a.N<0 then
   none
     else
   Ns fu self a b c d (decide ((999999999999999:Int)<a.N))
  else
     Ns fu self a b c d false
def cw:Nat→Ll
 | 0=>⟨fun _ _ _=>none⟩
 | n+1=>⟨Jl n (cw n)⟩
structure qn where
 Fl:Int→(List fe)→Int→Option (Int×Int)
 hn:Int→fe→Int→Option (Int×Int)
def ns (self:qn) (a:List fe) (b:Int):Nat→Int→Int→Option (Int×Int)
 | 0,_,_=>none
 | n+1,i29,i30 =>
 if i29<(a.length:Int) then
   (at_ a i29).bind fun d =>
   (self.hn i30 d b).bind fun c =>
   if c.1≠0 then
  none
   else
  (i64 (i29+1)).bind fun i76 =>
  ns self a b n i76 c.2
 else
   some (0,i30)
def Fl (self:qn) (b:Int) (a:List fe) (c:Int):Option (Int×Int):=
 if (50:Int)<(a.length:Int) then
 none
 else
 ns self a c (a.length+1) 0 b
def Ps (a:fe) (i41:Int):Option (Int×Int):=
 if a.Kind=3 then
 none
 else
 some (0,i41)
def Gq (fu:Nat) (self:qn) (a:fe) (c:Int) (e:Int×Int) (f:Bool):Option (Int×Int):=
 if f=true then
 none
 else
 if a.Kind=6 then
   none
 else
   (i64 (c+1)).bind fun i34 =>
   ((cw fu).Jl e.2 a.X i34).bind fun b =>
   if b.1≠0 then
  none
   else
  if a.Kind=3 then
     none
  else
     if a.Kind=4 then
   (i64 (c+1)).bind fun i43 =>
   (self.Fl b.2 a.Body i43).bind fun d =>
   if d.1≠0 then
       none
   else
       Ps a d.2
     else
   Ps a b.2
def hn (fu:Nat) (self:qn) (d:Int) (a:fe) (b:Int):Option (Int×Int):=
 (ar d b).bind fun c =>
 if c.1≠0 then
 none
 else
 if a.Kind<1 then
   none
 else
   if (9:Int)<a.Kind then
  none
   else
  if a.Kind=1 then
     (El fu a.Name).bind fun e =>
     Gq fu self a b c (!e)
  else
     if a.Kind=2 then
   (El fu a.Name).bind fun f =>
   Gq fu self a b c (!f)
     else
   if a.Kind=7 then
       none
   else
       Gq fu self a b c false
def Qs:Nat→qn
 | 0=>⟨fun _ _ _=>none,fun _ _ _=>none⟩
 | n+1=>⟨Fl (Qs n),hn n (Qs n)⟩
def jt (fu:Nat) (a:Kb) (b:Int×Int):Option (Int×Int):=
 if a.Kind≠1 then
 ((Qs fu).Fl b.2 a.Body 2).bind fun c =>
 some (c.1,c.2)
 else
 if a.eh<1 then
   none
 else
   if (20:Int)<a.eh then
  none
   else
  some (0,b.2)
def kt (fu:Nat) (a:Kb) (b:Int×Int):Option (Int×Int):=
 if a.Kind≠4 then
 (hr a.ue).bind fun c =>
 if c≠0 then
   none
 else
   jt fu a b
 else
 jt fu a b
def nt (fu:Nat) (a:Kb) (b:Int×Int):Option (Int×Int):=
 if a.Kind=3 then
 (hr a.ae).bind fun c =>
 if c≠0 then
   none
 else
   kt fu a b
 else
 kt fu a b
def ot (fu:Nat) (a:Kb) (b:Int×Int):Nat→Int→Option (Int×Int)
 | 0,_=>none
 | n+1,i43 =>
 if i43<(a.Params.length:Int) then
   (at_ a.Params i43).bind fun c =>
   (El fu c.Name).bind fun d =>
   if d=true then
  (hr c.ue).bind fun e =>
  if e≠0 then
     none
  else
     (i64 (i43+1)).bind fun i82 =>
     ot fu a b n i82
   else
  none
 else
   nt fu a b
def Hx (fu:Nat)  (c:Int) (a:Kb):Option (Int×Int):=
 (ar c 1).bind fun b =>
 if b.1≠0 then
 none
 else
 if a.Kind<1 then
   none
 else
   if (4:Int)<a.Kind then
  none
   else
  (El fu a.Name).bind fun d =>
  if d=true then
     if a.Kind=2 then
   none
     else
   if a.Kind=3 then
       if (6:Int)<(a.Params.length:Int) then
    none
       else
    ot fu a b (a.Params.length+1) 0
   else
       nt fu a b
  else
     none
def ps (fu:Nat) (p_1:List Kb):Nat→Int→Int→Option yf
 | 0,_,_=>none
 | n+1,i28,i29 =>
 if i28<(p_1.length:Int) then
   (at_ p_1 i28).bind fun b =>
   (Hx fu i29 b).bind fun a =>
   if a.1≠0 then
  none
   else
  (i64 (i28+1)).bind fun i69 =>
  ps fu p_1 n i69 a.2
 else
   some (yf.mk 0 0)
def Ot (fu:Nat)  (p_1:List Kb):Option yf :=
 if (30:Int)<(p_1.length:Int) then
 none
 else
 ps fu p_1 (p_1.length+1) 0 0
end Go.Y
namespace Go.Y
open Go.vc Go.hd
def tv  (a:List Tb) (c:Int) (d:Int):Option Int :=
 if (a.length:Int)=0 then
 none
 else
 (at_ a 0).bind fun b =>
 some b.uc
def Ol  (a:List Tb) (d:Int) (e:Int) (b:List UInt8):Option Bool :=
 if (0:Int)<(a.length:Int) then
 (at_ a 0).bind fun c =>
 some (decide (c.Text=b))
 else
 none
def zg  (a:List Tb) (b:Int) (c:Int) (d:List UInt8):Option (Bool×List Tb×Int×Int):=
 (Ol a b c d).bind fun e =>
 if e=true then
 (cut a 1 a.length).bind fun f =>
 some (true,f,b,c)
 else
 some (false,a,b,c)
def Pt (b:List (List UInt8)):Nat→Int→(List Tb)→Int→Int→Option (List Tb×Int×Int)
 | 0,_,_,_,_=>none
 | n+1,i30,c,i35,i36 =>
 if i30<(b.length:Int) then
   (at_ b i30).bind fun d =>
   (zg c i35 i36 d).bind fun a =>
   if a.1=true then
  (i64 (i30+1)).bind fun i71 =>
  Pt b n i71 a.2.1 a.2.2.1 a.2.2.2
   else
  none
 else
   some (c,i35,i36)
def Jj  (b:List Tb) (c:Int) (d:Int) (a:List (List UInt8)):Option (List Tb×Int×Int):=
 Pt a (a.length+1) 0 b c d
def hl (fu:Nat)  (a:List Tb) (c:Int) (d:Int):Option (List UInt8×List Tb×Int×Int):=
 if (a.length:Int)=0 then
 none
 else
 (at_ a 0).bind fun e =>
 if e.Kind≠1 then
   none
 else
   (at_ a 0).bind fun b =>
   (El fu b.Text).bind fun f =>
   if f=true then
  (cut a 1 a.length).bind fun g =>
  some (b.Text,g,c,d)
   else
  none
def lu  (a:List Tb) (b:Int) (c:Int):Option (Int×List Tb×Int×Int):=
 if (a.length:Int)=0 then
 none
 else
 (at_ a 0).bind fun d =>
 if d.Kind≠2 then
   none
 else
   (at_ a 0).bind fun e =>
   (cut a 1 a.length).bind fun f =>
   some (e.wC,f,b,c)
def jq  (c:List Tb) (d:Int) (e:Int):Option (sc×List Tb×Int×Int):=
 (zg c d e [110,117,109]).bind fun a =>
 if a.1=true then
 some ((sc.mk 1 []),a.2.1,a.2.2.1,a.2.2.2)
 else
 (zg a.2.1 a.2.2.1 a.2.2.2 [98,111,111,108]).bind fun b =>
 if b.1=true then
   some ((sc.mk 2 []),b.2.1,b.2.2.1,b.2.2.2)
 else
   none
def Rs (fu:Nat):Nat→(List Tb)→Int→Int→(List TParam)→Option (List TParam×List Tb×Int×Int)
 | 0,_,_,_,_=>none
 | n+1,e,i54,i55,c =>
 (zg e i54 i55 [41]).bind fun a =>
 if a.1=true then
   some (c,a.2.1,a.2.2.1,a.2.2.2)
 else
   if (0:Int)<(c.length:Int) then
  none
   else
  if (c.length:Int)=6 then
     none
  else
     (hl fu a.2.1 a.2.2.1 a.2.2.2).bind fun d =>
     (jq d.2.1 d.2.2.1 d.2.2.2).bind fun b =>
     (app c [(TParam.mk d.1 (sc.mk b.1.Kind b.1.Nc))]).bind fun f =>
     Rs fu n b.2.1 b.2.2.1 b.2.2.2 f
def jx (fu:Nat)  (b:List Tb) (c:Int) (d:Int):Option (List TParam×List Tb×Int×Int):=
 (Jj b c d [[40]]).bind fun a =>
 Rs fu fu a.1 a.2.1 a.2.2 []
def kx  :Option (List zh):=
 some [(zh.mk (ye ([]:List (List UInt8×Int)) [111,114] 18) false),(zh.mk (ye ([]:List (List UInt8×Int)) [97,110,100] 17) false),(zh.mk (ye (ye (ye (ye (ye (ye ([]:List (List UInt8×Int)) [61,61] 11) [33,61] 12) [60] 13) [60,61] 14) [62] 15) [62,61] 16) true),(zh.mk (ye (ye ([]:List (List UInt8×Int)) [43] 6) [45] 7) false),(zh.mk (ye (ye (ye ([]:List (List UInt8×Int)) [42] 8) [47] 9) [37] 10) false)]
def gq  (a:List Tb) (b:Int) (c:Int):Option (List Tb×Int×Int):=
 (i64 (c+1)).bind fun i14 =>
 if (200:Int)<i14 then
 none
 else
 some (a,b,i14)
def kq  (a:List Tb) (b:Int) (c:Int):Option (List Tb×Int×Int):=
 (i64 (c - 1)).bind fun i12 =>
 some (a,b,i12)
end Go.Y
namespace Go.Y
open Go.vc Go.hd
structure qj where
 Qi:(List Tb)→Int→Int→Option (Bb×List Tb×Int×Int)
 Kk:(List Tb)→Int→Int→Int→Option (Bb×List Tb×Int×Int)
 bk:(List Tb)→Int→Int→Option (Bb×List Tb×Int×Int)
 rm:(List Tb)→Int→Int→Option (Bb×List Tb×Int×Int)
 Cn:(List Tb)→Int→Int→Option (List Bb×List Tb×Int×Int)
 Lk:(List Tb)→Int→Int→Int→Int→Option (Bb×List Tb×Int×Int)
def Qi (self:qj) (d:List Tb) (e:Int) (f:Int):Option (Bb×List Tb×Int×Int):=
 (gq d e f).bind fun b =>
 (self.Kk b.1 b.2.1 b.2.2 0).bind fun a =>
 (kq a.2.1 a.2.2.1 a.2.2.2).bind fun c =>
 some (a.1,c.1,c.2.1,c.2.2)
def pt  (a:List Tb) (i50:Int) (i51:Int) (i52:Int) (i53:Int) (b:List UInt8) (c:List Bb):Option (Bb×List Tb×Int×Int):=
 some ((Bb.mk i52 i53 b c),a,i50,i51)
def yw (e:Int) (f:List zh) (a:zh) (b:Tb) (g:(List Tb)→Int→Int→Int→Int→(List UInt8)→(List Bb)→Option (Bb×List Tb×Int×Int)) (c:List Tb) (i217:Int) (i218:Int) (d:List Bb):Option (Bb×List Tb×Int×Int):=
 (at_ f e).bind fun h =>
 if h.once=true then
 pt c i217 i218 ((pf a.Hn b.Text).getD 0) 0 [] d
 else
 g c i217 i218 ((pf a.Hn b.Text).getD 0) 0 [] d
def Oq (self:qj) (b:Int) (d:List zh):Nat→(List Tb)→Int→Int→Int→Int→(List UInt8)→(List Bb)→Option (Bb×List Tb×Int×Int)
 | 0,_,_,_,_,_,_,_=>none
 | n+1,a,i116,i117,i118,i119,e,f =>
 if (0:Int)<(a.length:Int) then
   (at_ d b).bind fun g =>
   (at_ a 0).bind fun h =>
   if ((pf g.Hn h.Text).getD 0)=0 then
  pt a i116 i117 i118 i119 e f
   else
  (cut a 1 a.length).bind fun i =>
  (i64 (b+1)).bind fun i231 =>
  (self.Kk i i116 i117 i231).bind fun c =>
  yw b d g h (Oq self b d n) c.2.1 c.2.2.1 c.2.2.2 [(Bb.mk i118 i119 e f),c.1]
 else
   none
def Kk (fu:Nat) (self:qj) (d:List Tb) (e:Int) (f:Int) (c:Int):Option (Bb×List Tb×Int×Int):=
 (kx ).bind fun g =>
 if c=(g.length:Int) then
 (self.bk d e f).bind fun b =>
 some (b.1,b.2.1,b.2.2.1,b.2.2.2)
 else
 (i64 (c+1)).bind fun i33 =>
 (self.Kk d e f i33).bind fun a =>
 Oq self c g fu a.2.1 a.2.2.1 a.2.2.2 a.1.Kind a.1.N a.1.Name a.1.Kids
def bk (self:qj) (j:List Tb) (k:Int) (l:Int):Option (Bb×List Tb×Int×Int):=
 (zg j k l [45]).bind fun a =>
 if a.1=true then
 (gq a.2.1 a.2.2.1 a.2.2.2).bind fun f =>
 (self.bk f.1 f.2.1 f.2.2).bind fun c =>
 (kq c.2.1 c.2.2.1 c.2.2.2).bind fun g =>
 some ((Bb.mk 4 0 [] [c.1]),g.1,g.2.1,g.2.2)
 else
 (zg a.2.1 a.2.2.1 a.2.2.2 [110,111,116]).bind fun b =>
 if b.1=true then
   (gq b.2.1 b.2.2.1 b.2.2.2).bind fun h =>
   (self.bk h.1 h.2.1 h.2.2).bind fun d =>
   (kq d.2.1 d.2.2.1 d.2.2.2).bind fun i =>
   some ((Bb.mk 5 0 [] [d.1]),i.1,i.2.1,i.2.2)
 else
   (self.rm b.2.1 b.2.2.1 b.2.2.2).bind fun e =>
   some (e.1,e.2.1,e.2.2.1,e.2.2.2)
def rm (fu:Nat) (self:qj) (h:List Tb) (t:Int) (u:Int):Option (Bb×List Tb×Int×Int):=
 if (0:Int)<(h.length:Int) then
 (at_ h 0).bind fun v =>
 if v.Kind=2 then
   (lu h t u).bind fun i =>
   some ((Bb.mk 1 i.1 [] ([]:List Bb)),i.2.1,i.2.2.1,i.2.2.2)
 else
   (zg h t u [116,114,117,101]).bind fun a =>
   if a.1=true then
  some ((Bb.mk 2 1 [] ([]:List Bb)),a.2.1,a.2.2.1,a.2.2.2)
   else
  (zg a.2.1 a.2.2.1 a.2.2.2 [102,97,108,115,101]).bind fun j =>
  if j.1=true then
     none
  else
     (zg j.2.1 j.2.2.1 j.2.2.2 [40]).bind fun k =>
     if k.1=true then
   none
     else
   (zg k.2.1 k.2.2.1 k.2.2.2 [114,101,99,118]).bind fun b =>
   if b.1=true then
       (Jj b.2.1 b.2.2.1 b.2.2.2 [[40]]).bind fun r =>
       (hl fu r.1 r.2.1 r.2.2).bind fun l =>
       (Jj l.2.1 l.2.2.1 l.2.2.2 [[41]]).bind fun s =>
       some ((Bb.mk 20 0 l.1 ([]:List Bb)),s.1,s.2.1,s.2.2)
   else
       (zg b.2.1 b.2.2.1 b.2.2.2 [121,105,101,108,100]).bind fun c =>
       if c.1=true then
    (self.Lk c.2.1 c.2.2.1 c.2.2.2 21 1).bind fun m =>
    some (m.1,m.2.1,m.2.2.1,m.2.2.2)
       else
    (zg c.2.1 c.2.2.1 c.2.2.2 [114,101,115,117,109,101]).bind fun d =>
    if d.1=true then
         (self.Lk d.2.1 d.2.2.1 d.2.2.2 23 2).bind fun n =>
         some (n.1,n.2.1,n.2.2.1,n.2.2.2)
    else
         (zg d.2.1 d.2.2.1 d.2.2.2 [97,108,105,118,101]).bind fun e =>
         if e.1=true then
     (self.Lk e.2.1 e.2.2.1 e.2.2.2 24 1).bind fun o =>
     some (o.1,o.2.1,o.2.2.1,o.2.2.2)
         else
     (zg e.2.1 e.2.2.1 e.2.2.2 [115,116,97,114,116]).bind fun f =>
     if f.1=true then
           (hl fu f.2.1 f.2.2.1 f.2.2.2).bind fun p =>
           (self.Cn p.2.1 p.2.2.1 p.2.2.2).bind fun q =>
           some ((Bb.mk 22 0 p.1 q.1),q.2.1,q.2.2.1,q.2.2.2)
     else
           (hl fu f.2.1 f.2.2.1 f.2.2.2).bind fun g =>
           (Ol g.2.1 g.2.2.1 g.2.2.2 [40]).bind fun w =>
           if w=true then
      none
           else
      some ((Bb.mk 3 0 g.1 ([]:List Bb)),g.2.1,g.2.2.1,g.2.2.2)
 else
 none
def Qt (self:qj):Nat→(List Tb)→Int→Int→(List Bb)→Option (List Bb×List Tb×Int×Int)
 | 0,_,_,_,_=>none
 | n+1,d,i51,i52,b =>
 (zg d i51 i52 [41]).bind fun a =>
 if a.1=true then
   some (b,a.2.1,a.2.2.1,a.2.2.2)
 else
   if (0:Int)<(b.length:Int) then
  none
   else
  if (b.length:Int)=6 then
     none
  else
     (self.Qi a.2.1 a.2.2.1 a.2.2.2).bind fun c =>
     (app b [c.1]).bind fun e =>
     Qt self n c.2.1 c.2.2.1 c.2.2.2 e
def Cn (fu:Nat) (self:qj) (b:List Tb) (c:Int) (d:Int):Option (List Bb×List Tb×Int×Int):=
 (Jj b c d [[40]]).bind fun a =>
 Qt self fu a.1 a.2.1 a.2.2 []
def zw (i63:Int) (a:Int→(List Tb)→Int→Int→(List Bb)→Option (Bb×List Tb×Int×Int)) (b:List Tb) (i135:Int) (i136:Int) (c:List Bb):Option (Bb×List Tb×Int×Int):=
 (i64 (i63+1)).bind fun i177 =>
 a i177 b i135 i136 c
def qt (self:qj) (i63:Int) (b:List Bb) (c:Int→(List Tb)→Int→Int→(List Bb)→Option (Bb×List Tb×Int×Int)) (d:List Tb) (i116:Int) (i117:Int):Option (Bb×List Tb×Int×Int):=
 (self.Qi d i116 i117).bind fun a =>
 (app b [a.1]).bind fun e =>
 zw i63 c a.2.1 a.2.2.1 a.2.2.2 e
def jo (self:qj) (a:Int) (b:Int):Nat→Int→(List Tb)→Int→Int→(List Bb)→Option (Bb×List Tb×Int×Int)
 | 0,_,_,_,_,_=>none
 | n+1,i63,c,i68,i69,d =>
 if i63<b then
   if (0:Int)<i63 then
  (Jj c i68 i69 [[44]]).bind fun e =>
  qt self i63 d (jo self a b n) e.1 e.2.1 e.2.2
   else
  qt self i63 d (jo self a b n) c i68 i69
 else
   (Jj c i68 i69 [[41]]).bind fun f =>
   some ((Bb.mk a 0 [] d),f.1,f.2.1,f.2.2)
def Lk (self:qj) (c:List Tb) (d:Int) (e:Int) (f:Int) (b:Int):Option (Bb×List Tb×Int×Int):=
 (Jj c d e [[40]]).bind fun a =>
 jo self f b ((b - 0).toNat+1) 0 a.1 a.2.1 a.2.2 []
def Ik:Nat→qj
 | 0=>⟨fun _ _ _=>none,fun _ _ _ _=>none,fun _ _ _=>none,fun _ _ _=>none,fun _ _ _=>none,fun _ _ _ _ _=>none⟩
 | n+1=>⟨Qi (Ik n),Kk n (Ik n),bk (Ik n),rm n (Ik n),Cn n (Ik n),Lk (Ik n)⟩
structure Oo where
 Mk:(List Tb)→Int→Int→Option (List fe×List Tb×Int×Int)
 Dn:(List Tb)→Int→Int→Option (fe×List Tb×Int×Int)
def Rt (self:Oo):Nat→(List Tb)→Int→Int→(List fe)→Option (List fe×List Tb×Int×Int)
 | 0,_,_,_,_=>none
 | n+1,e,i65,i66,c =>
 (zg e i65 i66 [125]).bind fun a =>
 if a.1=true then
   (kq a.2.1 a.2.2.1 a.2.2.2).bind fun d =>
   some (c,d.1,d.2.1,d.2.2)
 else
   if (c.length:Int)=50 then
  none
   else
  (self.Dn a.2.1 a.2.2.1 a.2.2.2).bind fun b =>
  (app c [b.1]).bind fun f =>
  Rt self n b.2.1 b.2.2.1 b.2.2.2 f
def Mk (fu:Nat) (self:Oo) (c:List Tb) (d:Int) (e:Int):Option (List fe×List Tb×Int×Int):=
 (gq c d e).bind fun a =>
 (Jj a.1 a.2.1 a.2.2 [[123]]).bind fun b =>
 Rt self fu b.1 b.2.1 b.2.2 []
def Cp  (b:List Tb) (i28:Int) (i29:Int) (i30:Int) (c:List UInt8) (i33:Int) (i34:Int) (d:List UInt8) (e:List Bb):Option (fe×List Tb×Int×Int):=
 (Jj b i28 i29 [[59]]).bind fun a =>
 some ((fe.mk i30 c (Bb.mk i33 i34 d e) ([]:List fe) ([]:List fe)),a.1,a.2.1,a.2.2)
def Dn (fu:Nat) (self:Oo) (s:List Tb) (t:Int) (u:Int):Option (fe×List Tb×Int×Int):=
 (zg s t u [105,102]).bind fun j =>
 if j.1=true then
 none
 else
 (zg j.2.1 j.2.2.1 j.2.2.2 [119,104,105,108,101]).bind fun a =>
 if a.1=true then
   ((Ik fu).Qi a.2.1 a.2.2.1 a.2.2.2).bind fun b =>
   (self.Mk b.2.1 b.2.2.1 b.2.2.2).bind fun k =>
   some ((fe.mk 4 [] (Bb.mk b.1.Kind b.1.N b.1.Name b.1.Kids) k.1 ([]:List fe)),k.2.1,k.2.2.1,k.2.2.2)
 else
   (zg a.2.1 a.2.2.1 a.2.2.2 [108,101,116]).bind fun c =>
   if c.1=true then
  (hl fu c.2.1 c.2.2.1 c.2.2.2).bind fun l =>
  (Jj l.2.1 l.2.2.1 l.2.2.2 [[61]]).bind fun q =>
  ((Ik fu).Qi q.1 q.2.1 q.2.2).bind fun d =>
  Cp d.2.1 d.2.2.1 d.2.2.2 1 l.1 d.1.Kind d.1.N d.1.Name d.1.Kids
   else
  (zg c.2.1 c.2.2.1 c.2.2.2 [114,101,116,117,114,110]).bind fun m =>
  if m.1=true then
     none
  else
     (zg m.2.1 m.2.2.1 m.2.2.2 [115,116,111,112]).bind fun n =>
     if n.1=true then
   none
     else
   (zg n.2.1 n.2.2.1 n.2.2.2 [115,101,110,100]).bind fun o =>
   if o.1=true then
       none
   else
       (zg o.2.1 o.2.2.1 o.2.2.2 [111,117,116]).bind fun e =>
       if e.1=true then
    ((Ik fu).Qi e.2.1 e.2.2.1 e.2.2.2).bind fun f =>
    Cp f.2.1 f.2.2.1 f.2.2.2 8 [] f.1.Kind f.1.N f.1.Name f.1.Kids
       else
    (zg e.2.1 e.2.2.1 e.2.2.2 [100,111]).bind fun g =>
    if g.1=true then
         ((Ik fu).Qi g.2.1 g.2.2.1 g.2.2.2).bind fun h =>
         Cp h.2.1 h.2.2.1 h.2.2.2 9 [] h.1.Kind h.1.N h.1.Name h.1.Kids
    else
         (hl fu g.2.1 g.2.2.1 g.2.2.2).bind fun p =>
         (Jj p.2.1 p.2.2.1 p.2.2.2 [[61]]).bind fun r =>
         ((Ik fu).Qi r.1 r.2.1 r.2.2).bind fun i =>
         Cp i.2.1 i.2.2.1 i.2.2.2 2 p.1 i.1.Kind i.1.N i.1.Name i.1.Kids
def br:Nat→Oo
 | 0=>⟨fun _ _ _=>none,fun _ _ _=>none⟩
 | n+1=>⟨Mk n (br n),Dn n (br n)⟩
def vy (fu:Nat)  (r:List Tb) (s:Int) (t:Int):Option (Kb×List Tb×Int×Int):=
 (tv r s t).bind fun u =>
 (zg r s t [98,111,120]).bind fun b =>
 if b.1=true then
 (hl fu b.2.1 b.2.2.1 b.2.2.2).bind fun g =>
 (jq g.2.1 g.2.2.1 g.2.2.2).bind fun a =>
 (tv a.2.1 a.2.2.1 a.2.2.2).bind fun v =>
 (lu a.2.1 a.2.2.1 a.2.2.2).bind fun d =>
 if d.1<1 then
   none
 else
   if (20:Int)<d.1 then
  none
   else
  (Jj d.2.1 d.2.2.1 d.2.2.2 [[59]]).bind fun o =>
  some ((Kb.mk 1 g.1 (sc.mk a.1.Kind a.1.Nc) (sc.mk 0 []) d.1 ([]:List TParam) ([]:List fe)),o.1,o.2.1,o.2.2)
 else
 (zg b.2.1 b.2.2.1 b.2.2.2 [102,110]).bind fun h =>
 if h.1=true then
   none
 else
   (zg h.2.1 h.2.2.1 h.2.2.2 [103,101,110]).bind fun c =>
   if c.1=true then
  (hl fu c.2.1 c.2.2.1 c.2.2.2).bind fun i =>
  (jx fu i.2.1 i.2.2.1 i.2.2.2).bind fun j =>
  (Jj j.2.1 j.2.2.1 j.2.2.2 [[116,97,107,101,115]]).bind fun p =>
  (jq p.1 p.2.1 p.2.2).bind fun e =>
  (Jj e.2.1 e.2.2.1 e.2.2.2 [[121,105,101,108,100,115]]).bind fun q =>
  (jq q.1 q.2.1 q.2.2).bind fun f =>
  ((br fu).Mk f.2.1 f.2.2.1 f.2.2.2).bind fun k =>
  some ((Kb.mk 3 i.1 (sc.mk f.1.Kind f.1.Nc) (sc.mk e.1.Kind e.1.Nc) 0 j.1 k.1),k.2.1,k.2.2.1,k.2.2.2)
   else
  (zg c.2.1 c.2.2.1 c.2.2.2 [116,97,115,107]).bind fun l =>
  if l.1=true then
     (hl fu l.2.1 l.2.2.1 l.2.2.2).bind fun m =>
     ((br fu).Mk m.2.1 m.2.2.1 m.2.2.2).bind fun n =>
     some ((Kb.mk 4 m.1 (sc.mk 0 []) (sc.mk 0 []) 0 ([]:List TParam) n.1),n.2.1,n.2.2.1,n.2.2.2)
  else
     none
end Go.Y
namespace Go.Y
open Go.vc Go.hd
theorem MF {α:Type}{l:List Tb}{e d:Int}{k1 b:List UInt8}(m:¬ k1=b){A B C:Bool×List Tb×Int×Int→Option α}{r:α}
 (h:(Option.bind (zg l e d k1) fun x=>if x.1=true then A x else Option.bind (zg x.2.1 x.2.2.1 x.2.2.2 b) fun y=>if y.1=true then B y else C y)=some r) :
 (Option.bind (zg l e d b) fun y=>if y.1=true then B y else Option.bind (zg y.2.1 y.2.2.1 y.2.2.2 k1) fun x=>if x.1=true then A x else C x)=some r:=by
 have key:∀ k,(Ol l e d k=some false∧zg l e d k=some (false,l,e,d))∨(∃ t a,l=t::a∧t.Text=k∧zg l e d k=some (true,a,e,d)):=by
  intro k;cases l with
  | nil=>first | (left; simp [Ol,zg]; done) | (exfalso; simp [Ol,zg] at h)
  | cons t a =>
   by_cases c:t.Text=k
   ·right
    refine ⟨t,a,rfl,c,?_⟩;have f:(0:Int)<((a.length+1:Nat):Int):=by omega
    have n:(1:Int)≤((a.length+1:Nat):Int):=by omega
    have hc:cut (t::a) 1 ((t::a).length)=some a:=by
     unfold cut;rw [if_pos ⟨by omega,by simpa using n,by simp⟩];simp
    have o:Ol (t::a) e d k=some true:=by
     unfold Ol;rw [if_pos (by simp)];simp [at_,c]
    unfold zg;rw [o,Option.bind_some];simp only [if_true];rw [hc];rfl
   ·left
    have f:(0:Int)<((a.length+1:Nat):Int):=by omega
    simp [zg,Ol,at_,c,f]
 rcases key k1 with ⟨s1,i1⟩ | ⟨t,a,g,i,i1⟩
 ·rw [i1,Option.bind_some] at h
  simp only [Bool.false_eq_true,if_false] at h;rcases key b with ⟨s2,i2⟩ | ⟨t,a,g,i,i2⟩
  ·rw [i2,Option.bind_some] at h ⊢
   simp only [Bool.false_eq_true,if_false] at h ⊢;rw [i1,Option.bind_some];simpa using h
  ·rw [i2,Option.bind_some] at h ⊢
   simp only [if_true] at h ⊢;exact h
 ·rw [i1,Option.bind_some] at h
  simp only [if_true] at h;rcases key b with ⟨s2,i2⟩ | ⟨t2,q,j,p,i2⟩
  ·rw [i2,Option.bind_some]
   simp only [Bool.false_eq_true,if_false];rw [i1,Option.bind_some];simpa using h
  ·rw [g] at j
   obtain ⟨rfl,rfl⟩:=List.cons.inj j;exact absurd (i.symm.trans p) m
end Go.Y
namespace Go.Y
open Go.vc Go.hd
def LB:Option Unit:=some ()
def dw (a:(List Tb)→Int→Int→(List Kb)→Option (List Kb×yf)) (b:List Tb) (i75:Int) (i76:Int) (c:List Kb):Option (List Kb×yf):=
 a b i75 i76 c
def ew (a:List Tb×yf) (b:List Kb):Option (List Kb×yf):=
 (LB ).bind fun c =>
 some (b,a.2)
def Hq (fu:Nat) (c:List Tb×yf):Nat→(List Tb)→Int→Int→(List Kb)→Option (List Kb×yf)
 | 0,_,_,_,_=>none
 | n+1,d,i41,i42,a =>
 if (0:Int)<(d.length:Int) then
   if (a.length:Int)=30 then
  none
   else
  (vy fu d i41 i42).bind fun b =>
  (app a [b.1]).bind fun e =>
  dw (Hq fu c n) b.2.1 b.2.2.1 b.2.2.2 e
 else
   (Ot fu a).bind fun f =>
   if f.Th≠0 then
  none
   else
  ew c a
def lx (fu:Nat)  (p_1:List UInt8):Option (List Kb×yf):=
 (xw fu p_1).bind fun a =>
 if a.2.Th≠0 then
 none
 else
 Hq fu a fu a.1 (p_1.length:Int) 0 []
end Go.Y
namespace Go.Y
open Go.vc Go.hd
def nm  (p_1:sc):Option Bool :=
 some (decide (p_1.Kind≠3))
def St  (p_1:Ue) (b:Int) (a:List UInt8):Option (Option Kb×Bool):=
 if (pf p_1.named a).isSome=true then
 ((pf p_1.named a)).bind fun c =>
 some ((pf p_1.named a),decide (c.Kind=b))
 else
 none
def mx  (p_1:Ue) (a:sc):Option Int :=
 (nm a).bind fun b =>
 if b=true then
 some 0
 else
 none
def qo  (p_1:sc):Option sc :=
 (nm p_1).bind fun a =>
 if a=true then
 some (sc.mk p_1.Kind [])
 else
 none
def xo  :Option sc :=
 some (sc.mk 1 [])
def dp  :Option sc :=
 some (sc.mk 2 [])
def qs (a:List UInt8) (b:List (List (List UInt8×sc))):Nat→Int→Option (sc×Bool)
 | 0,_=>none
 | n+1,i48 =>
 if (0:Int)≤i48 then
   (at_ b i48).bind fun c =>
   if (pf c a).isSome=true then
  some (((pf c a).getD (sc.mk 0 [])),true)
   else
  (i64 (i48 - 1)).bind fun i88 =>
  qs a b n i88
 else
   some ((sc.mk 0 []),false)
def Sq (fu:Nat)  (c:Ue) (d:Kb) (a:List (List (List UInt8×sc))) (b:List UInt8):Option (sc×Bool):=
 (i64 ((a.length:Int) - 1)).bind fun i27 =>
 qs b a fu i27
structure gk where
 lf:Ue→Kb→(List (List (List UInt8×sc)))→Bb→sc→Option Int
 cn:Ue→Kb→(List (List (List UInt8×sc)))→Bb→Int→Option (Option Kb×Int)
 zl:Ue→Kb→(List (List (List UInt8×sc)))→Bb→Option (Option Kb×Int)
 Ij:Ue→Kb→(List (List (List UInt8×sc)))→Bb→Option (sc×Int)
def lf (self:gk) (c:Ue) (d:Kb) (e:List (List (List UInt8×sc))) (f:Bb) (g:sc):Option Int :=
 (self.Ij c d e f).bind fun a =>
 if a.2=0 then
 (qo g).bind fun b =>
 if (Tl [(decide (a.1.Kind=b.Kind)),(decide (a.1.Nc=b.Nc))])=true then
   some a.2
 else
   none
 else
 none
def ss (self:gk) (b:Bb) (c:Ue) (d:Kb) (e:List (List (List UInt8×sc))) (f:Option Kb×Bool) (a:Kb):Nat→Int→Option (Option Kb×Int)
 | 0,_=>none
 | n+1,i104 =>
 if i104<(a.Params.length:Int) then
   (at_ a.Params i104).bind fun g =>
   (at_ b.Kids i104).bind fun h =>
   (self.lf c d e h g.ue).bind fun i =>
   if i≠0 then
  none
   else
  (i64 (i104+1)).bind fun i158 =>
  ss self b c d e f a n i158
 else
   some (f.1,0)
def Qv (self:gk) (c:Bb) (d:Ue) (e:Kb) (f:List (List (List UInt8×sc))) (a:Option Kb×Bool) (g:Bool):Option (Option Kb×Int):=
 if g=true then
 none
 else
 (a.1).bind fun b =>
 ss self c d e f a b (b.Params.length+1) 0
def cn (self:gk) (c:Ue) (d:Kb) (e:List (List (List UInt8×sc))) (a:Bb) (f:Int):Option (Option Kb×Int):=
 (St c f a.Name).bind fun b =>
 if b.2=true then
 (b.1).bind fun g =>
 Qv self a c d e b (decide ((g.Params.length:Int)≠(a.Kids.length:Int)))
 else
 none
def zl (self:gk) (b:Ue) (c:Kb) (d:List (List (List UInt8×sc))) (e:Bb):Option (Option Kb×Int):=
 (self.Ij b c d e).bind fun a =>
 if a.2≠0 then
 none
 else
 (nm a.1).bind fun f =>
 if f=true then
   none
 else
   some ((pf b.named a.1.Nc),0)
def Rv  (i49:Int) (i50:Int) (a:List UInt8):Option (sc×Int):=
 some ((sc.mk i50 a),i49)
def Sv  (i125:Int) (i126:Int) (a:List UInt8):Option (sc×Int):=
 some ((sc.mk i126 a),i125)
def Tv  (a:Int) (b:Int) (c:List UInt8):Option (sc×Int):=
 some ((sc.mk b c),a)
def ts (self:gk) (a:Bb) (c:Ue) (d:Kb) (e:List (List (List UInt8×sc))) (f:sc) (g:Int) (h:List UInt8):Nat→Int→Option (sc×Int)
 | 0,_=>none
 | n+1,b =>
 if b<(a.Kids.length:Int) then
   (at_ a.Kids b).bind fun i =>
   (self.lf c d e i f).bind fun j =>
   if j≠0 then
  none
   else
  (i64 (b+1)).bind fun k =>
  ts self a c d e f g h n k
 else
   some ((sc.mk g h),0)
def zs (self:gk) (a:Bb) (b:Ue) (c:Kb) (d:List (List (List UInt8×sc))) (e:sc) (f:Int) (g:List UInt8):Option (sc×Int):=
 ts self a b c d e f g (a.Kids.length+1) 0
def Ij (fu:Nat) (self:gk) (c:Ue) (b:Kb) (d:List (List (List UInt8×sc))) (a:Bb):Option (sc×Int):=
 if a.Kind=1 then
 (xo ).bind fun o =>
 some (o,0)
 else
 if a.Kind=2 then
   (dp ).bind fun p =>
   some (p,0)
 else
   if a.Kind=3 then
  (Sq fu c b d a.Name).bind fun e =>
  if e.2=true then
     some (e.1,0)
  else
     none
   else
  if a.Kind=4 then
     (xo ).bind fun f =>
     (at_ a.Kids 0).bind fun q =>
     (xo ).bind fun r =>
     (self.lf c b d q r).bind fun s =>
     Rv s f.Kind f.Nc
  else
     if a.Kind=5 then
   none
     else
   if a.Kind=11 then
       none
   else
       if a.Kind=12 then
    none
       else
    if a.Kind=19 then
         none
    else
         if a.Kind=20 then
     (St c 1 a.Name).bind fun g =>
     if g.2=true then
           (g.1).bind fun t =>
           (qo t.ue).bind fun u =>
           some (u,0)
     else
           none
         else
     if a.Kind=21 then
           if b.Kind≠3 then
      none
           else
      (qo b.ae).bind fun h =>
      (at_ a.Kids 0).bind fun v =>
      (self.lf c b d v b.ue).bind fun w =>
      Sv w h.Kind h.Nc
     else
           if a.Kind=22 then
      (self.cn c b d a 3).bind fun x =>
      some ((sc.mk 3 a.Name),x.2)
           else
      if a.Kind=23 then
             (at_ a.Kids 0).bind fun y =>
             (self.zl c b d y).bind fun i =>
             if i.2≠0 then
       none
             else
       (i.1).bind fun j =>
       (qo j.ue).bind fun k =>
       (at_ a.Kids 1).bind fun z =>
       (self.lf c b d z j.ae).bind fun A =>
       Tv A k.Kind k.Nc
      else
             if a.Kind=24 then
       (at_ a.Kids 0).bind fun B =>
       (self.zl c b d B).bind fun C =>
       (dp ).bind fun D =>
       some (D,C.2)
             else
       (xo ).bind fun l =>
       (xo ).bind fun m =>
       if (17:Int)≤a.Kind then
               none
       else
               if (13:Int)≤a.Kind then
        (dp ).bind fun n =>
        zs self a c b d l n.Kind n.Nc
               else
        zs self a c b d l m.Kind m.Nc
def Gl:Nat→gk
 | 0=>⟨fun _ _ _ _ _=>none,fun _ _ _ _ _=>none,fun _ _ _ _=>none,fun _ _ _ _=>none⟩
 | n+1=>⟨lf (Gl n),cn (Gl n),zl (Gl n),Ij n (Gl n)⟩
end Go.Y
namespace Go.Y
open Go.vc Go.hd
def fw  (a:List (List (List UInt8×sc))):Option (List (List (List UInt8×sc))):=
 some a
def nx  (c:Ue) (d:Kb) (a:List (List (List UInt8×sc))):Option (List (List (List UInt8×sc))):=
 (i64 ((a.length:Int) - 1)).bind fun i33 =>
 (cut a 0 i33).bind fun b =>
 fw b
structure Jn where
 Bl:Ue→Kb→(List (List (List UInt8×sc)))→(List fe)→Option (Int×List (List (List UInt8×sc)))
 dn:Ue→Kb→(List (List (List UInt8×sc)))→fe→Option (Int×List (List (List UInt8×sc)))
def bs (self:Jn) (a:List fe) (b:Ue) (c:Kb):Nat→Int→(List (List (List UInt8×sc)))→Option (Int×List (List (List UInt8×sc)))
 | 0,_,_=>none
 | n+1,i74,d =>
 if i74<(a.length:Int) then
   (at_ a i74).bind fun f =>
   (self.dn b c d f).bind fun e =>
   if e.1≠0 then
  none
   else
  (i64 (i74+1)).bind fun i131 =>
  bs self a b c n i131 e.2
 else
   (nx b c d).bind fun g =>
   some (0,g)
def Kv (self:Jn) (a:List fe) (b:Ue) (c:Kb) (d:List (List (List UInt8×sc))):Option (Int×List (List (List UInt8×sc))):=
 bs self a b c (a.length+1) 0 d
def Bl (self:Jn) (a:Ue) (b:Kb) (c:List (List (List UInt8×sc))) (d:List fe):Option (Int×List (List (List UInt8×sc))):=
 (app c [[]]).bind fun e =>
 Kv self d a b e
def dn (fu:Nat) (self:Jn) (c:Ue) (d:Kb) (b:List (List (List UInt8×sc))) (a:fe):Option (Int×List (List (List UInt8×sc))):=
 if a.Kind=1 then
 ((Gl fu).Ij c d b a.X).bind fun g =>
 if g.2≠0 then
   none
 else
   (Sq fu c d b a.Name).bind fun i =>
   if i.2=true then
  none
   else
  (i64 ((b.length:Int) - 1)).bind fun i53 =>
  (at_ b i53).bind fun j =>
  some (0,(b.set i53.toNat (ye j a.Name g.1)))
 else
 if a.Kind=2 then
   (Sq fu c d b a.Name).bind fun h =>
   if h.2=true then
  ((Gl fu).lf c d b a.X h.1).bind fun k =>
  some (k,b)
   else
  none
 else
   if a.Kind=3 then
  none
   else
  if a.Kind=4 then
     (dp ).bind fun l =>
     ((Gl fu).lf c d b a.X l).bind fun m =>
     if m≠0 then
   none
     else
   (self.Bl c d b a.Body).bind fun e =>
   if e.1≠0 then
       none
   else
       if a.Kind=4 then
    some (e.1,e.2)
       else
    none
  else
     if a.Kind=5 then
   none
     else
   if a.Kind=6 then
       none
   else
       if a.Kind=7 then
    none
       else
    if a.Kind=8 then
         ((Gl fu).Ij c d b a.X).bind fun f =>
         if f.2=0 then
     (nm f.1).bind fun n =>
     if n=true then
           some (f.2,b)
     else
           none
         else
     none
    else
         if a.Kind=9 then
     ((Gl fu).Ij c d b a.X).bind fun o =>
     some (o.2,b)
         else
     none
def Tt:Nat→Jn
 | 0=>⟨fun _ _ _ _=>none,fun _ _ _ _=>none⟩
 | n+1=>⟨Bl (Tt n),dn n (Tt n)⟩
def ep  (a:Bool):Option Int :=
 if a=true then
 none
 else
 some 0
def As (a:Kb):Option Int :=
 if a.Kind=3 then
 (nm a.ae).bind fun b =>
 if b=true then
   if a.Kind≠4 then
  (nm a.ue).bind fun c =>
  ep (!c)
   else
  ep false
 else
   none
 else
 if a.Kind≠4 then
   (nm a.ue).bind fun d =>
   ep (!d)
 else
   ep false
def Bs (p_1:Ue) (b:Kb):Nat→Int→(List (List UInt8×Int))→Option Int
 | 0,_,_=>none
 | n+1,i46,c =>
 if i46<(b.Params.length:Int) then
   (at_ b.Params i46).bind fun a =>
   (i64 (((pf c a.Name).getD 0)+1)).bind fun i90 =>
   if (1:Int)<((pf (ye c a.Name i90) a.Name).getD 0) then
  none
   else
  (mx p_1 a.ue).bind fun d =>
  if d≠0 then
     none
  else
     (i64 (i46+1)).bind fun i102 =>
     Bs p_1 b n i102 (ye c a.Name i90)
 else
   As b
def Nw  (p_1:Ue) (a:Kb):Option Int :=
 if a.Kind=2 then
 none
 else
 if a.Kind=3 then
   Bs p_1 a (a.Params.length+1) 0 ([]:List (List UInt8×Int))
 else
   As a
def Cs (fu:Nat) (p_1:Ue) (a:Kb) (b:List (List (List UInt8×sc))):Option Int :=
 ((Tt fu).Bl p_1 a b a.Body).bind fun c =>
 some c.1
def Uv (i63:Int) (a:Int→(List (List (List UInt8×sc)))→Option Int) (b:List (List (List UInt8×sc))):Option Int :=
 (i64 (i63+1)).bind fun i202 =>
 a i202 b
def Bq (fu:Nat) (p_1:Ue) (a:Kb):Nat→Int→(List (List (List UInt8×sc)))→Option Int
 | 0,_,_=>none
 | n+1,i63,b =>
 if i63<(a.Params.length:Int) then
   (at_ a.Params i63).bind fun c =>
   (at_ b 0).bind fun d =>
   (qo c.ue).bind fun e =>
   Uv i63 (Bq fu p_1 a n) (b.set (0:Int).toNat (ye d c.Name e))
 else
   Cs fu p_1 a b
def Ow (fu:Nat)  (p_1:Ue) (a:Kb):Option Int :=
 if a.Kind=1 then
 some 0
 else
 if a.Kind≠4 then
   Bq fu p_1 a (a.Params.length+1) 0 [([]:List (List UInt8×sc))]
 else
   Cs fu p_1 a [([]:List (List UInt8×sc))]
def fs (fu:Nat) (p_1:List Kb) (a:List (List UInt8×Kb)):Nat→Int→Option (Ue×yf)
 | 0,_=>none
 | n+1,i317 =>
 if i317<(p_1.length:Int) then
   (at_ p_1 i317).bind fun b =>
   (Ow fu (Ue.mk p_1 a) b).bind fun c =>
   if c≠0 then
  none
   else
  (i64 (i317+1)).bind fun d =>
  fs fu p_1 a n d
 else
   some ((Ue.mk p_1 a),(yf.mk 0 0))
def hs (fu:Nat) (p_1:List Kb) (a:List (List UInt8×Kb)):Nat→Int→Option (Ue×yf)
 | 0,_=>none
 | n+1,i258 =>
 if i258<(p_1.length:Int) then
   (at_ p_1 i258).bind fun b =>
   (Nw (Ue.mk p_1 a) b).bind fun c =>
   if c≠0 then
  none
   else
  (i64 (i258+1)).bind fun i298 =>
  hs fu p_1 a n i298
 else
   fs fu p_1 a (p_1.length+1) 0
def zq (fu:Nat) (p_1:List Kb):Nat→Int→Int→(List (List UInt8×Kb))→Option (Ue×yf)
 | 0,_,_,_=>none
 | n+1,i90,i91,a =>
 if i91<(p_1.length:Int) then
   (at_ p_1 i91).bind fun d =>
   if (pf a d.Name).isSome=true then
  none
   else
  (at_ p_1 i91).bind fun b =>
  (at_ p_1 i91).bind fun c =>
  (at_ p_1 i91).bind fun e =>
  if e.Kind=4 then
     (i64 (i90+1)).bind fun i228 =>
     (i64 (i91+1)).bind fun i230 =>
     zq fu p_1 n i228 i230 (ye a b.Name c)
  else
     (i64 (i91+1)).bind fun i232 =>
     zq fu p_1 n i90 i232 (ye a b.Name c)
 else
   if i90=0 then
  none
   else
  hs fu p_1 a (p_1.length+1) 0
def Aw (fu:Nat)  (p_1:List Kb):Option (Ue×yf):=
 (Ot fu p_1).bind fun a =>
 if a.Th≠0 then
 none
 else
 zq fu p_1 (p_1.length+1) 0 0 ([]:List (List UInt8×Kb))
end Go.Y
namespace Go.Y
open Go.vc Go.hd
structure Kn where
 Hl:(List (List UInt8))→(List (List UInt8))→(List (List UInt8))→Bb→Option (List (List UInt8)×List (List UInt8)×List (List UInt8))
def Ds (self:Kn) (a:Bb):Nat→Int→(List (List UInt8))→(List (List UInt8))→(List (List UInt8))→Option (List (List UInt8)×List (List UInt8)×List (List UInt8))
 | 0,_,_,_,_=>none
 | n+1,i104,c,d,e =>
 if i104<(a.Kids.length:Int) then
   (at_ a.Kids i104).bind fun f =>
   (self.Hl c d e f).bind fun b =>
   (i64 (i104+1)).bind fun i170 =>
   Ds self a n i170 b.1 b.2.1 b.2.2
 else
   some (c,d,e)
def Cq (self:Kn) (a:Bb) (b:List (List UInt8)) (c:List (List UInt8)) (d:List (List UInt8)):Option (List (List UInt8)×List (List UInt8)×List (List UInt8)):=
 Ds self a (a.Kids.length+1) 0 c b d
def Vv (self:Kn) (a:Bb) (b:List (List UInt8)) (c:List (List UInt8)) (d:List (List UInt8)):Option (List (List UInt8)×List (List UInt8)×List (List UInt8)):=
 Cq self a b d c
def Wv (self:Kn) (a:List (List UInt8)) (b:Bb) (c:List (List UInt8)) (d:List (List UInt8)):Option (List (List UInt8)×List (List UInt8)×List (List UInt8)):=
 Cq self b c a d
def Hl (self:Kn) (b:List (List UInt8)) (c:List (List UInt8)) (d:List (List UInt8)) (a:Bb):Option (List (List UInt8)×List (List UInt8)×List (List UInt8)):=
 if a.Kind=19 then
 none
 else
 if a.Kind=22 then
   (app b [a.Name]).bind fun e =>
   Vv self a c d e
 else
   if a.Kind=20 then
  (app d [a.Name]).bind fun f =>
  Wv self b a c f
   else
  Cq self a c b d
def Pw:Nat→Kn
 | 0=>⟨fun _ _ _ _=>none⟩
 | n+1=>⟨Hl (Pw n)⟩
structure Br where
 Cl:(List (List UInt8))→(List (List UInt8))→(List (List UInt8))→(List fe)→Option (List (List UInt8)×List (List UInt8)×List (List UInt8))
def js (i82:Int) (a:fe) (b:Int→(List (List UInt8))→(List (List UInt8))→(List (List UInt8))→Option (List (List UInt8)×List (List UInt8)×List (List UInt8))) (c:List (List UInt8)) (d:List (List UInt8)) (e:List (List UInt8)):Option (List (List UInt8)×List (List UInt8)×List (List UInt8)):=
 if a.Kind=3 then
 none
 else
 (i64 (i82+1)).bind fun i218 =>
 b i218 c d e
def bp (fu:Nat) (self:Br) (c:List fe):Nat→Int→(List (List UInt8))→(List (List UInt8))→(List (List UInt8))→Option (List (List UInt8)×List (List UInt8)×List (List UInt8))
 | 0,_,_,_,_=>none
 | n+1,i82,e,f,g =>
 if i82<(c.length:Int) then
   (at_ c i82).bind fun a =>
   if a.Kind=7 then
  none
   else
  if a.Kind≠6 then
     ((Pw fu).Hl e f g a.X).bind fun b =>
     if a.Kind=3 then
   none
     else
   if a.Kind=4 then
       (self.Cl b.1 b.2.1 b.2.2 a.Body).bind fun d =>
       js i82 a (bp fu self c n) d.1 d.2.1 d.2.2
   else
       js i82 a (bp fu self c n) b.1 b.2.1 b.2.2
  else
     none
 else
   some (e,f,g)
def Cl (fu:Nat) (self:Br) (b:List (List UInt8)) (c:List (List UInt8)) (d:List (List UInt8)) (a:List fe):Option (List (List UInt8)×List (List UInt8)×List (List UInt8)):=
 bp fu self a (a.length+1) 0 b c d
def Qw:Nat→Br
 | 0=>⟨fun _ _ _ _=>none⟩
 | n+1=>⟨Cl n (Qw n)⟩
def Aq (p_1:Ue) (a:List (List UInt8)×List (List UInt8)×List (List UInt8)) (d:List (List UInt8)) (e:List (List UInt8)) (f:(List (List UInt8))→(List (Option Kb))→(List (List UInt8))→(List (List UInt8))→Option Gg):Nat→Int→(List (List UInt8))→(List (Option Kb))→Option Gg
 | 0,_,_,_=>none
 | n+1,b,c,g =>
 if b<(a.1.length:Int) then
   (at_ a.1 b).bind fun h =>
   if c.contains h=true then
  (i64 (b+1)).bind fun i =>
  Aq p_1 a d e f n i c g
   else
  (app c [h]).bind fun j =>
  (app g [(pf p_1.named h)]).bind fun k =>
  (i64 (b+1)).bind fun l =>
  Aq p_1 a d e f n l j k
 else
   f c g d e
def Lv (p_1:Ue) (b:List (List UInt8)) (c:List (Option Kb)) (a:List (List UInt8)×List (List UInt8)×List (List UInt8)) (d:(List (List UInt8))→(List (Option Kb))→(List (List UInt8))→(List (List UInt8))→Option Gg) (g:List (List UInt8)) (h:List (List UInt8)) (e:List (List UInt8)) (f:List (List UInt8)):Option Gg :=
 Aq p_1 a e f d (a.1.length+1) 0 b c
def cp (fu:Nat) (p_1:Ue):Nat→(List (List UInt8))→(List (Option Kb))→(List (List UInt8))→(List (List UInt8))→Option Gg
 | 0,_,_,_,_=>none
 | n+1,e,b,c,d =>
 if (0:Int)<(b.length:Int) then
   (at_ b 0).bind fun f =>
   (cut b 1 b.length).bind fun g =>
   (f).bind fun h =>
   ((Qw fu).Cl ([]:List (List UInt8)) ([]:List (List UInt8)) ([]:List (List UInt8)) h.Body).bind fun a =>
   (app c a.2.1).bind fun i =>
   (app d a.2.2).bind fun j =>
   Lv p_1 e g a (cp fu p_1 n) a.2.1 a.2.2 i j
 else
   some (Gg.mk ([]:List (List UInt8)) c d)
def Bw (fu:Nat)  (p_1:Ue) (a:Kb):Option Gg :=
 cp fu p_1 fu ([]:List (List UInt8)) ([(some a)]:List (Option Kb)) [] []
def Gv (i88:Int) (a:Int→(List (List UInt8×Gg))→Option (List aj×yf)) (b:List (List UInt8×Gg)):Option (List aj×yf):=
 (i64 (i88+1)).bind fun i223 =>
 a i223 b
def Xr (a:Int) (b:List UInt8) (c:Int→(List UInt8)→(List UInt8)→Option (List aj×yf)) (d:List UInt8):Option (List aj×yf):=
 (i64 (a+1)).bind fun e =>
 c e b d
def Yr (f:List (List UInt8×Gg)) (g:Kb) (a:Int) (b:List UInt8) (c:Kb) (d:Int→(List UInt8)→(List UInt8)→Option (List aj×yf)) (e:List UInt8):Option (List aj×yf):=
 if (((pf f c.Name).getD (Gg.mk ([]:List (List UInt8)) ([]:List (List UInt8)) ([]:List (List UInt8)))).Sl).contains g.Name=true then
 if b≠[] then
   none
 else
   Xr a e d c.Name
 else
 Xr a e d b
def Tm (p_1:List Kb) (b:List (List UInt8×Gg)) (e:Int) (f:List aj) (a:Kb) (g:Int→(List aj)→Option (List aj×yf)):Nat→Int→(List UInt8)→(List UInt8)→Option (List aj×yf)
 | 0,_,_,_=>none
 | n+1,c,h,i =>
 if c<(p_1.length:Int) then
   (at_ p_1 c).bind fun d =>
   if d.Kind≠4 then
  (i64 (c+1)).bind fun j =>
  Tm p_1 b e f a g n j h i
   else
  if (((pf b d.Name).getD (Gg.mk ([]:List (List UInt8)) ([]:List (List UInt8)) ([]:List (List UInt8)))).Rl).contains a.Name=true then
     if h≠[] then
   none
     else
   Yr b a c i d (Tm p_1 b e f a g n) d.Name
  else
     Yr b a c i d (Tm p_1 b e f a g n) h
 else
   (app f [(aj.mk a.Name h i)]).bind fun k =>
   (i64 (e+1)).bind fun l =>
   g l k
def Um (p_1:List Kb) (b:List (List UInt8×Gg)):Nat→Int→(List aj)→Option (List aj×yf)
 | 0,_,_=>none
 | n+1,a,c =>
 if a<(p_1.length:Int) then
   (at_ p_1 a).bind fun d =>
   if d.Kind≠1 then
  (i64 (a+1)).bind fun e =>
  Um p_1 b n e c
   else
  Tm p_1 b a c d (Um p_1 b n) (p_1.length+1) 0 [] []
 else
   some (c,(yf.mk 0 0))
def Yo (fu:Nat) (p_1:List Kb) (a:Ue×yf):Nat→Int→(List (List UInt8×Gg))→Option (List aj×yf)
 | 0,_,_=>none
 | n+1,i88,b =>
 if i88<(p_1.length:Int) then
   (at_ p_1 i88).bind fun c =>
   if c.Kind=4 then
  (at_ p_1 i88).bind fun d =>
  (at_ p_1 i88).bind fun e =>
  (Bw fu a.1 e).bind fun f =>
  Gv i88 (Yo fu p_1 a n) (ye b d.Name f)
   else
  (i64 (i88+1)).bind fun i225 =>
  Yo fu p_1 a n i225 b
 else
   Um p_1 b (p_1.length+1) 0 []
def gw (fu:Nat)  (p_1:List Kb):Option (List aj×yf):=
 (Aw fu p_1).bind fun a =>
 if a.2.Th≠0 then
 none
 else
 Yo fu p_1 a (p_1.length+1) 0 ([]:List (List UInt8×Gg))
def Cw (fu:Nat)  (p_1:List Kb):Option yf :=
 (gw fu p_1).bind fun a =>
 some a.2
end Go.Y
namespace Go.Y
open Go.vc Go.hd
def zo  (p_1:ih) (a:sc):Option Int :=
 if a.Kind=3 then
 none
 else
 some a.Kind
def ox  (b:List (List UInt8×Int)) (c:List (List UInt8×Int)) (d:List (List UInt8×Kb)) (a:sc):Option Int :=
 if a.Kind=3 then
 none
 else
 some a.Kind
def ej  (l:ih) (b:Int) (c:Int) (d:List Int) (e:Int) (f:Int) (g:List Jc) (h:List (List (List UInt8×Int))) (i:Int) (j:Int) (k:Int):Option (Int×Int×Int×List Int×Int×Int×List Jc×List (List (List UInt8×Int))):=
 (app g [(Jc.mk i j k)]).bind fun a =>
 (i64 ((a.length:Int) - 1)).bind fun i44 =>
 some (i44,b,c,d,e,f,a,h)
def mu  (b:ih) (c:Int) (d:Int) (e:List Int) (f:Int) (g:Int) (a:List Jc) (h:List (List (List UInt8×Int))):Option Int :=
 some (a.length:Int)
def Ut  (l:ih) (c:Int) (d:Int) (e:List Int) (f:Int) (g:Int) (h:List Jc) (a:List (List (List UInt8×Int))) (i:List UInt8) (j:Int):Option (Int×Int×Int×List Int×Int×Int×List Jc×List (List (List UInt8×Int))):=
 (app e [j]).bind fun b =>
 (i64 ((b.length:Int) - 1)).bind fun i44 =>
 (i64 ((a.length:Int) - 1)).bind fun i46 =>
 (at_ a i46).bind fun k =>
 some (i44,c,d,b,f,g,h,(a.set i46.toNat (ye k i i44)))
def Ss (a:List UInt8) (b:List (List (List UInt8×Int))):Nat→Int→Option Int
 | 0,_=>none
 | n+1,i45 =>
 if (0:Int)≤i45 then
   (at_ b i45).bind fun c =>
   if (pf c a).isSome=true then
  some ((pf c a).getD 0)
   else
  (i64 (i45 - 1)).bind fun i77 =>
  Ss a b n i77
 else
   none
def nu (fu:Nat)  (c:ih) (d:Int) (e:Int) (f:List Int) (g:Int) (h:Int) (i:List Jc) (a:List (List (List UInt8×Int))) (b:List UInt8):Option Int :=
 (i64 ((a.length:Int) - 1)).bind fun i28 =>
 Ss b a fu i28
structure Kr where
 Jk:ih→Int→Int→(List Int)→Int→Int→(List Jc)→(List (List (List UInt8×Int)))→Bb→Option (Int×Int×Int×List Int×Int×Int×List Jc×List (List (List UInt8×Int)))
def iw (a:Int×Int×Int×List Int×Int×Int×List Jc×List (List (List UInt8×Int))) (i276:Int):Option (Int×Int×Int×List Int×Int×Int×List Jc×List (List (List UInt8×Int))):=
 some (i276,a.2.1,a.2.2.1,a.2.2.2.1,a.2.2.2.2.1,a.2.2.2.2.2.1,a.2.2.2.2.2.2.1,a.2.2.2.2.2.2.2)
def jw (a:Int×Int×Int×List Int×Int×Int×List Jc×List (List (List UInt8×Int))) (b:Int):Option (Int×Int×Int×List Int×Int×Int×List Jc×List (List (List UInt8×Int))):=
 some (b,a.2.1,a.2.2.1,a.2.2.2.1,a.2.2.2.2.1,a.2.2.2.2.2.1,a.2.2.2.2.2.2.1,a.2.2.2.2.2.2.2)
def Ts (fu:Nat) (self:Kr) (a:Bb) (b:ih):Nat→Int→Int→Int→Int→Int→(List Int)→(List Jc)→(List (List (List UInt8×Int)))→(List Int)→Option (Int×Int×Int×List Int×Int×Int×List Jc×List (List (List UInt8×Int)))
 | 0,_,_,_,_,_,_,_,_,_=>none
 | n+1,i76,i77,i78,i79,i80,d,e,f,q =>
 if i76<(a.Kids.length:Int) then
   (at_ a.Kids i76).bind fun t =>
   (self.Jk b i77 i78 d i79 i80 e f t).bind fun g =>
   (app q [g.1]).bind fun u =>
   (i64 (i76+1)).bind fun i165 =>
   Ts fu self a b n i165 g.2.1 g.2.2.1 g.2.2.2.2.1 g.2.2.2.2.2.1 g.2.2.2.1 g.2.2.2.2.2.2.1 g.2.2.2.2.2.2.2 u
 else
   if a.Kind=1 then
  (ej b i77 i78 d i79 i80 e f 1 0 a.N).bind fun k =>
  some (1,k.2.1,k.2.2.1,k.2.2.2.1,k.2.2.2.2.1,k.2.2.2.2.2.1,k.2.2.2.2.2.2.1,k.2.2.2.2.2.2.2)
   else
  if a.Kind=2 then
     (ej b i77 i78 d i79 i80 e f 2 a.N 0).bind fun l =>
     some (2,l.2.1,l.2.2.1,l.2.2.2.1,l.2.2.2.2.1,l.2.2.2.2.2.1,l.2.2.2.2.2.2.1,l.2.2.2.2.2.2.2)
  else
     if a.Kind=3 then
   (nu fu b i77 i78 d i79 i80 e f a.Name).bind fun r =>
   (ej b i77 i78 d i79 i80 e f 3 r 0).bind fun h =>
   (at_ h.2.2.2.1 r).bind fun v =>
   some (v,h.2.1,h.2.2.1,h.2.2.2.1,h.2.2.2.2.1,h.2.2.2.2.2.1,h.2.2.2.2.2.2.1,h.2.2.2.2.2.2.2)
     else
   if a.Kind=4 then
       (ej b i77 i78 d i79 i80 e f 6 0 0).bind fun m =>
       some (1,m.2.1,m.2.2.1,m.2.2.2.1,m.2.2.2.2.1,m.2.2.2.2.2.1,m.2.2.2.2.2.2.1,m.2.2.2.2.2.2.2)
   else
       if a.Kind=5 then
    none
       else
    if (6:Int)≤a.Kind then
         if a.Kind≤18 then
     (i64 (8+a.Kind)).bind fun i239 =>
     (i64 (i239 - 6)).bind fun i241 =>
     (ej b i77 i78 d i79 i80 e f i241 0 0).bind fun c =>
     if a.Kind≤10 then
           some (1,c.2.1,c.2.2.1,c.2.2.2.1,c.2.2.2.2.1,c.2.2.2.2.2.1,c.2.2.2.2.2.2.1,c.2.2.2.2.2.2.2)
     else
           some (2,c.2.1,c.2.2.1,c.2.2.2.1,c.2.2.2.2.1,c.2.2.2.2.2.1,c.2.2.2.2.2.2.1,c.2.2.2.2.2.2.2)
         else
     if a.Kind=19 then
           none
     else
           if a.Kind=20 then
      (ej b i77 i78 d i79 i80 e f 27 ((pf b.boxes a.Name).getD 0) 0).bind fun w =>
      ((pf b.defs a.Name)).bind fun x =>
      (zo b x.ue).bind fun y =>
      iw w y
           else
      if a.Kind=22 then
             (ej b i77 i78 d i79 i80 e f 29 ((pf b.Ok a.Name).getD 0) 0).bind fun o =>
             (i64 (10+((pf b.Ok a.Name).getD 0))).bind fun z =>
             some (z,o.2.1,o.2.2.1,o.2.2.2.1,o.2.2.2.2.1,o.2.2.2.2.2.1,o.2.2.2.2.2.2.1,o.2.2.2.2.2.2.2)
      else
             if a.Kind=21 then
       (ej b i77 i78 d i79 i80 e f 31 0 0).bind fun i =>
       some (i.2.2.2.2.2.1,i.2.1,i.2.2.1,i.2.2.2.1,i.2.2.2.2.1,i.2.2.2.2.2.1,i.2.2.2.2.2.2.1,i.2.2.2.2.2.2.2)
             else
       if a.Kind=24 then
               (ej b i77 i78 d i79 i80 e f 32 0 0).bind fun p =>
               some (2,p.2.1,p.2.2.1,p.2.2.2.1,p.2.2.2.2.1,p.2.2.2.2.2.1,p.2.2.2.2.2.2.1,p.2.2.2.2.2.2.2)
       else
               (ej b i77 i78 d i79 i80 e f 30 0 0).bind fun j =>
               (at_ q 0).bind fun A =>
               (i64 (A - 10)).bind fun B =>
               (Ar b.Ok B).bind fun s =>
               if s.isSome=true then
        ((pf b.defs ((s.getD ([],0)).1))).bind fun C =>
        (zo b C.ue).bind fun D =>
        jw j D
               else
        some (0,j.2.1,j.2.2.1,j.2.2.2.1,j.2.2.2.2.1,j.2.2.2.2.2.1,j.2.2.2.2.2.2.1,j.2.2.2.2.2.2.2)
    else
         none
def Jk (fu:Nat) (self:Kr) (b:ih) (c:Int) (d:Int) (e:List Int) (f:Int) (g:Int) (h:List Jc) (i:List (List (List UInt8×Int))) (a:Bb):Option (Int×Int×Int×List Int×Int×Int×List Jc×List (List (List UInt8×Int))):=
 Ts fu self a b (a.Kids.length+1) 0 c d f g e h i []
def ou:Nat→Kr
 | 0=>⟨fun _ _ _ _ _ _ _ _ _=>none⟩
 | n+1=>⟨Jk n (ou n)⟩
structure Po where
 Kl:ih→Int→Int→(List Int)→Int→Int→(List Jc)→(List (List (List UInt8×Int)))→(List fe)→Option (Int×Int×List Int×Int×Int×List Jc×List (List (List UInt8×Int)))
 jn:ih→Int→Int→(List Int)→Int→Int→(List Jc)→(List (List (List UInt8×Int)))→fe→Option (Int×Int×List Int×Int×Int×List Jc×List (List (List UInt8×Int)))
def Us (self:Po) (b:List fe) (d:ih):Nat→Int→Int→Int→Int→Int→(List Int)→(List Jc)→(List (List (List UInt8×Int)))→Option (Int×Int×List Int×Int×Int×List Jc×List (List (List UInt8×Int)))
 | 0,_,_,_,_,_,_,_,_=>none
 | n+1,i81,i82,i83,i84,i85,e,f,c =>
 if i81<(b.length:Int) then
   (at_ b i81).bind fun g =>
   (self.jn d i82 i83 e i84 i85 f c g).bind fun a =>
   (i64 (i81+1)).bind fun i163 =>
   Us self b d n i163 a.1 a.2.1 a.2.2.2.1 a.2.2.2.2.1 a.2.2.1 a.2.2.2.2.2.1 a.2.2.2.2.2.2
 else
   (i64 ((c.length:Int) - 1)).bind fun i165 =>
   (cut c 0 i165).bind fun h =>
   some (i82,i83,e,i84,i85,f,h)
def Kl (self:Po) (b:ih) (c:Int) (d:Int) (e:List Int) (f:Int) (g:Int) (h:List Jc) (i:List (List (List UInt8×Int))) (a:List fe):Option (Int×Int×List Int×Int×Int×List Jc×List (List (List UInt8×Int))):=
 (app i [[]]).bind fun j =>
 Us self a b (a.length+1) 0 c d f g e h j
def mw (a:Int×Int×Int×List Int×Int×Int×List Jc×List (List (List UInt8×Int))) (b:List Jc):Option (Int×Int×List Int×Int×Int×List Jc×List (List (List UInt8×Int))):=
 some (a.2.1,a.2.2.1,a.2.2.2.1,a.2.2.2.2.1,a.2.2.2.2.2.1,b,a.2.2.2.2.2.2.2)
def jn (fu:Nat) (self:Po) (c:ih) (m:Int) (n:Int) (o:List Int) (p:Int) (q:Int) (r:List Jc) (s:List (List (List UInt8×Int))) (b:fe):Option (Int×Int×List Int×Int×Int×List Jc×List (List (List UInt8×Int))):=
 if b.Kind=3 then
 none
 else
 if b.Kind=4 then
   (mu c m n o p q r s).bind fun u =>
   ((ou fu).Jk c m n o p q r s b.X).bind fun g =>
   (ej c g.2.1 g.2.2.1 g.2.2.2.1 g.2.2.2.2.1 g.2.2.2.2.2.1 g.2.2.2.2.2.2.1 g.2.2.2.2.2.2.2 22 0 0).bind fun e =>
   (self.Kl c e.2.1 e.2.2.1 e.2.2.2.1 e.2.2.2.2.1 e.2.2.2.2.2.1 e.2.2.2.2.2.2.1 e.2.2.2.2.2.2.2 b.Body).bind fun h =>
   (ej c h.1 h.2.1 h.2.2.1 h.2.2.2.1 h.2.2.2.2.1 h.2.2.2.2.2.1 h.2.2.2.2.2.2 21 u 0).bind fun d =>
   (mu c d.2.1 d.2.2.1 d.2.2.2.1 d.2.2.2.2.1 d.2.2.2.2.2.1 d.2.2.2.2.2.2.1 d.2.2.2.2.2.2.2).bind fun v =>
   (at_ d.2.2.2.2.2.2.1 e.1).bind fun t =>
   mw d (d.2.2.2.2.2.2.1.set e.1.toNat (Jc.mk t.Op v t.N))
 else
   if b.Kind=6 then
  none
   else
  ((ou fu).Jk c m n o p q r s b.X).bind fun a =>
  if b.Kind=1 then
     (Ut c a.2.1 a.2.2.1 a.2.2.2.1 a.2.2.2.2.1 a.2.2.2.2.2.1 a.2.2.2.2.2.2.1 a.2.2.2.2.2.2.2 b.Name a.1).bind fun f =>
     (ej c f.2.1 f.2.2.1 f.2.2.2.1 f.2.2.2.2.1 f.2.2.2.2.2.1 f.2.2.2.2.2.2.1 f.2.2.2.2.2.2.2 4 f.1 0).bind fun i =>
     some (i.2.1,i.2.2.1,i.2.2.2.1,i.2.2.2.2.1,i.2.2.2.2.2.1,i.2.2.2.2.2.2.1,i.2.2.2.2.2.2.2)
  else
     if b.Kind=2 then
   (nu fu c a.2.1 a.2.2.1 a.2.2.2.1 a.2.2.2.2.1 a.2.2.2.2.2.1 a.2.2.2.2.2.2.1 a.2.2.2.2.2.2.2 b.Name).bind fun w =>
   (ej c a.2.1 a.2.2.1 a.2.2.2.1 a.2.2.2.2.1 a.2.2.2.2.2.1 a.2.2.2.2.2.2.1 a.2.2.2.2.2.2.2 4 w 0).bind fun j =>
   some (j.2.1,j.2.2.1,j.2.2.2.1,j.2.2.2.2.1,j.2.2.2.2.2.1,j.2.2.2.2.2.2.1,j.2.2.2.2.2.2.2)
     else
   if b.Kind=5 then
       none
   else
       if b.Kind=7 then
    none
       else
    if b.Kind=8 then
         (ej c a.2.1 a.2.2.1 a.2.2.2.1 a.2.2.2.2.1 a.2.2.2.2.2.1 a.2.2.2.2.2.2.1 a.2.2.2.2.2.2.2 28 0 0).bind fun k =>
         some (k.2.1,k.2.2.1,k.2.2.2.1,k.2.2.2.2.1,k.2.2.2.2.2.1,k.2.2.2.2.2.2.1,k.2.2.2.2.2.2.2)
    else
         if b.Kind=9 then
     (ej c a.2.1 a.2.2.1 a.2.2.2.1 a.2.2.2.2.1 a.2.2.2.2.2.1 a.2.2.2.2.2.2.1 a.2.2.2.2.2.2.2 5 0 0).bind fun l =>
     some (l.2.1,l.2.2.1,l.2.2.2.1,l.2.2.2.2.1,l.2.2.2.2.2.1,l.2.2.2.2.2.2.1,l.2.2.2.2.2.2.2)
         else
     none
def qu:Nat→Po
 | 0=>⟨fun _ _ _ _ _ _ _ _ _=>none,fun _ _ _ _ _ _ _ _ _=>none⟩
 | n+1=>⟨Kl (qu n),jn n (qu n)⟩
def Vs (fu:Nat) (p_1:ih) (c:Kb) (d:List (List (List UInt8×Int))) (i40:Int) (i41:Int) (i42:Int) (e:List Int) (f:List Jc) (i187:Int):Option gf :=
 ((qu fu).Kl p_1 i40 i41 e i42 i187 f d c.Body).bind fun a =>
 if c.Kind≠2 then
 (ej p_1 a.1 a.2.1 a.2.2.1 a.2.2.2.1 a.2.2.2.2.1 a.2.2.2.2.2.1 a.2.2.2.2.2.2 25 0 0).bind fun b =>
 some (gf.mk b.2.1 b.2.2.1 b.2.2.2.1 b.2.2.2.2.1 b.2.2.2.2.2.1 b.2.2.2.2.2.2.1)
 else
 none
def Ws (fu:Nat) (p_1:ih) (a:Kb) (b:List (List (List UInt8×Int))) (i40:Int) (i41:Int) (i42:Int) (i43:Int) (c:List Int) (d:List Jc):Option gf :=
 if a.Kind=3 then
 (zo p_1 a.ae).bind fun e =>
 Vs fu p_1 a b i40 i41 i42 c d e
 else
 Vs fu p_1 a b i40 i41 i42 c d i43
def nw (i87:Int) (a:Int→(List (List (List UInt8×Int)))→Int→Int→Int→Int→(List Int)→(List Jc)→Option gf) (b:List (List (List UInt8×Int))) (i150:Int) (i151:Int) (i152:Int) (i153:Int) (c:List Int) (d:List Jc):Option gf :=
 (i64 (i87+1)).bind fun i181 =>
 a i181 b i150 i151 i152 i153 c d
def Iq (fu:Nat) (p_1:ih) (b:Kb):Nat→Int→(List (List (List UInt8×Int)))→Int→Int→Int→Int→(List Int)→(List Jc)→Option gf
 | 0,_,_,_,_,_,_,_,_=>none
 | n+1,i87,c,i92,i93,i94,i95,d,e =>
 if i87<(b.Params.length:Int) then
   (at_ b.Params i87).bind fun f =>
   (zo p_1 f.ue).bind fun g =>
   (Ut p_1 i92 i93 d i94 i95 e c f.Name g).bind fun a =>
   nw i87 (Iq fu p_1 b n) a.2.2.2.2.2.2.2 a.2.1 a.2.2.1 a.2.2.2.2.1 a.2.2.2.2.2.1 a.2.2.2.1 a.2.2.2.2.2.2.1
 else
   Ws fu p_1 b c i92 i93 i94 i95 d e
def ow (fu:Nat) (p_1:ih) (a:Kb) (i53:Int):Option gf :=
 Iq fu p_1 a (a.Params.length+1) 0 [([]:List (List UInt8×Int))] a.Kind (a.Params.length:Int) i53 0 [] []
def px (fu:Nat)  (p_1:ih) (a:Kb):Option gf :=
 if a.Kind≠4 then
 (zo p_1 a.ue).bind fun b =>
 ow fu p_1 a b
 else
 Ws fu p_1 a [([]:List (List UInt8×Int))] a.Kind 0 0 0 [] []
def Hv (i162:Int) (a:List (List UInt8×Int)) (b:List (List UInt8×Kb)) (c:Kb) (d:Kb) (e:List (List UInt8×Int)) (f:Int→(List (List UInt8×Int))→(List (List UInt8×Int))→(List (List UInt8×Kb))→(List Vj)→Option (Xc×yf)) (g:List Vj):Option (Xc×yf):=
 (i64 (i162+1)).bind fun h =>
 f h e a (ye b c.Name d) g
def Iv (p_1:List Kb) (i162:Int) (a:List (List UInt8×Int)) (b:List (List UInt8×Kb)) (f:List Vj) (c:Kb) (d:Kb) (g:Int→(List (List UInt8×Int))→(List (List UInt8×Int))→(List (List UInt8×Kb))→(List Vj)→Option (Xc×yf)) (e:List (List UInt8×Int)):Option (Xc×yf):=
 (at_ p_1 i162).bind fun h =>
 (at_ p_1 i162).bind fun i =>
 (ox e a (ye b c.Name d) h.ue).bind fun r417 =>
 (app f [(Vj.mk r417 i.eh)]).bind fun j =>
 Hv i162 a b c d e g j
def Jv (i162:Int) (a:List (List UInt8×Int)) (b:List (List UInt8×Kb)) (c:List Vj) (d:Kb) (e:Kb) (f:Int→(List (List UInt8×Int))→(List (List UInt8×Int))→(List (List UInt8×Kb))→(List Vj)→Option (Xc×yf)) (g:List (List UInt8×Int)):Option (Xc×yf):=
 (i64 (i162+1)).bind fun h =>
 f h a g (ye b d.Name e) c
def wq (fu:Nat) (p_1:List Kb) (b:List (List UInt8×Int)) (c:List (List UInt8×Int)) (d:List (List UInt8×Kb)) (e:List Vj):Nat→Int→(List gf)→Option (Xc×yf)
 | 0,_,_=>none
 | n+1,a,f =>
 if a<(p_1.length:Int) then
   (at_ p_1 a).bind fun h =>
   if h.Kind=1 then
  (i64 (a+1)).bind fun i =>
  wq fu p_1 b c d e n i f
   else
  (at_ p_1 a).bind fun j =>
  (px fu (ih.mk b c d) j).bind fun g =>
  if (200:Int)<(g.pd.length:Int) then
     none
  else
     if (4000:Int)<(g.Code.length:Int) then
   none
     else
   (app f [g]).bind fun k =>
   (i64 (a+1)).bind fun l =>
   wq fu p_1 b c d e n l k
 else
   some ((Xc.mk e f),(yf.mk 0 0))
def Vm (fu:Nat) (p_1:List Kb):Nat→Int→(List (List UInt8×Int))→(List (List UInt8×Int))→(List (List UInt8×Kb))→(List Vj)→Option (Xc×yf)
 | 0,_,_,_,_,_=>none
 | n+1,i162,a,b,c,d =>
 if i162<(p_1.length:Int) then
   (at_ p_1 i162).bind fun e =>
   (at_ p_1 i162).bind fun f =>
   (at_ p_1 i162).bind fun g =>
   if g.Kind=1 then
  (at_ p_1 i162).bind fun h =>
  Iv p_1 i162 b c d e f (Vm fu p_1 n) (ye a h.Name (a.length:Int))
   else
  (at_ p_1 i162).bind fun i =>
  Jv i162 a c d e f (Vm fu p_1 n) (ye b i.Name (b.length:Int))
 else
   wq fu p_1 a b c d (p_1.length+1) 0 []
def pw (fu:Nat)  (p_1:List Kb):Option (Xc×yf):=
 (Cw fu p_1).bind fun a =>
 if a.Th≠0 then
 none
 else
 Vm fu p_1 (p_1.length+1) 0 ([]:List (List UInt8×Int)) ([]:List (List UInt8×Int)) ([]:List (List UInt8×Kb)) []
end Go.Y
namespace Go.Y
open Go.vc Go.hd
def kn  (p_1:Int):Option Bool :=
 if p_1=1 then
 some true
 else
 some (decide (p_1=2))
def Du  (p_1:Ee) (a:Int) (c:Int):Option Bool :=
 if (0:Int)≤a then
 (p_1.m).bind fun b =>
 if a<(b.Jd.length:Int) then
   (at_ b.Jd a).bind fun d =>
   some (decide (d.Kind=c))
 else
   none
 else
 none
def Vt  (p_1:Ee) (a:Int):Option Bool :=
 if (10:Int)≤a then
 (i64 (a - 10)).bind fun i7 =>
 (Du p_1 i7 3).bind fun b =>
 some b
 else
 none
def Ym  (Eh:Bool):Option Int :=
 if Eh=true then
 some 0
 else
 none
def Xs (p_1:Ee) (b:gf) (a:Jc) (af:Bool):Option Int :=
 if af=true then
 if (0:Int)≤a.A then
   Ym (decide (a.A<(b.Code.length:Int)))
 else
   none
 else
 if a.Op=23 then
   none
 else
   if a.Op=29 then
  (Du p_1 a.A 3).bind fun c =>
  Ym c
   else
  if a.Op=26 then
     none
  else
     if a.Op=27 then
   if (0:Int)≤a.A then
       (p_1.m).bind fun d =>
       Ym (decide (a.A<(d.Qe.length:Int)))
   else
       none
     else
   if a.Op<1 then
       none
   else
       if (32:Int)<a.Op then
    none
       else
    Ym true
def Ys (p_1:Ee) (b:gf) (a:Jc) (Af:Bool):Option Int :=
 if Af=true then
 if (0:Int)≤a.A then
   Ym (decide (a.A<(b.pd.length:Int)))
 else
   none
 else
 if a.Op=21 then
   Xs p_1 b a (decide (a.Op=21))
 else
   Xs p_1 b a (decide (a.Op=22))
def qx  (p_1:Ee) (b:gf) (a:Jc):Option Int :=
 if a.Op=2 then
 if a.A=0 then
   none
 else
   Ym (decide (a.A=1))
 else
 if a.Op=3 then
   Ys p_1 b a (decide (a.Op=3))
 else
   Ys p_1 b a (decide (a.Op=4))
def Wt (p_1:List Int) (a:Int→Option Bool):Nat→Int→Option Int
 | 0,_=>none
 | n+1,i20 =>
 if i20<(p_1.length:Int) then
   (at_ p_1 i20).bind fun b =>
   (a b).bind fun c =>
   if c=true then
  some i20
   else
  (i64 (i20+1)).bind fun i49 =>
  Wt p_1 a n i49
 else
   some (-1)
def fy  (p_1:List Int) (a:Int→Option Bool):Option Int :=
 Wt p_1 a (p_1.length+1) 0
def Tu  (p_1:List Int) (a:Int→Option Bool):Option Bool :=
 (fy p_1 a).bind fun b =>
 some (decide ((0:Int)≤b))
def Xt (p_1:List Jc) (a:Jc→Option Bool):Nat→Int→Option Int
 | 0,_=>none
 | n+1,i20 =>
 if i20<(p_1.length:Int) then
   (at_ p_1 i20).bind fun b =>
   (a b).bind fun c =>
   if c=true then
  some i20
   else
  (i64 (i20+1)).bind fun i49 =>
  Xt p_1 a n i49
 else
   some (-1)
def gy  (p_1:List Jc) (a:Jc→Option Bool):Option Int :=
 Xt p_1 a (p_1.length+1) 0
def hy  (p_1:List Jc) (a:Jc→Option Bool):Option Bool :=
 (gy p_1 a).bind fun b =>
 some (decide ((0:Int)≤b))
def sx  (p_1:Int) (a:Option Ee):Option Bool :=
 (kn p_1).bind fun b =>
 if b=true then
 some false
 else
 (a).bind fun c =>
 (Vt c p_1).bind fun d =>
 some (!d)
def tp (p_1:Ee) (a:gf) (b:Bool):Option Int :=
 if b=true then
 none
 else
 (Tu a.pd (fun c=>sx c (some p_1))).bind fun d =>
 if d=true then
   none
 else
   some 0
def tt (p_1:Ee) (a:gf) (b:Bool):Option Int :=
 if b=true then
 none
 else
 if (a.Code.length:Int)<1 then
   none
 else
   if (4000:Int)<(a.Code.length:Int) then
  none
   else
  if a.Kind≠4 then
     (kn a.Result).bind fun c =>
     if c=true then
   if a.Kind=3 then
       (kn a.ae).bind fun d =>
       tp p_1 a (!d)
   else
       tp p_1 a false
     else
   none
  else
     if a.Kind=3 then
   (kn a.ae).bind fun e =>
   tp p_1 a (!e)
     else
   tp p_1 a false
def vt (p_1:Ee) (a:gf) (Eh:Bool):Option Int :=
 if Eh=true then
 none
 else
 if (200:Int)<(a.pd.length:Int) then
   none
 else
   if a.Params<0 then
  none
   else
  if (6:Int)<a.Params then
     none
  else
     if (a.pd.length:Int)<a.Params then
   none
     else
   if a.Kind=4 then
       tt p_1 a (decide ((0:Int)<a.Params))
   else
       tt p_1 a false
def Ix  (p_1:Ee) (a:gf):Option Int :=
 if a.Kind≠2 then
 if a.Kind≠3 then
   vt p_1 a (decide (a.Kind≠4))
 else
   vt p_1 a false
 else
 none
def xt (p_1:Ee) (i144:Int) (i145:Int) (a:gf) (b:Int→Int→Option Qh):Nat→Int→Option Qh
 | 0,_=>none
 | n+1,i249 =>
 if i249<(a.Code.length:Int) then
   (at_ a.Code i249).bind fun c =>
   (qx p_1 a c).bind fun d =>
   if d≠0 then
  none
   else
  (i64 (i249+1)).bind fun i281 =>
  xt p_1 i144 i145 a b n i281
 else
   if a.Kind=4 then
  (i64 (i144+1)).bind fun i284 =>
  (i64 (i145+1)).bind fun i286 =>
  b i284 i286
   else
  (i64 (i145+1)).bind fun i288 =>
  b i144 i288
def Pq (p_1:Ee) (a:Xc):Nat→Int→Int→Option Qh
 | 0,_,_=>none
 | n+1,i144,i145 =>
 if i145<(a.Jd.length:Int) then
   (at_ a.Jd i145).bind fun b =>
   (Ix p_1 b).bind fun c =>
   if c≠0 then
  none
   else
  xt p_1 i144 i145 b (Pq p_1 a n) (b.Code.length+1) 0
 else
   if i144=0 then
  none
   else
  some (Qh.mk 0 0 0)
def yt (p_1:Ee) (a:Xc):Nat→Int→Option Qh
 | 0,_=>none
 | n+1,i39 =>
 if i39<(a.Qe.length:Int) then
   (at_ a.Qe i39).bind fun b =>
   (kn b.ue).bind fun c =>
   if c=true then
  if b.eh<1 then
     none
  else
     if (20:Int)<b.eh then
   none
     else
   (i64 (i39+1)).bind fun i74 =>
   yt p_1 a n i74
   else
  none
 else
   Pq p_1 a (a.Jd.length+1) 0 0
def Jx  (p_1:Ee):Option Qh :=
 (p_1.m).bind fun a =>
 if (30:Int)<(a.Qe.length:Int) then
 none
 else
 if (30:Int)<(a.Jd.length:Int) then
   none
 else
   yt p_1 a (a.Qe.length+1) 0
end Go.Y
namespace Go.Y
open Go.vc Go.hd
def Xv  (a:List Int) (b:List Bool):Option Dd :=
 some (Dd.mk a b)
def Rw  (p_1:Dd):Option Dd :=
 (small p_1.stack).bind fun a =>
 (small p_1.has).bind fun b =>
 Xv p_1.stack p_1.has
def Mv  (a:List Int) (b:List Bool):Option Dd :=
 some (Dd.mk a b)
def Dw  (p_1:Dd):Option Dd :=
 (small p_1.stack).bind fun a =>
 (small p_1.has).bind fun b =>
 Mv p_1.stack p_1.has
def qw (p_1:List Int):Nat→Option Bool
 | 0=>none
 | n+1 =>
 if (0:Int)<(p_1.length:Int) then
   none
 else
   some true
def tx  (p_1:List Int) (a:List Int):Option Bool :=
 if (p_1.length:Int)≠(a.length:Int) then
 none
 else
 qw p_1 (p_1.length+1)
def qk  (h:Ee) (i:gf) (b:List (Int×Dd)) (c:List Int) (d:List Int) (e:List Bool) (f:Int) (g:Int):Option (List (Int×Dd)×List Int×List Int×List Bool×Int):=
 (app d [g]).bind fun a =>
 if (300:Int)<(a.length:Int) then
 none
 else
 some (b,c,a,e,f)
def Co  (h:Ee) (i:gf) (b:List (Int×Dd)) (c:List Int) (a:List Int) (d:List Bool) (e:Int):Option (Int×List (Int×Dd)×List Int×List Int×List Bool×Int):=
 if (a.length:Int)=0 then
 none
 else
 (i64 ((a.length:Int) - 1)).bind fun i49 =>
 (at_ a i49).bind fun f =>
 (i64 ((a.length:Int) - 1)).bind fun i65 =>
 (cut a 0 i65).bind fun g =>
 some (f,b,c,g,d,e)
def zt (b:Ee) (c:List Int) (d:gf):Nat→Int→Int→(List (Int×Dd))→(List Int)→(List Int)→(List Bool)→Option (List (Int×Dd)×List Int×List Int×List Bool×Int)
 | 0,_,_,_,_,_,_=>none
 | n+1,i78,i79,e,f,g,h =>
 if (0:Int)≤i78 then
   (Co b d e f g h i79).bind fun a =>
   (at_ c i78).bind fun i =>
   if a.1≠i then
  none
   else
  (i64 (i78 - 1)).bind fun i151 =>
  zt b c d n i151 a.2.2.2.2.2 a.2.1 a.2.2.1 a.2.2.2.1 a.2.2.2.2.1
 else
   some (e,f,g,h,i79)
def Bm (fu:Nat)  (b:Ee) (c:gf) (d:List (Int×Dd)) (e:List Int) (f:List Int) (g:List Bool) (h:Int) (a:List Int):Option (List (Int×Dd)×List Int×List Int×List Bool×Int):=
 (i64 ((a.length:Int) - 1)).bind fun i51 =>
 zt b a c fu i51 h d e f g
def ux (a:Int) (b:List Int) (c:List Int) (d:List Bool) (e:Int) (f:List (Int×Dd)):Option (List (Int×Dd)×List Int×List Int×List Bool×Int):=
 (app b [a]).bind fun g =>
 some (f,g,c,d,e)
def ru (i128:Int) (a:Int→Option (List (Int×Dd)×List Int×List Int×List Bool×Int)) (b:Bool):Option (List (Int×Dd)×List Int×List Int×List Bool×Int):=
 if b=true then
 none
 else
 (i64 (i128+1)).bind fun i183 =>
 a i183
def Lp (b:Int) (a:List (Int×Dd)) (d:List Int) (e:List Int) (c:List Bool) (f:Int):Nat→Int→Option (List (Int×Dd)×List Int×List Int×List Bool×Int)
 | 0,_=>none
 | n+1,i128 =>
 if i128<((((pf a b).getD (Dd.mk ([]:List Int) ([]:List Bool))).has).length:Int) then
   (at_ (((pf a b).getD (Dd.mk ([]:List Int) ([]:List Bool))).has) i128).bind fun g =>
   if g=true then
  (at_ c i128).bind fun h =>
  ru i128 (Lp b a d e c f n) (!h)
   else
  ru i128 (Lp b a d e c f n) false
 else
   some (a,d,e,c,f)
def lq  (j:Ee) (g:gf) (b:List (Int×Dd)) (f:List Int) (c:List Int) (d:List Bool) (e:Int) (a:Int):Option (List (Int×Dd)×List Int×List Int×List Bool×Int):=
 if e≠0 then
 none
 else
 if a=(g.Code.length:Int) then
   none
 else
   if (pf b a).isSome=true then
  (tx (((pf b a).getD (Dd.mk ([]:List Int) ([]:List Bool))).stack) c).bind fun h =>
  if h=true then
     Lp a b f c d e ((((pf b a).getD (Dd.mk ([]:List Int) ([]:List Bool))).has).length+1) 0
  else
     none
   else
  (Dw (Dd.mk c d)).bind fun i =>
  ux a f c d e (ye b a i)
def Kx (fu:Nat)  (c:Ee) (d:gf) (e:List (Int×Dd)) (f:List Int) (g:List Int) (h:List Bool) (i:Int) (j:Int):Option (gf×List (Int×Dd)×List Int×List Int×List Bool×Int):=
 (c.m).bind fun k =>
 (at_ k.Jd j).bind fun b =>
 (cut b.pd 0 b.Params).bind fun l =>
 (Bm fu c d e f g h i l).bind fun a =>
 some (b,a.1,a.2.1,a.2.2.1,a.2.2.2.1,a.2.2.2.2)
def Uu  (b:Ee) (c:gf) (d:List (Int×Dd)) (e:List Int) (f:List Int) (g:List Bool) (h:Int):Option (gf×List (Int×Dd)×List Int×List Int×List Bool×Int):=
 (Co b c d e f g h).bind fun a =>
 if a.2.2.2.2.2≠0 then
 none
 else
 (Vt b a.1).bind fun i =>
 if i=true then
   (b.m).bind fun j =>
   (i64 (a.1 - 10)).bind fun i90 =>
   (at_ j.Jd i90).bind fun k =>
   some (k,a.2.1,a.2.2.1,a.2.2.2.1,a.2.2.2.2.1,a.2.2.2.2.2)
 else
   none
def Lx  (f:Ee) (g:gf) (b:List (Int×Dd)) (c:List Int) (a:List Int) (d:List Bool) (e:Int):Option (Bool×List (Int×Dd)×List Int×List Int×List Bool×Int):=
 if (0:Int)<(a.length:Int) then
 none
 else
 some (false,b,c,a,d,e)
def Wm  (i50:Int) (a:List (Int×Dd)) (b:List Int) (c:List Int) (d:List Bool):Option (Bool×List (Int×Dd)×List Int×List Int×List Bool×Int):=
 some (true,a,b,c,d,i50)
def Ew (fu:Nat)  (b:Ee) (a:gf) (d:List (Int×Dd)) (e:List Int) (f:List Int) (g:List Bool) (h:Int) (c:Jc):Option (Bool×List (Int×Dd)×List Int×List Int×List Bool×Int):=
 if c.Op=23 then
 none
 else
 if c.Op=29 then
   (Kx fu b a d e f g h c.A).bind fun n =>
   (i64 (10+c.A)).bind fun i93 =>
   (qk b a n.2.1 n.2.2.1 n.2.2.2.1 n.2.2.2.2.1 n.2.2.2.2.2 i93).bind fun o =>
   Wm o.2.2.2.2 o.1 o.2.1 o.2.2.1 o.2.2.2.1
 else
   if c.Op=24 then
  none
   else
  if c.Op=25 then
     if a.Kind=2 then
   none
     else
   (Lx b a d e f g h).bind fun k =>
   some (k.1,k.2.1,k.2.2.1,k.2.2.2.1,k.2.2.2.2.1,k.2.2.2.2.2)
  else
     if c.Op=26 then
   none
     else
   if c.Op=27 then
       (b.m).bind fun v =>
       (at_ v.Qe c.A).bind fun w =>
       (qk b a d e f g h w.ue).bind fun p =>
       Wm p.2.2.2.2 p.1 p.2.1 p.2.2.1 p.2.2.2.1
   else
       if c.Op=28 then
    (Co b a d e f g h).bind fun i =>
    if i.2.2.2.2.2=0 then
         (kn i.1).bind fun x =>
         if x=true then
     Wm i.2.2.2.2.2 i.2.1 i.2.2.1 i.2.2.2.1 i.2.2.2.2.1
         else
     none
    else
         none
       else
    if c.Op=30 then
         (Co b a d e f g h).bind fun l =>
         (Uu b a l.2.1 l.2.2.1 l.2.2.2.1 l.2.2.2.2.1 l.2.2.2.2.2).bind fun j =>
         if l.1≠j.1.ae then
     none
         else
     (qk b a j.2.1 j.2.2.1 j.2.2.2.1 j.2.2.2.2.1 j.2.2.2.2.2 j.1.Result).bind fun q =>
     Wm q.2.2.2.2 q.1 q.2.1 q.2.2.1 q.2.2.2.1
    else
         if c.Op=31 then
     if a.Kind≠3 then
           none
     else
           (Bm fu b a d e f g h [a.Result]).bind fun r =>
           (qk b a r.1 r.2.1 r.2.2.1 r.2.2.2.1 r.2.2.2.2 a.ae).bind fun s =>
           Wm s.2.2.2.2 s.1 s.2.1 s.2.2.1 s.2.2.2.1
         else
     if c.Op=32 then
           (Uu b a d e f g h).bind fun t =>
           (qk b a t.2.1 t.2.2.1 t.2.2.2.1 t.2.2.2.2.1 t.2.2.2.2.2 2).bind fun u =>
           Wm u.2.2.2.2 u.1 u.2.1 u.2.2.1 u.2.2.2.1
     else
           none
def Zk  (i50:Int) (a:List (Int×Dd)) (b:List Int) (c:List Int) (d:List Bool):Option (Bool×List (Int×Dd)×List Int×List Int×List Bool×Int):=
 some (true,a,b,c,d,i50)
def Mx (fu:Nat)  (c:Ee) (b:gf) (e:List (Int×Dd)) (f:List Int) (g:List Int) (d:List Bool) (h:Int) (a:Jc):Option (Bool×List (Int×Dd)×List Int×List Int×List Bool×Int):=
 if a.Op=1 then
 (qk c b e f g d h 1).bind fun k =>
 Zk k.2.2.2.2 k.1 k.2.1 k.2.2.1 k.2.2.2.1
 else
 if a.Op=2 then
   (qk c b e f g d h 2).bind fun l =>
   Zk l.2.2.2.2 l.1 l.2.1 l.2.2.1 l.2.2.2.1
 else
   if a.Op=3 then
  (at_ d a.A).bind fun x =>
  if x=true then
     (at_ b.pd a.A).bind fun y =>
     (qk c b e f g d h y).bind fun m =>
     Zk m.2.2.2.2 m.1 m.2.1 m.2.2.1 m.2.2.2.1
  else
     none
   else
  if a.Op=4 then
     (at_ b.pd a.A).bind fun z =>
     (Bm fu c b e f g d h [z]).bind fun i =>
     (at_ i.2.2.2.1 a.A).bind fun B =>
     Zk i.2.2.2.2 i.1 i.2.1 i.2.2.1 (i.2.2.2.1.set a.A.toNat true)
  else
     if a.Op=5 then
   (Co c b e f g d h).bind fun n =>
   Zk n.2.2.2.2.2 n.2.1 n.2.2.1 n.2.2.2.1 n.2.2.2.2.1
     else
   if a.Op=6 then
       (Bm fu c b e f g d h [1]).bind fun o =>
       (qk c b o.1 o.2.1 o.2.2.1 o.2.2.2.1 o.2.2.2.2 1).bind fun p =>
       Zk p.2.2.2.2 p.1 p.2.1 p.2.2.1 p.2.2.2.1
   else
       if a.Op=7 then
    none
       else
    if (8:Int)≤a.Op then
         if a.Op≤12 then
     (Bm fu c b e f g d h [1,1]).bind fun q =>
     (qk c b q.1 q.2.1 q.2.2.1 q.2.2.2.1 q.2.2.2.2 1).bind fun r =>
     Zk r.2.2.2.2 r.1 r.2.1 r.2.2.1 r.2.2.2.1
         else
     if a.Op=13 then
           none
     else
           if a.Op=14 then
      none
           else
      if (15:Int)≤a.Op then
             if a.Op≤18 then
       (Bm fu c b e f g d h [1,1]).bind fun s =>
       (qk c b s.1 s.2.1 s.2.2.1 s.2.2.2.1 s.2.2.2.2 2).bind fun t =>
       Zk t.2.2.2.2 t.1 t.2.1 t.2.2.1 t.2.2.2.1
             else
       if a.Op=19 then
               none
       else
               if a.Op=20 then
        none
               else
        if a.Op=21 then
                 (lq c b e f g d h a.A).bind fun u =>
                 some (false,u.1,u.2.1,u.2.2.1,u.2.2.2.1,u.2.2.2.2)
        else
                 if a.Op=22 then
         (Bm fu c b e f g d h [2]).bind fun v =>
         (lq c b v.1 v.2.1 v.2.2.1 v.2.2.2.1 v.2.2.2.2 a.A).bind fun w =>
         Zk w.2.2.2.2 w.1 w.2.1 w.2.2.1 w.2.2.2.1
                 else
         (Ew fu c b e f g d h a).bind fun j =>
         some (j.1,j.2.1,j.2.2.1,j.2.2.2.1,j.2.2.2.2.1,j.2.2.2.2.2)
      else
             none
    else
         none
def At (b:(List (Int×Dd))→Int→(List Bool)→(List Int)→(List Int)→Option Qh) (c:List (Int×Dd)) (a:Int) (d:List Bool) (e:List Int) (f:List Int):Option Qh :=
 if a≠0 then
 none
 else
 b c a d e f
def vp (fu:Nat) (p_1:Ee) (b:gf):Nat→(List (Int×Dd))→Int→(List Bool)→(List Int)→(List Int)→Option Qh
 | 0,_,_,_,_,_=>none
 | n+1,f,i222,k,d,l =>
 if (0:Int)<(d.length:Int) then
   (at_ d 0).bind fun e =>
   (cut d 1 d.length).bind fun h =>
   (Rw ((pf f e).getD (Dd.mk ([]:List Int) ([]:List Bool)))).bind fun g =>
   (at_ b.Code e).bind fun i =>
   (Mx fu p_1 b f h g.stack g.has i222 i).bind fun a =>
   if a.1=true then
  (i64 (e+1)).bind fun j =>
  (lq p_1 b a.2.1 a.2.2.1 a.2.2.2.1 a.2.2.2.2.1 a.2.2.2.2.2 j).bind fun c =>
  At (vp fu p_1 b n) c.1 c.2.2.2.2 c.2.2.2.1 c.2.1 c.2.2.1
   else
  At (vp fu p_1 b n) a.2.1 a.2.2.2.2.2 a.2.2.2.2.1 a.2.2.1 a.2.2.2.1
 else
   some (Qh.mk 0 0 0)
def Bt (fu:Nat) (p_1:Ee) (b:gf):Nat→Int→(List Bool)→Option Qh
 | 0,_,_=>none
 | n+1,i60,c =>
 if i60<b.Params then
   (at_ c i60).bind fun d =>
   (i64 (i60+1)).bind fun i100 =>
   Bt fu p_1 b n i100 (c.set i60.toNat true)
 else
   (lq p_1 b ([]:List (Int×Dd)) ([]:List Int) ([]:List Int) c 0 0).bind fun a =>
   vp fu p_1 b fu a.1 a.2.2.2.2 a.2.2.2.1 a.2.1 a.2.2.1
def Nx (fu:Nat)  (p_1:Ee) (b:Int):Option Qh :=
 (p_1.m).bind fun c =>
 (at_ c.Jd b).bind fun a =>
 (Rk (a.pd.length:Int)).bind fun d =>
 Bt fu p_1 a ((a.Params - 0).toNat+1) 0 (List.replicate d (false:Bool))
def Zs (a:Int) (b:List Int) (d:Jc) (c:Int→(List Int)→Option (List Int)) (e:Bool):Option (List Int):=
 if e=true then
 (app b [d.A]).bind fun f =>
 (i64 (a+1)).bind fun g =>
 c g f
 else
 (i64 (a+1)).bind fun h =>
 c h b
def kp (i141:Int) (b:gf) (e:Int→(List Int)→Option (List Int)):Nat→Int→(List Int)→Option (List Int)
 | 0,_,_=>none
 | n+1,c,d =>
 if c<(b.Code.length:Int) then
   (at_ b.Code c).bind fun a =>
   if a.Op=23 then
  none
   else
  if a.Op=29 then
     Zs c d a (kp i141 b e n) (!(d.contains a.A))
  else
     Zs c d a (kp i141 b e n) false
 else
   (i64 (i141+1)).bind fun f =>
   e f d
def lp (p_1:Ee):Nat→Int→(List Int)→Option (List Int)
 | 0,_,_=>none
 | n+1,i141,a =>
 if i141<(a.length:Int) then
   (at_ a i141).bind fun c =>
   (p_1.m).bind fun d =>
   (at_ d.Jd c).bind fun b =>
   kp i141 b (lp p_1 n) (b.Code.length+1) 0 a
 else
   some a
def vx (fu:Nat)  (p_1:Ee) (a:Int):Option (List Int):=
 lp p_1 fu 0 ([a]:List Int)
def Fw  (p_1:Jc) (a:Int) (b:Int):Option Bool :=
 if p_1.Op=a then
 some (decide (p_1.A=b))
 else
 some false
def Sw  (p_1:Int) (a:Option Ee) (b:Int) (c:Int):Option Bool :=
 (a).bind fun d =>
 (d.m).bind fun e =>
 (at_ e.Jd p_1).bind fun f =>
 (hy f.Code (fun g=>Fw g b c)).bind fun h =>
 some h
def bt (a:Int) (b:Int) (c:Int→Int→Option Qh) (d:Bool):Option Qh :=
 if d=true then
 (i64 (a+1)).bind fun e =>
 (i64 (b+1)).bind fun f =>
 c e f
 else
 (i64 (b+1)).bind fun g =>
 c a g
def np (fu:Nat) (p_1:Ee) (b:Xc) (c:Int) (d:Int) (e:Int) (f:Int→Option Qh):Nat→Int→Int→Option Qh
 | 0,_,_=>none
 | n+1,g,a =>
 if a<(b.Jd.length:Int) then
   (at_ b.Jd a).bind fun h =>
   if h.Kind=4 then
  (vx fu p_1 a).bind fun i =>
  (Tu i (fun j=>Sw j (some p_1) e c)).bind fun k =>
  bt g a (np fu p_1 b c d e f n) k
   else
  bt g a (np fu p_1 b c d e f n) false
 else
   if (1:Int)<g then
  none
   else
  (i64 (d+1)).bind fun l =>
  f l
def qp (fu:Nat) (p_1:Ee) (a:Xc) (b:Int) (d:Int→Option Qh):Nat→Int→Option Qh
 | 0,_=>none
 | n+1,c =>
 if c<2 then
   (at_ [26,27] c).bind fun e =>
   np fu p_1 a b c e (qp fu p_1 a b d n) (a.Jd.length+1) 0 0
 else
   (i64 (b+1)).bind fun f =>
   d f
def ho (fu:Nat) (p_1:Ee) (a:Xc):Nat→Int→Option Qh
 | 0,_=>none
 | n+1,b =>
 if b<(a.Qe.length:Int) then
   qp fu p_1 a b (ho fu p_1 a n) 3 0
 else
   some (Qh.mk 0 0 0)
def wx (fu:Nat)  (p_1:Ee):Option Qh :=
 (p_1.m).bind fun a =>
 ho fu p_1 a (a.Qe.length+1) 0
def Es (fu:Nat) (p_1:Xc):Nat→Int→Option Qh
 | 0,_=>none
 | n+1,i30 =>
 if i30<(p_1.Jd.length:Int) then
   (Nx fu (Ee.mk (some p_1)) i30).bind fun a =>
   if a.Th≠0 then
  none
   else
  (i64 (i30+1)).bind fun i46 =>
  Es fu p_1 n i46
 else
   (wx fu (Ee.mk (some p_1))).bind fun b =>
   some b
def Yt (fu:Nat)  (p_1:Xc):Option Qh :=
 (Jx (Ee.mk (some p_1))).bind fun a =>
 if a.Th≠0 then
 none
 else
 Es fu p_1 (p_1.Jd.length+1) 0
end Go.Y
namespace Go.Y
open Go.vc Go.hd
def Vu  (p_1:Int) (a:Int):Option (List Int×Int×Int×Int):=
 (Rk p_1).bind fun b =>
 some ((List.replicate b (0:Int)),0,p_1,a)
def Ml  (a:Int):Option Int :=
 some a
def Mp  (b:List Int) (a:Int) (c:Int) (d:Int) (e:Int):Option (List Int×Int×Int×Int):=
 (Rk e).bind fun f =>
 (cut b 0 a).bind fun g =>
 some ((So (List.replicate f (0:Int)) g),a,c,d)
def xp (b:Int) (i14:Int) (i15:Int) (i16:Int) (a:List Int):Option (Bool×List Int×Int×Int×Int):=
 (at_ a i14).bind fun c =>
 (i64 (i14+1)).bind fun i56 =>
 some (true,(a.set i14.toNat b),i56,i15,i16)
def Gw (a:Int) (i22:Int) (i23:Int) (i24:Int) (b:List Int):Option (Bool×List Int×Int×Int×Int):=
 xp a i22 i23 i24 b
def Ct (a:List Int) (e:Int) (c:Int) (f:Int) (d:Int):Option (Bool×List Int×Int×Int×Int):=
 if c=(a.length:Int) then
 (i64 (2*(a.length:Int))).bind fun i29 =>
 (Mp a c f d (min i29 d)).bind fun b =>
 Gw e b.2.1 b.2.2.1 b.2.2.2 b.1
 else
 xp e c f d a
def Up  (c:List Int) (a:Int) (d:Int) (b:Int) (e:Int):Option (Bool×List Int×Int×Int×Int):=
 if a=b then
 none
 else
 Ct c e a d b
def Tw  (i20:Int) (i21:Int) (i22:Int) (a:List Int):Option (List Int×Int×Int×Int):=
 some (a,i20,i21,i22)
def Dp (b:List Int) (c:Int) (d:Int) (i12:Int) (e:Bool):Option (List Int×Int×Int×Int):=
 if e=true then
 (quo (b.length:Int) 2).bind fun i27 =>
 (Mp b i12 c d (max i27 c)).bind fun a =>
 Tw a.2.1 a.2.2.1 a.2.2.2 a.1
 else
 some (b,i12,c,d)
def Eo  (a:List Int) (d:Int) (b:Int) (c:Int) (e:Int):Option (List Int×Int×Int×Int):=
 (i64 (d - e)).bind fun i12 =>
 (quo (a.length:Int) 4).bind fun i15 =>
 if i12≤i15 then
 Dp a b c i12 (decide (b<(a.length:Int)))
 else
 Dp a b c i12 false
def rn  (a:Int) (b:Int) (c:Int):Option Unit :=
 some ()
def cl  (p_1:Bool):Option Int :=
 if p_1=true then
 some 1
 else
 some 0
def en (p_1:Int) (a:Int) (b:Int) (xf:Bool):Option Int :=
 if xf=true then
 (cl (decide (p_1=11))).bind fun c =>
 some (Cg (c*a))
 else
 if p_1=11 then
   (quo a b).bind fun i16 =>
   some i16
 else
   (ov a b).bind fun i18 =>
   some i18
def so (p_1:Int) (a:Int) (b:Int) (ef:Bool):Option Int :=
 if ef=true then
 if a=(-9223372036854775808) then
   en p_1 a b (decide (b=(-1)))
 else
   en p_1 a b false
 else
 if p_1=13 then
   (cl (decide (a=b))).bind fun c =>
   some c
 else
   if p_1=14 then
  (cl (decide (a≠b))).bind fun d =>
  some d
   else
  if p_1=15 then
     (cl (decide (a<b))).bind fun e =>
     some e
  else
     if p_1=16 then
   (cl (decide (a≤b))).bind fun f =>
   some f
     else
   if p_1=17 then
       (cl (decide (b<a))).bind fun g =>
       some g
   else
       none
def rr  (p_1:Int) (a:Int) (b:Int):Option Int :=
 if p_1=8 then
 some (Cg (a+b))
 else
 if p_1=9 then
   some (Cg (a - b))
 else
   if p_1=10 then
  some (Cg (a*b))
   else
  if p_1=11 then
     so p_1 a b (decide (p_1=11))
  else
     so p_1 a b (decide (p_1=12))
def Jq (p_1:Xc):Nat→Int→(List Int)→Option (List Int)
 | 0,_,_=>none
 | n+1,i43,a =>
 if i43<(p_1.Jd.length:Int) then
   (at_ p_1.Jd i43).bind fun b =>
   if b.Kind=4 then
  (app a [i43]).bind fun c =>
  (i64 (i43+1)).bind fun i104 =>
  Jq p_1 n i104 c
   else
  (i64 (i43+1)).bind fun i106 =>
  Jq p_1 n i106 a
 else
   some a
def su  (p_1:Xc):Option (List Int):=
 Jq p_1 (p_1.Jd.length+1) 0 []
end Go.Y
namespace Go.Y
open Go.vc Go.hd
structure Ic where
 unit:Int
 Vc:Int
 base:Int
 deriving DecidableEq,Inhabited,Repr
instance:Ua Ic where
 sz:=3
 pos:=by decide
 cs μ l x:=l=[.int .i64 x.unit,.int .i64 x.Vc,.int .i64 x.base]
 qh h:=by obtain rfl:=h;rfl
 up le h:=by exact h
 Sg h:=by obtain rfl:=h;rfl
def cr  (a:List (List Int)) (b:List Int) (d:List (List Int)) (c:Int):Option (Bool×List (List Int)×List Int×List (List Int)):=
 (at_ a c).bind fun e =>
 (at_ b c).bind fun f =>
 some (decide (f=(e.length:Int)),a,b,d)
def ir  (c:List (List Int)) (b:List Int) (d:List (List Int)) (a:Int):Option (Int×List (List Int)×List Int×List (List Int)):=
 (at_ b a).bind fun e =>
 (i64 (e+1)).bind fun i37 =>
 (at_ b a).bind fun i =>
 (at_ (b.set a.toNat i37) a).bind fun f =>
 (i64 (f - 1)).bind fun i68 =>
 (at_ c a).bind fun g =>
 (at_ g i68).bind fun h =>
 some (h,c,(b.set a.toNat i37),d)
def ck  (b:Int) (c:Int) (d:Int) (e:List Int) (f:Int) (g:Int) (h:Int) (i:Int):Option (Int×Int×Int×List Int×Int×Int×Int):=
 (Up e f g h i).bind fun a =>
 if a.1=true then
 some (b,c,d,a.2.1,a.2.2.1,a.2.2.2.1,a.2.2.2.2)
 else
 none
def ek  (d:Int) (e:Int) (f:Int) (b:List Int) (c:Int) (g:Int) (h:Int):Option (Int×Int×Int×Int×List Int×Int×Int×Int):=
 (Ml c).bind fun i =>
 (i64 (i - 1)).bind fun i27 =>
 (at_ b i27).bind fun j =>
 (Eo b c g h 1).bind fun a =>
 some (j,d,e,f,a.1,a.2.1,a.2.2.1,a.2.2.2)
def Kq (a:Int) (i33:Int) (i34:Int) (b:List (List Int)) (c:List (List Int)) (d:List Int):Option (Bool×Int×Int×Int×List (List Int)×List Int×List (List Int)):=
 some (decide (i33≠1),i33,i34,a,b,d,c)
def ct (a:Jc) (b:Int) (c:List (List Int)) (d:List (List Int)) (e:List Int):Option (Bool×Int×Int×Int×List (List Int)×List Int×List (List Int)):=
 Kq b 3 a.A c d e
def Lq (e:Jc) (a:Int) (f:Bool) (b:List (List Int)) (c:List (List Int)) (d:List Int):Option (Bool×Int×Int×Int×List (List Int)×List Int×List (List Int)):=
 if f=true then
 ct e a b c d
 else
 Kq a 1 0 b c d
def dr  (g:Int) (h:Int) (c:Int) (d:List (List Int)) (e:List Int) (f:List (List Int)) (a:Jc):Option (Bool×Int×Int×Int×List (List Int)×List Int×List (List Int)):=
 if a.Op=26 then
 none
 else
 if a.Op=27 then
   (cr d e f a.A).bind fun b =>
   Lq a c b.1 b.2.1 b.2.2.2 b.2.2.1
 else
   Lq a c false d f e
def Dt (d:Xc) (e:Int) (f:Int) (g:Int) (h:List (List Int)) (i:List Int) (j:List (List Int)) (b:List Ic) (i53:Int):Option (Int×Int×Int×List (List Int)×List Int×List (List Int)×List Ic):=
 (at_ b i53).bind fun c =>
 (at_ d.Jd c.unit).bind fun k =>
 (at_ k.Code c.Vc).bind fun l =>
 (dr e f g h i j l).bind fun a =>
 some (a.2.1,a.2.2.1,a.2.2.2.1,a.2.2.2.2.1,a.2.2.2.2.2.1,a.2.2.2.2.2.2,b)
def sn  (c:Xc) (b:Int) (d:Int) (e:Int) (f:List (List Int)) (g:List Int) (h:List (List Int)) (a:List Ic):Option (Int×Int×Int×List (List Int)×List Int×List (List Int)×List Ic):=
 if b≤3 then
 (i64 ((a.length:Int) - 1)).bind fun i55 =>
 (at_ a i55).bind fun i =>
 Dt c b d e f g h a i55
 else
 none
def ko (b:List Ic) (i68:Int):Nat→Int→Int→Int→Int→Int→Int→Int→(List Int)→Option (Int×Int×Int×List Ic×List Int×Int×Int×Int)
 | 0,_,_,_,_,_,_,_,_=>none
 | n+1,i78,i79,i80,i81,i82,i83,i84,c =>
 if i78<i68 then
   (ck i79 i80 i81 c i82 i83 i84 0).bind fun a =>
   (i64 (i78+1)).bind fun i106 =>
   ko b i68 n i106 a.1 a.2.1 a.2.2.1 a.2.2.2.2.1 a.2.2.2.2.2.1 a.2.2.2.2.2.2 a.2.2.2.1
 else
   some (i79,i80,i81,b,c,i82,i83,i84)
def Et (c:Int) (d:Int) (e:Int) (f:Int) (a:List Ic) (g:List Int) (h:Int) (i:Int) (j:Int) (b:gf) (i53:Int):Option (Int×Int×Int×List Ic×List Int×Int×Int×Int):=
 if (a.length:Int)=40 then
 none
 else
 (app a [(Ic.mk c 0 i53)]).bind fun k =>
 (i64 ((b.pd.length:Int) - b.Params)).bind fun i68 =>
 ko k i68 ((i68 - 0).toNat+1) 0 d e f h i j g
def jr  (d:Xc) (e:Int) (f:Int) (g:Int) (h:List Ic) (i:List Int) (a:Int) (j:Int) (k:Int) (b:Int):Option (Int×Int×Int×List Ic×List Int×Int×Int×Int):=
 (at_ d.Jd b).bind fun c =>
 (Ml a).bind fun l =>
 (i64 (l - c.Params)).bind fun i57 =>
 Et b e f g h i a j k c i57
def dt (c:Int) (b:Int×Int×Int×Int×List Int×Int×Int×Int) (d:List Ic) (i111:Int) (i112:Int) (i113:Int) (e:List Int):Option (Int×Int×Int×Int×List Ic×List Int×Int×Int×Int):=
 (ck b.2.1 b.2.2.1 b.2.2.2.1 e i111 i112 i113 b.1).bind fun a =>
 some (a.1,a.2.1,a.2.2.1,c,d,a.2.2.2.1,a.2.2.2.2.1,a.2.2.2.2.2.1,a.2.2.2.2.2.2)
def et (c:Int) (a:Int×Int×Int×Int×List Int×Int×Int×Int) (i61:Int) (d:List Ic):Option (Int×Int×Int×Int×List Ic×List Int×Int×Int×Int):=
 (Ml a.2.2.2.2.2.1).bind fun e =>
 (i64 (e - i61)).bind fun i121 =>
 (Eo a.2.2.2.2.1 a.2.2.2.2.2.1 a.2.2.2.2.2.2.1 a.2.2.2.2.2.2.2 i121).bind fun b =>
 dt c a d b.2.1 b.2.2.1 b.2.2.2 b.1
def Mq (b:Int) (a:List Ic) (c:Int×Int×Int×Int×List Int×Int×Int×Int) (i59:Int) (i60:Int) (i61:Int):Option (Int×Int×Int×Int×List Ic×List Int×Int×Int×Int):=
 (i64 ((a.length:Int) - 1)).bind fun i99 =>
 (cut a 0 i99).bind fun d =>
 et b c i61 d
def er  (m:Xc) (e:Int) (f:Int) (g:Int) (h:Int) (b:List Ic) (i:List Int) (j:Int) (k:Int) (l:Int) (c:Jc):Option (Int×Int×Int×Int×List Ic×List Int×Int×Int×Int):=
 if c.Op=23 then
 (jr m e f g b i j k l c.A).bind fun a =>
 some (a.1,a.2.1,a.2.2.1,h,a.2.2.2.1,a.2.2.2.2.1,a.2.2.2.2.2.1,a.2.2.2.2.2.2.1,a.2.2.2.2.2.2.2)
 else
 if c.Op=24 then
   (ek e f g i j k l).bind fun n =>
   (i64 ((b.length:Int) - 1)).bind fun i62 =>
   (at_ b i62).bind fun d =>
   Mq h b n d.unit d.Vc d.base
 else
   if c.Op=25 then
  none
   else
  none
end Go.Y
namespace Go.Y
open Go.vc Go.hd
def dj (b:Xc) (i145:Int) (i146:Int) (i147:Int) (c:List Int) (d:List (List Int)) (e:List (List Int)) (f:List Int) (i164:Int) (g:List Ic) (i169:Int) (i170:Int) (i171:Int) (h:List Int):Option (Bool×Int×Int×Int×List Int×List (List Int)×List Int×List (List Int)×Int×List Ic×List Int×Int×Int×Int):=
 (sn b i145 i146 i147 d f e g).bind fun a =>
 some (true,a.1,a.2.1,a.2.2.1,c,a.2.2.2.1,a.2.2.2.2.1,a.2.2.2.2.2.1,i164,a.2.2.2.2.2.2,h,i169,i170,i171)
def Ft (c:Xc) (d:List Int) (e:Int) (a:Int×Int×Int×List (List Int)×List Int×List (List Int)×List Ic) (i84:Int) (b:Ic) (i142:Int) (i191:Int) (i192:Int) (i193:Int) (i194:Int) (i195:Int) (i196:Int) (f:List Int):Option (Bool×Int×Int×Int×List Int×List (List Int)×List Int×List (List Int)×Int×List Ic×List Int×Int×Int×Int):=
 dj c i191 i192 i193 d a.2.2.2.1 a.2.2.2.2.2.1 a.2.2.2.2.1 e (a.2.2.2.2.2.2.set i84.toNat (Ic.mk b.unit i142 b.base)) i194 i195 i196 f
def Gt (d:Xc) (e:List Int) (f:Int) (b:Int×Int×Int×List (List Int)×List Int×List (List Int)×List Ic) (i84:Int) (c:Ic) (i142:Int) (a:Int×Int×Int×Int×List Int×Int×Int×Int) (g:List Int):Option (Bool×Int×Int×Int×List Int×List (List Int)×List Int×List (List Int)×Int×List Ic×List Int×Int×Int×Int):=
 dj d a.2.1 a.2.2.1 a.2.2.2.1 e b.2.2.2.1 b.2.2.2.2.2.1 b.2.2.2.2.1 f (b.2.2.2.2.2.2.set i84.toNat (Ic.mk c.unit i142 c.base)) a.2.2.2.2.2.1 a.2.2.2.2.2.2.1 a.2.2.2.2.2.2.2 g
def lo (e:Xc) (f:List Int) (g:Int) (c:Int×Int×Int×List (List Int)×List Int×List (List Int)×List Ic) (i84:Int) (d:Ic) (h:Jc) (i142:Int) (i:Int×Int×Int×Int×List Int×Int×Int×Int) (a:Int×Int×Int×Int×List Int×Int×Int×Int) (j:Bool):Option (Bool×Int×Int×Int×List Int×List (List Int)×List Int×List (List Int)×Int×List Ic×List Int×Int×Int×Int):=
 if j=true then
 none
 else
 (rr h.Op a.1 i.1).bind fun k =>
 (ck a.2.1 a.2.2.1 a.2.2.2.1 a.2.2.2.2.1 a.2.2.2.2.2.1 a.2.2.2.2.2.2.1 a.2.2.2.2.2.2.2 k).bind fun b =>
 dj e b.1 b.2.1 b.2.2.1 f c.2.2.2.1 c.2.2.2.2.2.1 c.2.2.2.2.1 g (c.2.2.2.2.2.2.set i84.toNat (Ic.mk d.unit i142 d.base)) b.2.2.2.2.1 b.2.2.2.2.2.1 b.2.2.2.2.2.2 b.2.2.2.1
def Ht (d:Xc) (e:List Int) (f:Int) (h:List Int) (i:Int) (j:Int) (k:Int) (a:Int×Int×Int×List (List Int)×List Int×List (List Int)×List Ic) (i84:Int):Option (Bool×Int×Int×Int×List Int×List (List Int)×List Int×List (List Int)×Int×List Ic×List Int×Int×Int×Int):=
 (at_ a.2.2.2.2.2.2 i84).bind fun b =>
 (at_ d.Jd b.unit).bind fun y =>
 (at_ y.Code b.Vc).bind fun c =>
 (i64 (b.Vc+1)).bind fun i142 =>
 if c.Op=1 then
 (ck a.1 a.2.1 a.2.2.1 h i j k c.N).bind fun p =>
 dj d p.1 p.2.1 p.2.2.1 e a.2.2.2.1 a.2.2.2.2.2.1 a.2.2.2.2.1 f (a.2.2.2.2.2.2.set i84.toNat (Ic.mk b.unit i142 b.base)) p.2.2.2.2.1 p.2.2.2.2.2.1 p.2.2.2.2.2.2 p.2.2.2.1
 else
 if c.Op=2 then
   (ck a.1 a.2.1 a.2.2.1 h i j k c.A).bind fun q =>
   dj d q.1 q.2.1 q.2.2.1 e a.2.2.2.1 a.2.2.2.2.2.1 a.2.2.2.2.1 f (a.2.2.2.2.2.2.set i84.toNat (Ic.mk b.unit i142 b.base)) q.2.2.2.2.1 q.2.2.2.2.2.1 q.2.2.2.2.2.2 q.2.2.2.1
 else
   if c.Op=3 then
  (i64 (b.base+c.A)).bind fun i201 =>
  (at_ h i201).bind fun z =>
  (ck a.1 a.2.1 a.2.2.1 h i j k z).bind fun r =>
  Ft d e f a i84 b i142 r.1 r.2.1 r.2.2.1 r.2.2.2.2.1 r.2.2.2.2.2.1 r.2.2.2.2.2.2 r.2.2.2.1
   else
  if c.Op=4 then
     (ek a.1 a.2.1 a.2.2.1 h i j k).bind fun w =>
     (i64 (b.base+c.A)).bind fun i237 =>
     (at_ w.2.2.2.2.1 i237).bind fun C =>
     Gt d e f a i84 b i142 w (w.2.2.2.2.1.set i237.toNat w.1)
  else
     if c.Op=5 then
   (ek a.1 a.2.1 a.2.2.1 h i j k).bind fun s =>
   dj d s.2.1 s.2.2.1 s.2.2.2.1 e a.2.2.2.1 a.2.2.2.2.2.1 a.2.2.2.2.1 f (a.2.2.2.2.2.2.set i84.toNat (Ic.mk b.unit i142 b.base)) s.2.2.2.2.2.1 s.2.2.2.2.2.2.1 s.2.2.2.2.2.2.2 s.2.2.2.2.1
     else
   if c.Op=6 then
       (ek a.1 a.2.1 a.2.2.1 h i j k).bind fun o =>
       (ck o.2.1 o.2.2.1 o.2.2.2.1 o.2.2.2.2.1 o.2.2.2.2.2.1 o.2.2.2.2.2.2.1 o.2.2.2.2.2.2.2 (Cg (0 - o.1))).bind fun t =>
       dj d t.1 t.2.1 t.2.2.1 e a.2.2.2.1 a.2.2.2.2.2.1 a.2.2.2.2.1 f (a.2.2.2.2.2.2.set i84.toNat (Ic.mk b.unit i142 b.base)) t.2.2.2.2.1 t.2.2.2.2.2.1 t.2.2.2.2.2.2 t.2.2.2.1
   else
       if c.Op=7 then
    none
       else
    if (8:Int)≤c.Op then
         if c.Op≤20 then
     (ek a.1 a.2.1 a.2.2.1 h i j k).bind fun l =>
     (ek l.2.1 l.2.2.1 l.2.2.2.1 l.2.2.2.2.1 l.2.2.2.2.2.1 l.2.2.2.2.2.2.1 l.2.2.2.2.2.2.2).bind fun x =>
     if c.Op=11 then
           lo d e f a i84 b c i142 l x (decide (l.1=0))
     else
           if c.Op=12 then
      lo d e f a i84 b c i142 l x (decide (l.1=0))
           else
      lo d e f a i84 b c i142 l x false
         else
     if c.Op=21 then
           dj d a.1 a.2.1 a.2.2.1 e a.2.2.2.1 a.2.2.2.2.2.1 a.2.2.2.2.1 f (a.2.2.2.2.2.2.set i84.toNat (Ic.mk b.unit c.A b.base)) i j k h
     else
           if c.Op=22 then
      (ek a.1 a.2.1 a.2.2.1 h i j k).bind fun g =>
      if g.1=0 then
             dj d g.2.1 g.2.2.1 g.2.2.2.1 e a.2.2.2.1 a.2.2.2.2.2.1 a.2.2.2.2.1 f (a.2.2.2.2.2.2.set i84.toNat (Ic.mk b.unit c.A b.base)) g.2.2.2.2.2.1 g.2.2.2.2.2.2.1 g.2.2.2.2.2.2.2 g.2.2.2.2.1
      else
             dj d g.2.1 g.2.2.1 g.2.2.2.1 e a.2.2.2.1 a.2.2.2.2.2.1 a.2.2.2.2.1 f (a.2.2.2.2.2.2.set i84.toNat (Ic.mk b.unit i142 b.base)) g.2.2.2.2.2.1 g.2.2.2.2.2.2.1 g.2.2.2.2.2.2.2 g.2.2.2.2.1
           else
      if c.Op=26 then
             none
      else
             if c.Op=27 then
       (ir a.2.2.2.1 a.2.2.2.2.1 a.2.2.2.2.2.1 c.A).bind fun v =>
       (rn 3 c.A v.1).bind fun D =>
       (ck a.1 a.2.1 a.2.2.1 h i j k v.1).bind fun u =>
       dj d u.1 u.2.1 u.2.2.1 e v.2.1 v.2.2.2 v.2.2.1 f (a.2.2.2.2.2.2.set i84.toNat (Ic.mk b.unit i142 b.base)) u.2.2.2.2.1 u.2.2.2.2.2.1 u.2.2.2.2.2.2 u.2.2.2.1
             else
       if c.Op=28 then
               (ek a.1 a.2.1 a.2.2.1 h i j k).bind fun m =>
               (app e [m.1]).bind fun B =>
               (rn 1 0 m.1).bind fun F =>
               dj d m.2.1 m.2.2.1 m.2.2.2.1 B a.2.2.2.1 a.2.2.2.2.2.1 a.2.2.2.2.1 f (a.2.2.2.2.2.2.set i84.toNat (Ic.mk b.unit i142 b.base)) m.2.2.2.2.2.1 m.2.2.2.2.2.2.1 m.2.2.2.2.2.2.2 m.2.2.2.2.1
       else
               (er d a.1 a.2.1 a.2.2.1 f (a.2.2.2.2.2.2.set i84.toNat (Ic.mk b.unit i142 b.base)) h i j k c).bind fun n =>
               dj d n.1 n.2.1 n.2.2.1 e a.2.2.2.1 a.2.2.2.2.2.1 a.2.2.2.2.1 n.2.2.2.1 n.2.2.2.2.1 n.2.2.2.2.2.2.1 n.2.2.2.2.2.2.2.1 n.2.2.2.2.2.2.2.2 n.2.2.2.2.2.1
    else
         none
def tn  (b:Xc) (i:Int) (j:Int) (k:Int) (c:List Int) (l:List (List Int)) (m:List Int) (n:List (List Int)) (d:Int) (o:List Ic) (e:List Int) (f:Int) (g:Int) (h:Int):Option (Bool×Int×Int×Int×List Int×List (List Int)×List Int×List (List Int)×Int×List Ic×List Int×Int×Int×Int):=
 (sn b i j k l m n o).bind fun a =>
 if a.1≠1 then
 some (false,a.1,a.2.1,a.2.2.1,c,a.2.2.2.1,a.2.2.2.2.1,a.2.2.2.2.2.1,d,a.2.2.2.2.2.2,e,f,g,h)
 else
 (i64 ((a.2.2.2.2.2.2.length:Int) - 1)).bind fun i86 =>
 (at_ a.2.2.2.2.2.2 i86).bind fun p =>
 Ht b c d e f g h a i86
end Go.Y
namespace Go.Y
open Go.vc Go.hd
def rp (i74:Int) (i75:Int) (i76:Int) (i77:Int) (b:List Int) (c:Int→Int→Int→Int→(List Int)→Option (Int×List Ic×List Int×Int×Int×Int)) (i102:Int):Option (Int×List Ic×List Int×Int×Int×Int):=
 (Up b i75 i76 i77 i102).bind fun a =>
 (i64 (i74+1)).bind fun i119 =>
 c i119 a.2.2.1 a.2.2.2.1 a.2.2.2.2 a.2.1
def km (b:Int) (a:List Int) (c:gf):Nat→Int→Int→Int→Int→(List Int)→Option (Int×List Ic×List Int×Int×Int×Int)
 | 0,_,_,_,_,_=>none
 | n+1,i74,i75,i76,i77,d =>
 if i74<(c.pd.length:Int) then
   if i74<(a.length:Int) then
  (at_ a i74).bind fun e =>
  rp i74 i75 i76 i77 d (km b a c n) e
   else
  rp i74 i75 i76 i77 d (km b a c n) 0
 else
   some (0,([(Ic.mk b 0 0)]:List Ic),d,i75,i76,i77)
def Np  (d:Xc) (b:Int) (e:List Int):Option (Int×List Ic×List Int×Int×Int×Int):=
 (Vu 8 400).bind fun a =>
 (at_ d.Jd b).bind fun c =>
 km b e c (c.pd.length+1) 0 a.2.1 a.2.2.1 a.2.2.2 a.1
def tu  (a:List Int) (b:Int) (e:Int) (f:Int):Option (List Int):=
 (cut a 0 b).bind fun c =>
 (app ([]:List Int) c).bind fun d =>
 some d
def Eu  (h:Int) (i:Int) (j:Int) (c:List Int) (b:Int) (d:Int) (e:Int) (f:Int):Option (List Int×Int×Int×Int×List Int×Int×Int×Int):=
 (tu c b d e).bind fun g =>
 (Ml b).bind fun k =>
 (i64 (k - f)).bind fun i36 =>
 (cut g i36 g.length).bind fun l =>
 (Eo c b d e f).bind fun a =>
 some (l,h,i,j,a.1,a.2.1,a.2.2.1,a.2.2.2)
end Go.Y
namespace Go.Y
open Go.vc Go.hd
structure Yh where
 state:Int
 up:Option Nat
 fr:List Ic
 l:List Int
 live:Int
 Bg:Int
 jg:Int
structure ed where
 cs:List Yh
 now:Nat
def ed.length (p:ed):Nat:=p.cs.length
def ed.put (p:ed) (c:Yh):ed:=⟨p.cs.set p.now c,p.now⟩
def Vp (m:Xc) (p:ed) (s bx t:Int) (fd:List (List Int)) (Wc:List Int) (ab:List (List Int)):Option (ed×Int×Int×Int×List (List Int)×List Int×List (List Int)):=
 (p.cs[p.now]?).bind fun c =>
 (sn m s bx t fd Wc ab c.fr).bind fun r =>
 some (p.put { c with fr:=r.2.2.2.2.2.2 },r.1,r.2.1,r.2.2.1,r.2.2.2.1,r.2.2.2.2.1,r.2.2.2.2.2.1)
def vn (p:ed) (s bx t v:Int):Option (ed×Int×Int×Int):=
 (p.cs[p.now]?).bind fun c =>
 (ck s bx t c.l c.live c.Bg c.jg v).bind fun r =>
 some (p.put { c with l:=r.2.2.2.1,live:=r.2.2.2.2.1,Bg:=r.2.2.2.2.2.1,jg:=r.2.2.2.2.2.2 },r.1,r.2.1,r.2.2.1)
def En (p:ed) (s bx t:Int):Option (Int×ed×Int×Int×Int):=
 (p.cs[p.now]?).bind fun c =>
 (ek s bx t c.l c.live c.Bg c.jg).bind fun r =>
 some (r.1,p.put { c with l:=r.2.2.2.2.1,live:=r.2.2.2.2.2.1,Bg:=r.2.2.2.2.2.2.1,jg:=r.2.2.2.2.2.2.2 },r.2.1,r.2.2.1,r.2.2.2.1)
def Fu (p:ed) (s bx t n:Int):Option (List Int×ed×Int×Int×Int):=
 (p.cs[p.now]?).bind fun c =>
 (Eu s bx t c.l c.live c.Bg c.jg n).bind fun r =>
 some (r.1,p.put { c with l:=r.2.2.2.2.1,live:=r.2.2.2.2.2.1,Bg:=r.2.2.2.2.2.2.1,jg:=r.2.2.2.2.2.2.2 },r.2.1,r.2.2.1,r.2.2.2.1)
def yx (m:Xc) (p:ed) (s bx t:Int) (x:Jc):Option (ed×Int×Int×Int):=
 (at_ m.Jd x.A).bind fun u =>
 (Fu p s bx t u.Params).bind fun a =>
 if (30:Int)<a.2.1.length then none else
 (Np m x.A a.1).bind fun b =>
 (rn 6 0 x.A).bind fun _ =>
 (i64 (((a.2.1.cs++[Yh.mk b.1 none b.2.1 b.2.2.1 b.2.2.2.1 b.2.2.2.2.1 b.2.2.2.2.2]).length:Int) - 1)).bind fun n =>
 vn ⟨a.2.1.cs++[Yh.mk b.1 none b.2.1 b.2.2.1 b.2.2.2.1 b.2.2.2.2.1 b.2.2.2.2.2],a.2.1.now⟩ a.2.2.1 a.2.2.2.1 a.2.2.2.2 n
def Tq (p:ed) (s bx t:Int) (j:Nat) (v:Int):Option (ed×Int×Int×Int):=
 if j=p.now then none else
 (p.cs[j]?).bind fun d =>
 if d.state=0 then some (⟨p.cs.set j { d with state:=2,up:=some p.now },j⟩,s,bx,t)
 else if d.state=1 then vn ⟨p.cs.set j { d with state:=2,up:=some p.now },j⟩ s bx t v
 else none
def Ao (p:ed) (s bx t st v:Int):Option (ed×Int×Int×Int):=
 (p.cs[p.now]?).bind fun c=>c.up.bind fun j =>
 vn ⟨p.cs.set p.now { c with state:=st,up:=none },j⟩ s bx t v
def oi (m:Xc) (p:ed) (s bx t:Int) (x:Jc):Option (ed×Int×Int×Int):=
 if x.Op=25 then Ao p s bx t 3 0
 else if x.Op=29 then yx m p s bx t x
 else if x.Op=30 then (En p s bx t).bind fun a=>(En a.2.1 a.2.2.1 a.2.2.2.1 a.2.2.2.2).bind fun b =>
 if b.1<0 then none else Tq b.2.1 b.2.2.1 b.2.2.2.1 b.2.2.2.2 b.1.toNat a.1
 else if x.Op=31 then (En p s bx t).bind fun a=>Ao a.2.1 a.2.2.1 a.2.2.2.1 a.2.2.2.2 1 a.1
 else if x.Op=32 then (En p s bx t).bind fun a=>if a.1<0 then none else (a.2.1.cs[a.1.toNat]?).bind fun d =>
 (cl (decide (d.state≠3))).bind fun b=>vn a.2.1 a.2.2.1 a.2.2.2.1 a.2.2.2.2 b
 else none
def Zt (m:Xc) (p:ed) (c:Yh) (out:List Int) (a:Int×Int×Int×List (List Int)×List Int×List (List Int)×List Ic) (i84:Int):Option (Bool×ed×Int×Int×Int×List Int×List (List Int)×List Int×List (List Int)):=
 (at_ a.2.2.2.2.2.2 i84).bind fun b =>
 (at_ m.Jd b.unit).bind fun d =>
 (at_ d.Code b.Vc).bind fun e =>
 (i64 (b.Vc+1)).bind fun i142 =>
 (oi m (p.put { c with fr:=a.2.2.2.2.2.2.set i84.toNat (Ic.mk b.unit i142 b.base) }) a.1 a.2.1 a.2.2.1 e).bind fun q =>
 (Vp m q.1 q.2.1 q.2.2.1 q.2.2.2 a.2.2.2.1 a.2.2.2.2.1 a.2.2.2.2.2.1).bind fun z =>
 some (true,z.1,z.2.1,z.2.2.1,z.2.2.2.1,out,z.2.2.2.2.1,z.2.2.2.2.2.1,z.2.2.2.2.2.2)
def Gn (m:Xc) (p:ed) (s bx t:Int) (out:List Int) (fd:List (List Int)) (Wc:List Int) (ab:List (List Int)):Option (Bool×ed×Int×Int×Int×List Int×List (List Int)×List Int×List (List Int)):=
 (p.cs[p.now]?).bind fun c =>
 (sn m s bx t fd Wc ab c.fr).bind fun a =>
 if a.1≠1 then none else
 (i64 ((a.2.2.2.2.2.2.length:Int) - 1)).bind fun i86 =>
 (at_ a.2.2.2.2.2.2 i86).bind fun b =>
 Zt m p c out a i86
def uu (m:Xc) (p:ed) (s bx t:Int) (out:List Int) (fd:List (List Int)) (Wc:List Int) (ab:List (List Int)):Option (Bool×ed×Int×Int×Int×List Int×List (List Int)×List Int×List (List Int)):=
 (p.cs[p.now]?).bind fun c =>
 (tn m s bx t out fd Wc ab c.state c.fr c.l c.live c.Bg c.jg).bind fun r =>
 some (r.1,p.put { c with state:=r.2.2.2.2.2.2.2.2.1,fr:=r.2.2.2.2.2.2.2.2.2.1,l:=r.2.2.2.2.2.2.2.2.2.2.1,live:=r.2.2.2.2.2.2.2.2.2.2.2.1,Bg:=r.2.2.2.2.2.2.2.2.2.2.2.2.1,jg:=r.2.2.2.2.2.2.2.2.2.2.2.2.2 },r.2.1,r.2.2.1,r.2.2.2.1,r.2.2.2.2.1,r.2.2.2.2.2.1,r.2.2.2.2.2.2.1,r.2.2.2.2.2.2.2.1)
def xn (m:Xc) (p:ed) (s bx t:Int) (out:List Int) (fd:List (List Int)) (Wc:List Int) (ab:List (List Int)):Option (Bool×ed×Int×Int×Int×List Int×List (List Int)×List Int×List (List Int)):=
 match Gn m p s bx t out fd Wc ab with
 | some r=>some r
 | none=>uu m p s bx t out fd Wc ab
def Wu (m:Xc) (u:Int):Option (ed×Int×Int×Int×List Int):=
 (Np m u ([]:List Int)).bind fun r =>
 some (⟨[Yh.mk 2 none r.2.1 r.2.2.1 r.2.2.2.1 r.2.2.2.2.1 r.2.2.2.2.2],0⟩,1,0,0,([]:List Int))
end Go.Y
namespace Go.Y
open Go.vc Go.hd
def om (p_1:Xc) (c:Int):Nat→Int→Int→Int→Int→ed→(List Int)→(List Int)→(List (List Int))→(List (List Int))→Option (Qj×Int)
 | 0,_,_,_,_,_,_,_,_,_=>none
 | n+1,b,d,e,f,g,h,i,j,k =>
 if b<c then
   (xn p_1 g d e f h j i k).bind fun a =>
   if a.1=true then
  (i64 (b+1)).bind fun l =>
  om p_1 c n l a.2.2.1 a.2.2.2.1 a.2.2.2.2.1 a.2.1 a.2.2.2.2.2.1 a.2.2.2.2.2.2.2.1 a.2.2.2.2.2.2.1 a.2.2.2.2.2.2.2.2
   else
  some ((Qj.mk a.2.2.1 a.2.2.2.1 a.2.2.2.2.1 a.2.2.2.2.2.1 a.2.2.2.2.2.2.2.2 a.2.2.2.2.2.2.2.1 b),0)
 else
   none
def Qq (fu:Nat) (p_1:Xc) (c:Int) (d:List (List Int)) (e:Int) (f:List Int) (g:List Int) (h:List (List Int)):Option (Qj×Int):=
 (at_ f c).bind fun i =>
 (Wu p_1 i).bind fun b =>
 (Vp p_1 b.1 b.2.1 b.2.2.1 b.2.2.2.1 d g h).bind fun a =>
 om p_1 e fu 0 a.2.1 a.2.2.1 a.2.2.2.1 a.1 b.2.2.2.2 a.2.2.2.2.2.1 a.2.2.2.2.1 a.2.2.2.2.2.2
def mo (i231:Int) (a:Int→Option (Qj×Int)) (b:Bool):Option (Qj×Int):=
 if b=true then
 none
 else
 (i64 (i231+1)).bind fun i276 =>
 a i276
def Dl (p_1:Xc) (i119:Int) (a:List Int) (b:Int→Option (Qj×Int)):Nat→Int→Option (Qj×Int)
 | 0,_=>none
 | n+1,i231 =>
 if i231<(a.length:Int) then
   (at_ a i231).bind fun c =>
   (at_ p_1.Qe i119).bind fun d =>
   if d.ue=2 then
  if c≠0 then
     mo i231 (Dl p_1 i119 a b n) (decide (c≠1))
  else
     mo i231 (Dl p_1 i119 a b n) false
   else
  mo i231 (Dl p_1 i119 a b n) false
 else
   (i64 (i119+1)).bind fun i278 =>
   b i278
def qm (fu:Nat) (p_1:Xc) (b:Int) (a:List (List Int)) (c:Int) (d:List Int):Nat→Int→Option (Qj×Int)
 | 0,_=>none
 | n+1,i119 =>
 if i119<(a.length:Int) then
   (at_ a i119).bind fun e =>
   Dl p_1 i119 e (qm fu p_1 b a c d n) (e.length+1) 0
 else
   (Rk (a.length:Int)).bind fun f =>
   (Rk (a.length:Int)).bind fun g =>
   Qq fu p_1 b a c d (List.replicate f (0:Int)) (List.replicate g (([]:List Int):List Int))
def kr (fu:Nat)  (p_1:Xc) (a:Int) (b:List (List Int)) (c:Int):Option (Qj×Int):=
 (Yt fu p_1).bind fun e =>
 if e.Th≠0 then
 none
 else
 (su p_1).bind fun d =>
 if a<0 then
   none
 else
   if (d.length:Int)≤a then
  none
   else
  if c<0 then
     none
  else
     if (5000:Int)<c then
   none
     else
   if (b.length:Int)≠(p_1.Qe.length:Int) then
       none
   else
       qm fu p_1 a b c d (b.length+1) 0
end Go.Y
namespace Go.Y
open Go.vc Go.hd
def Wy:List UInt8:=[98,111,120,32,105,110,32,110,117,109,32,50,48,32,59,10,103,101,110,32,109,101,97,110,40,41,32,116,97,107,101,115,32,110,117,109,32,121,105,101,108,100,115,32,110,117,109,32,123,10,32,32,108,101,116,32,115,32,61,32,48,32,59,10,32,32,108,101,116,32,110,32,61,32,48,32,59,10,32,32,108,101,116,32,120,32,61,32,121,105,101,108,100,40,48,41,32,59,10,32,32,119,104,105,108,101,32,116,114,117,101,32,123,32,115,32,61,32,115,32,43,32,120,32,59,32,110,32,61,32,110,32,43,32,49,32,59,32,120,32,61,32,121,105,101,108,100,40,115,32,47,32,110,41,32,59,32,125,10,125,10,116,97,115,107,32,109,97,105,110,32,123,10,32,32,108,101,116,32,109,32,61,32,115,116,97,114,116,32,109,101,97,110,40,41,32,59,10,32,32,100,111,32,114,101,115,117,109,101,40,109,44,32,48,41,32,59,10,32,32,119,104,105,108,101,32,116,114,117,101,32,123,32,111,117,116,32,114,101,115,117,109,101,40,109,44,32,114,101,99,118,40,105,110,41,41,32,59,32,125,10,125,10]
def Xy:List UInt8:=[98,111,120,32,105,110,32,110,117,109,32,50,48,32,59,10,116,97,115,107,32,109,97,105,110,32,123,10,32,32,119,104,105,108,101,32,116,114,117,101,32,123,10,32,32,32,32,108,101,116,32,120,32,61,32,114,101,99,118,40,105,110,41,32,59,10,32,32,32,32,108,101,116,32,110,32,61,32,48,32,59,10,32,32,32,32,119,104,105,108,101,32,120,32,62,32,48,32,123,32,110,32,61,32,110,32,43,32,120,32,37,32,50,32,59,32,120,32,61,32,120,32,47,32,50,32,59,32,125,10,32,32,32,32,111,117,116,32,110,32,59,10,32,32,125,10,125,10]
def Yy:List UInt8:=[98,111,120,32,105,110,32,110,117,109,32,50,48,32,59,10,116,97,115,107,32,109,97,105,110,32,123,10,32,32,108,101,116,32,108,97,115,116,32,61,32,114,101,99,118,40,105,110,41,32,59,10,32,32,108,101,116,32,110,32,61,32,49,32,59,10,32,32,119,104,105,108,101,32,116,114,117,101,32,123,10,32,32,32,32,108,101,116,32,120,32,61,32,114,101,99,118,40,105,110,41,32,59,10,32,32,32,32,105,102,32,120,32,61,61,32,108,97,115,116,32,123,32,110,32,61,32,110,32,43,32,49,32,59,32,125,32,101,108,115,101,32,123,32,111,117,116,32,108,97,115,116,32,59,32,111,117,116,32,110,32,59,32,108,97,115,116,32,61,32,120,32,59,32,110,32,61,32,49,32,59,32,125,10,32,32,125,10,125,10]
def Zy:List UInt8:=[98,111,120,32,105,110,32,110,117,109,32,50,48,32,59,10,116,97,115,107,32,109,97,105,110,32,123,10,32,32,119,104,105,108,101,32,116,114,117,101,32,123,10,32,32,32,32,108,101,116,32,110,32,61,32,114,101,99,118,40,105,110,41,32,59,10,32,32,32,32,108,101,116,32,107,32,61,32,48,32,59,10,32,32,32,32,119,104,105,108,101,32,110,32,62,32,49,32,123,10,32,32,32,32,32,32,105,102,32,110,32,37,32,50,32,61,61,32,48,32,123,32,110,32,61,32,110,32,47,32,50,32,59,32,125,32,101,108,115,101,32,123,32,110,32,61,32,51,32,42,32,110,32,43,32,49,32,59,32,125,10,32,32,32,32,32,32,107,32,61,32,107,32,43,32,49,32,59,10,32,32,32,32,125,10,32,32,32,32,111,117,116,32,107,32,59,10,32,32,125,10,125,10]
def az:List UInt8:=[98,111,120,32,105,110,32,110,117,109,32,50,48,32,59,10,116,97,115,107,32,109,97,105,110,32,123,10,32,32,108,101,116,32,108,97,115,116,32,61,32,114,101,99,118,40,105,110,41,32,59,10,32,32,111,117,116,32,108,97,115,116,32,59,10,32,32,119,104,105,108,101,32,116,114,117,101,32,123,10,32,32,32,32,108,101,116,32,120,32,61,32,114,101,99,118,40,105,110,41,32,59,10,32,32,32,32,105,102,32,120,32,33,61,32,108,97,115,116,32,123,32,111,117,116,32,120,32,59,32,108,97,115,116,32,61,32,120,32,59,32,125,10,32,32,125,10,125,10]
def bz:List UInt8:=[98,111,120,32,105,110,32,110,117,109,32,50,48,32,59,10,116,97,115,107,32,109,97,105,110,32,123,10,32,32,119,104,105,108,101,32,116,114,117,101,32,123,10,32,32,32,32,108,101,116,32,120,32,61,32,114,101,99,118,40,105,110,41,32,59,10,32,32,32,32,108,101,116,32,115,32,61,32,48,32,59,10,32,32,32,32,119,104,105,108,101,32,120,32,62,32,48,32,123,32,115,32,61,32,115,32,43,32,120,32,37,32,49,48,32,59,32,120,32,61,32,120,32,47,32,49,48,32,59,32,125,10,32,32,32,32,111,117,116,32,115,32,59,10,32,32,125,10,125,10]
def cz:List UInt8:=[98,111,120,32,105,110,32,110,117,109,32,50,48,32,59,10,116,97,115,107,32,109,97,105,110,32,123,10,32,32,119,104,105,108,101,32,116,114,117,101,32,123,32,111,117,116,32,114,101,99,118,40,105,110,41,32,42,32,50,32,59,32,125,10,125,10]
def dz:List UInt8:=[98,111,120,32,105,110,32,110,117,109,32,50,48,32,59,10,116,97,115,107,32,109,97,105,110,32,123,10,32,32,119,104,105,108,101,32,116,114,117,101,32,123,10,32,32,32,32,108,101,116,32,120,32,61,32,114,101,99,118,40,105,110,41,32,59,10,32,32,32,32,105,102,32,120,32,37,32,50,32,61,61,32,48,32,123,32,111,117,116,32,120,32,59,32,125,10,32,32,125,10,125,10]
def ez:List UInt8:=[98,111,120,32,105,110,32,110,117,109,32,50,48,32,59,10,102,110,32,102,97,99,116,40,110,32,110,117,109,41,32,110,117,109,32,123,10,32,32,105,102,32,110,32,60,32,50,32,123,32,114,101,116,117,114,110,32,49,32,59,32,125,10,32,32,114,101,116,117,114,110,32,110,32,42,32,102,97,99,116,40,110,32,45,32,49,41,32,59,10,125,10,116,97,115,107,32,109,97,105,110,32,123,10,32,32,119,104,105,108,101,32,116,114,117,101,32,123,32,111,117,116,32,102,97,99,116,40,114,101,99,118,40,105,110,41,41,32,59,32,125,10,125,10]
def wy:List UInt8:=[98,111,120,32,105,110,32,110,117,109,32,50,48,32,59,10,35,32,101,97,99,104,32,110,117,109,98,101,114,32,97,115,107,115,32,102,111,114,32,97,115,32,109,97,110,121,10,103,101,110,32,102,105,98,115,40,41,32,116,97,107,101,115,32,98,111,111,108,32,121,105,101,108,100,115,32,110,117,109,32,123,10,32,32,108,101,116,32,97,32,61,32,48,32,59,10,32,32,108,101,116,32,98,32,61,32,49,32,59,10,32,32,119,104,105,108,101,32,121,105,101,108,100,40,97,41,32,123,32,108,101,116,32,99,32,61,32,97,32,43,32,98,32,59,32,97,32,61,32,98,32,59,32,98,32,61,32,99,32,59,32,125,10,125,10,116,97,115,107,32,109,97,105,110,32,123,10,32,32,108,101,116,32,102,32,61,32,115,116,97,114,116,32,102,105,98,115,40,41,32,59,10,32,32,119,104,105,108,101,32,116,114,117,101,32,123,10,32,32,32,32,108,101,116,32,110,32,61,32,114,101,99,118,40,105,110,41,32,59,10,32,32,32,32,119,104,105,108,101,32,110,32,62,32,48,32,123,32,111,117,116,32,114,101,115,117,109,101,40,102,44,32,116,114,117,101,41,32,59,32,110,32,61,32,110,32,45,32,49,32,59,32,125,10,32,32,125,10,125,10]
def xy:List UInt8:=[98,111,120,32,105,110,32,110,117,109,32,50,48,32,59,10,98,111,120,32,111,112,101,110,32,98,111,111,108,32,50,48,32,59,10,116,97,115,107,32,109,97,105,110,32,123,10,32,32,119,104,105,108,101,32,116,114,117,101,32,123,10,32,32,32,32,108,101,116,32,120,32,61,32,114,101,99,118,40,105,110,41,32,59,10,32,32,32,32,105,102,32,114,101,99,118,40,111,112,101,110,41,32,123,32,111,117,116,32,120,32,59,32,125,10,32,32,125,10,125,10]
def yy:List UInt8:=[98,111,120,32,105,110,32,110,117,109,32,50,48,32,59,10,102,110,32,103,99,100,40,97,32,110,117,109,44,32,98,32,110,117,109,41,32,110,117,109,32,123,10,32,32,105,102,32,98,32,61,61,32,48,32,123,32,114,101,116,117,114,110,32,97,32,59,32,125,10,32,32,114,101,116,117,114,110,32,103,99,100,40,98,44,32,97,32,37,32,98,41,32,59,10,125,10,116,97,115,107,32,109,97,105,110,32,123,10,32,32,119,104,105,108,101,32,116,114,117,101,32,123,32,111,117,116,32,103,99,100,40,114,101,99,118,40,105,110,41,44,32,114,101,99,118,40,105,110,41,41,32,59,32,125,10,125,10]
def zy:List UInt8:=[98,111,120,32,105,110,32,110,117,109,32,50,48,32,59,10,102,110,32,109,97,120,40,97,32,110,117,109,44,32,98,32,110,117,109,41,32,110,117,109,32,123,10,32,32,105,102,32,97,32,60,32,98,32,123,32,114,101,116,117,114,110,32,98,32,59,32,125,10,32,32,114,101,116,117,114,110,32,97,32,59,10,125,10,116,97,115,107,32,109,97,105,110,32,123,10,32,32,108,101,116,32,109,32,61,32,114,101,99,118,40,105,110,41,32,59,10,32,32,119,104,105,108,101,32,116,114,117,101,32,123,32,111,117,116,32,109,32,59,32,109,32,61,32,109,97,120,40,109,44,32,114,101,99,118,40,105,110,41,41,32,59,32,125,10,125,10]
def Ay:List UInt8:=[98,111,120,32,97,32,110,117,109,32,50,48,32,59,10,98,111,120,32,98,32,110,117,109,32,50,48,32,59,10,116,97,115,107,32,109,97,105,110,32,123,10,32,32,108,101,116,32,120,32,61,32,114,101,99,118,40,97,41,32,59,10,32,32,108,101,116,32,121,32,61,32,114,101,99,118,40,98,41,32,59,10,32,32,119,104,105,108,101,32,116,114,117,101,32,123,10,32,32,32,32,105,102,32,120,32,60,61,32,121,32,123,32,111,117,116,32,120,32,59,32,120,32,61,32,114,101,99,118,40,97,41,32,59,32,125,32,101,108,115,101,32,123,32,111,117,116,32,121,32,59,32,121,32,61,32,114,101,99,118,40,98,41,32,59,32,125,10,32,32,125,10,125,10]
def By:List UInt8:=[98,111,120,32,105,110,32,110,117,109,32,50,48,32,59,10,116,97,115,107,32,109,97,105,110,32,123,10,32,32,119,104,105,108,101,32,116,114,117,101,32,123,32,111,117,116,32,114,101,99,118,40,105,110,41,32,45,32,114,101,99,118,40,105,110,41,32,59,32,125,10,125,10]
def Cy:List UInt8:=[98,111,120,32,112,105,110,103,32,110,117,109,32,49,32,59,10,98,111,120,32,112,111,110,103,32,110,117,109,32,49,32,59,10,116,97,115,107,32,111,110,101,32,123,10,32,32,108,101,116,32,120,32,61,32,49,32,59,10,32,32,119,104,105,108,101,32,120,32,60,32,49,48,48,32,123,32,115,101,110,100,32,112,105,110,103,32,120,32,59,32,120,32,61,32,114,101,99,118,40,112,111,110,103,41,32,59,32,111,117,116,32,120,32,59,32,125,10,125,10,116,97,115,107,32,111,116,104,101,114,32,123,10,32,32,119,104,105,108,101,32,116,114,117,101,32,123,32,115,101,110,100,32,112,111,110,103,32,114,101,99,118,40,112,105,110,103,41,32,42,32,50,32,59,32,125,10,125,10]
def Dy:List UInt8:=[98,111,120,32,105,110,32,110,117,109,32,50,48,32,59,10,116,97,115,107,32,109,97,105,110,32,123,10,32,32,119,104,105,108,101,32,116,114,117,101,32,123,10,32,32,32,32,108,101,116,32,120,32,61,32,114,101,99,118,40,105,110,41,32,59,10,32,32,32,32,108,101,116,32,110,32,61,32,114,101,99,118,40,105,110,41,32,59,10,32,32,32,32,108,101,116,32,112,32,61,32,49,32,59,10,32,32,32,32,119,104,105,108,101,32,110,32,62,32,48,32,123,10,32,32,32,32,32,32,105,102,32,110,32,37,32,50,32,61,61,32,49,32,123,32,112,32,61,32,112,32,42,32,120,32,59,32,125,10,32,32,32,32,32,32,120,32,61,32,120,32,42,32,120,32,59,10,32,32,32,32,32,32,110,32,61,32,110,32,47,32,50,32,59,10,32,32,32,32,125,10,32,32,32,32,111,117,116,32,112,32,59,10,32,32,125,10,125,10]
def Ey:List UInt8:=[98,111,120,32,105,110,32,110,117,109,32,50,48,32,59,10,102,110,32,112,114,105,109,101,40,110,32,110,117,109,41,32,98,111,111,108,32,123,10,32,32,105,102,32,110,32,60,32,50,32,123,32,114,101,116,117,114,110,32,102,97,108,115,101,32,59,32,125,10,32,32,108,101,116,32,100,32,61,32,50,32,59,10,32,32,119,104,105,108,101,32,100,32,42,32,100,32,60,61,32,110,32,123,10,32,32,32,32,105,102,32,110,32,37,32,100,32,61,61,32,48,32,123,32,114,101,116,117,114,110,32,102,97,108,115,101,32,59,32,125,10,32,32,32,32,100,32,61,32,100,32,43,32,49,32,59,10,32,32,125,10,32,32,114,101,116,117,114,110,32,116,114,117,101,32,59,10,125,10,116,97,115,107,32,109,97,105,110,32,123,10,32,32,119,104,105,108,101,32,116,114,117,101,32,123,32,111,117,116,32,112,114,105,109,101,40,114,101,99,118,40,105,110,41,41,32,59,32,125,10,125,10]
def Fy:List UInt8:=[98,111,120,32,105,110,32,110,117,109,32,50,48,32,59,10,35,32,97,32,103,101,110,101,114,97,116,111,114,32,119,105,116,104,105,110,32,97,32,103,101,110,101,114,97,116,111,114,10,103,101,110,32,105,110,110,101,114,40,110,32,110,117,109,41,32,116,97,107,101,115,32,98,111,111,108,32,121,105,101,108,100,115,32,110,117,109,32,123,10,32,32,108,101,116,32,105,32,61,32,48,32,59,10,32,32,119,104,105,108,101,32,105,32,60,32,110,32,123,32,100,111,32,121,105,101,108,100,40,105,41,32,59,32,105,32,61,32,105,32,43,32,49,32,59,32,125,10,125,10,103,101,110,32,111,117,116,101,114,40,41,32,116,97,107,101,115,32,110,117,109,32,121,105,101,108,100,115,32,110,117,109,32,123,10,32,32,108,101,116,32,110,32,61,32,121,105,101,108,100,40,48,41,32,59,10,32,32,119,104,105,108,101,32,116,114,117,101,32,123,10,32,32,32,32,108,101,116,32,103,32,61,32,115,116,97,114,116,32,105,110,110,101,114,40,110,41,32,59,10,32,32,32,32,108,101,116,32,115,32,61,32,48,32,59,10,32,32,32,32,119,104,105,108,101,32,97,108,105,118,101,40,103,41,32,123,32,115,32,61,32,115,32,43,32,114,101,115,117,109,101,40,103,44,32,116,114,117,101,41,32,59,32,125,10,32,32,32,32,110,32,61,32,121,105,101,108,100,40,115,41,32,59,10,32,32,125,10,125,10,116,97,115,107,32,109,97,105,110,32,123,10,32,32,108,101,116,32,111,32,61,32,115,116,97,114,116,32,111,117,116,101,114,40,41,32,59,10,32,32,100,111,32,114,101,115,117,109,101,40,111,44,32,48,41,32,59,10,32,32,119,104,105,108,101,32,116,114,117,101,32,123,32,111,117,116,32,114,101,115,117,109,101,40,111,44,32,114,101,99,118,40,105,110,41,41,32,59,32,125,10,125,10]
def Gy:List UInt8:=[98,111,120,32,105,110,116,115,32,110,117,109,32,49,32,59,10,98,111,120,32,111,100,100,32,110,117,109,32,49,32,59,10,98,111,120,32,114,101,115,116,32,110,117,109,32,49,32,59,10,116,97,115,107,32,110,117,109,98,101,114,115,32,123,10,32,32,108,101,116,32,105,32,61,32,50,32,59,10,32,32,119,104,105,108,101,32,105,32,60,32,50,54,32,123,32,115,101,110,100,32,105,110,116,115,32,105,32,59,32,105,32,61,32,105,32,43,32,49,32,59,32,125,10,125,10,116,97,115,107,32,116,119,111,32,123,10,32,32,111,117,116,32,50,32,59,10,32,32,119,104,105,108,101,32,116,114,117,101,32,123,32,108,101,116,32,120,32,61,32,114,101,99,118,40,105,110,116,115,41,32,59,32,105,102,32,120,32,37,32,50,32,33,61,32,48,32,123,32,115,101,110,100,32,111,100,100,32,120,32,59,32,125,32,125,10,125,10,116,97,115,107,32,116,104,114,101,101,32,123,10,32,32,111,117,116,32,51,32,59,10,32,32,119,104,105,108,101,32,116,114,117,101,32,123,32,108,101,116,32,120,32,61,32,114,101,99,118,40,111,100,100,41,32,59,32,105,102,32,120,32,37,32,51,32,33,61,32,48,32,123,32,115,101,110,100,32,114,101,115,116,32,120,32,59,32,125,32,125,10,125,10,116,97,115,107,32,111,116,104,101,114,115,32,123,10,32,32,119,104,105,108,101,32,116,114,117,101,32,123,32,108,101,116,32,120,32,61,32,114,101,99,118,40,114,101,115,116,41,32,59,32,105,102,32,120,32,37,32,53,32,33,61,32,48,32,123,32,111,117,116,32,120,32,59,32,125,32,101,108,115,101,32,123,32,105,102,32,120,32,61,61,32,53,32,123,32,111,117,116,32,120,32,59,32,125,32,125,32,125,10,125,10]
def Hy:List UInt8:=[98,111,120,32,105,110,32,110,117,109,32,50,48,32,59,10,116,97,115,107,32,109,97,105,110,32,123,10,32,32,108,101,116,32,115,32,61,32,48,32,59,10,32,32,119,104,105,108,101,32,116,114,117,101,32,123,32,115,32,61,32,115,32,43,32,114,101,99,118,40,105,110,41,32,59,32,111,117,116,32,115,32,59,32,125,10,125,10]
def Iy:List UInt8:=[98,111,120,32,105,110,32,110,117,109,32,50,48,32,59,10,35,32,116,119,111,32,116,104,97,116,32,116,97,107,101,32,116,117,114,110,115,10,103,101,110,32,112,108,117,115,40,107,32,110,117,109,41,32,116,97,107,101,115,32,110,117,109,32,121,105,101,108,100,115,32,110,117,109,32,123,10,32,32,108,101,116,32,120,32,61,32,121,105,101,108,100,40,48,41,32,59,10,32,32,119,104,105,108,101,32,116,114,117,101,32,123,32,120,32,61,32,121,105,101,108,100,40,120,32,43,32,107,41,32,59,32,125,10,125,10,116,97,115,107,32,109,97,105,110,32,123,10,32,32,108,101,116,32,97,32,61,32,115,116,97,114,116,32,112,108,117,115,40,49,41,32,59,10,32,32,108,101,116,32,98,32,61,32,115,116,97,114,116,32,112,108,117,115,40,45,49,41,32,59,10,32,32,100,111,32,114,101,115,117,109,101,40,97,44,32,48,41,32,59,10,32,32,100,111,32,114,101,115,117,109,101,40,98,44,32,48,41,32,59,10,32,32,119,104,105,108,101,32,116,114,117,101,32,123,32,111,117,116,32,114,101,115,117,109,101,40,97,44,32,114,101,99,118,40,105,110,41,41,32,59,32,111,117,116,32,114,101,115,117,109,101,40,98,44,32,114,101,99,118,40,105,110,41,41,32,59,32,125,10,125,10]
def Jy:List UInt8:=[98,111,120,32,105,110,32,110,117,109,32,50,48,32,59,10,116,97,115,107,32,109,97,105,110,32,123,10,32,32,108,101,116,32,120,32,61,32,114,101,99,118,40,105,110,41,32,59,10,32,32,119,104,105,108,101,32,120,32,33,61,32,48,32,123,32,111,117,116,32,120,32,59,32,120,32,61,32,114,101,99,118,40,105,110,41,32,59,32,125,10,125,10]
def Ky:List UInt8:=[98,111,120,32,105,110,32,110,117,109,32,50,48,32,59,10,116,97,115,107,32,109,97,105,110,32,123,10,32,32,108,101,116,32,97,32,61,32,114,101,99,118,40,105,110,41,32,59,10,32,32,108,101,116,32,98,32,61,32,114,101,99,118,40,105,110,41,32,59,10,32,32,119,104,105,108,101,32,116,114,117,101,32,123,10,32,32,32,32,108,101,116,32,99,32,61,32,114,101,99,118,40,105,110,41,32,59,10,32,32,32,32,111,117,116,32,97,32,43,32,98,32,43,32,99,32,59,10,32,32,32,32,97,32,61,32,98,32,59,10,32,32,32,32,98,32,61,32,99,32,59,10,32,32,125,10,125,10]
def Ly:List UInt8:=[98,111,120,32,97,32,110,117,109,32,50,48,32,59,10,98,111,120,32,98,32,110,117,109,32,50,48,32,59,10,116,97,115,107,32,109,97,105,110,32,123,10,32,32,119,104,105,108,101,32,116,114,117,101,32,123,32,111,117,116,32,114,101,99,118,40,97,41,32,43,32,114,101,99,118,40,98,41,32,59,32,125,10,125,10]
def Ax  :Option (List Oc):=
 some [(Oc.mk [97,118,101,114,97,103,101] Wy),(Oc.mk [98,105,116,115] Xy),(Oc.mk [99,104,97,110,103,101,115] Yy),(Oc.mk [99,111,108,108,97,116,122] Zy),(Oc.mk [100,101,100,117,112,101] az),(Oc.mk [100,105,103,105,116,115] bz),(Oc.mk [100,111,117,98,108,101] cz),(Oc.mk [101,118,101,110,115] dz),(Oc.mk [102,97,99,116] ez)]
def Uw  :Option (List Oc):=
 some [(Oc.mk [102,105,98] wy),(Oc.mk [103,97,116,101] xy),(Oc.mk [103,99,100] yy),(Oc.mk [103,114,101,97,116,101,115,116] zy),(Oc.mk [109,101,114,103,101] Ay),(Oc.mk [112,97,105,114,115] By),(Oc.mk [112,105,110,103,112,111,110,103] Cy),(Oc.mk [112,111,119,101,114] Dy),(Oc.mk [112,114,105,109,101] Ey)]
def Ox  :Option (List Oc):=
 some [(Oc.mk [114,111,117,110,100,115] Fy),(Oc.mk [115,105,101,118,101] Gy),(Oc.mk [115,117,109,115] Hy),(Oc.mk [116,117,114,110,115] Iy),(Oc.mk [117,110,116,105,108] Jy),(Oc.mk [119,105,110,100,111,119] Ky),(Oc.mk [122,105,112] Ly)]
def Bx  (p_1:Oc) (a:List UInt8):Option Bool :=
 some (decide (p_1.name=a))
def Ur (p_1:List Oc) (a:Oc→Option Bool):Nat→Int→Option Int
 | 0,_=>none
 | n+1,i20 =>
 if i20<(p_1.length:Int) then
   (at_ p_1 i20).bind fun b =>
   (a b).bind fun c =>
   if c=true then
  some i20
   else
  (i64 (i20+1)).bind fun i49 =>
  Ur p_1 a n i49
 else
   none
def Fv  (p_1:List Oc) (a:Oc→Option Bool):Option Int :=
 Ur p_1 a (p_1.length+1) 0
end Go.Y
namespace Go.Y
open Go.vc Go.hd
def sw  (a:Int):Option (List Oc):=
 if a<0 then
 none
 else
 (i64 (0 - 0)).bind fun i5 =>
 (i64 (a - i5)).bind fun i7 =>
 if (0:Int)<i7 then
   (pv i7).bind fun na =>
   (cut (List.replicate na ((Oc.mk [] []):Oc)) 0 0).bind fun b =>
   some b
 else
   none
def Vr (p_1:List (List Oc)):Nat→Int→(List Oc)→Option (List Oc)
 | 0,_,_=>none
 | n+1,i83,a =>
 if i83<(p_1.length:Int) then
   (at_ p_1 i83).bind fun b =>
   (app a b).bind fun c =>
   (i64 (i83+1)).bind fun i129 =>
   Vr p_1 n i129 c
 else
   some a
def Wr (p_1:List (List Oc)):Nat→Int→Int→Option (List Oc)
 | 0,_,_=>none
 | n+1,i22,i23 =>
 if i23<(p_1.length:Int) then
   (at_ p_1 i23).bind fun a =>
   (i64 (i22+(a.length:Int))).bind fun i52 =>
   if i52<0 then
  none
   else
  (i64 (i23+1)).bind fun i55 =>
  Wr p_1 n i52 i55
 else
   (sw i22).bind fun b =>
   Vr p_1 (p_1.length+1) 0 b
def Nv  (p_1:List (List Oc)):Option (List Oc):=
 Wr p_1 (p_1.length+1) 0 0
def iy  :Option (List Oc):=
 (Ax ).bind fun a =>
 (Uw ).bind fun b =>
 (Ox ).bind fun c =>
 (Nv [a,b,c]).bind fun d =>
 some d
def Px  (p_1:List UInt8):Option (List UInt8×Int):=
 (iy ).bind fun a =>
 (Fv a (fun c=>Bx c p_1)).bind fun b =>
 if b<0 then
 none
 else
 (at_ a b).bind fun d =>
 some (d.text,0)
def Yv (a:Xc×yf):Option (Xc×Int):=
 some (a.1,a.2.Th)
def Uq (fu:Nat)  (p_1:List UInt8):Option (Xc×Int):=
 (Px p_1).bind fun a =>
 if a.2≠0 then
 none
 else
 (lx fu a.1).bind fun b =>
 if b.2.Th≠0 then
   none
 else
   (pw fu b.1).bind fun c =>
   Yv c
def Xu (fu:Nat)  (p_1:List UInt8) (c:List (List Int)):Option (Qj×Int):=
 (Uq fu p_1).bind fun a =>
 if a.2≠0 then
 none
 else
 (kr fu a.1 0 c 5000).bind fun b =>
 some (b.1,b.2)
end Go.Y
