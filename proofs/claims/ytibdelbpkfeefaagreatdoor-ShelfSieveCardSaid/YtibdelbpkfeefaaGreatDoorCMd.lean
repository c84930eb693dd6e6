/- Texts of Md. -/
import Derived.Test.YtibdelbpkfeefaaGreatDoorCXu
set_option linter.unusedSimpArgs false
set_option linter.unusedVariables false
set_option linter.unusedSectionVars false
namespace Go.Y
open Go.bc Go.Xc
structure Vc where
  Kind:Int
  N:Int
  Name:List UInt8
  Kids:List Vc
  deriving Inhabited,Repr
structure Cd where
  Kind:Int
  Name:List UInt8
  X:Vc
  Body:List Cd
  Di:List Cd
  deriving Inhabited,Repr
def wk {α:Type}(sz:Nat) (μ:M) (a:Option Addr) (c:Nat) (xs:List α) (g:Nat→List Value):Prop :=
  xs.length≤c∧c≤maxLen∧(xs=[]∨∃ b o,a=some ⟨b,o,none⟩∧∀ (i:Nat) (y:α),xs[i]?=some y→tc μ b (o+i*sz) (g i))
inductive Yl (μ:M):List Value→Vc→Prop where
  | mk (x:Vc) (a:Option Addr) (c:Nat) (g:Nat→List Value) (h:wk 4 μ a c x.Kids g) (k:∀ (i:Nat) (y:Vc),x.Kids[i]?=some y→Yl μ (g i) y) :
    Yl μ [.int .i64 x.Kind,.int .i64 x.N,S x.Name,.slice a x.Kids.length c] x
theorem wk.bp {α:Type}{sz:Nat}{μ:M}{a:Option Addr}{c:Nat}{xs:List α}{g:Nat→List Value}{R:List Value→α→Prop}(h:wk sz μ a c xs g) (k:∀ (i:Nat) (y:α),xs[i]?=some y→R (g i) y):Rc sz R μ a c xs:=by
  refine ⟨h.1,h.2.1,?_⟩;rcases h.2.2 with h | ⟨b,o,e,f⟩
  · exact .inl h
  · exact .inr ⟨b,o,e,g,fun i x d=>⟨f i x d,k i x d⟩⟩
theorem wk.of {α:Type}{sz:Nat}{μ:M}{a:Option Addr}{c:Nat}{xs:List α}{R:List Value→α→Prop}(h:Rc sz R μ a c xs):∃ g,wk sz μ a c xs g∧∀ (i:Nat) (y:α),xs[i]?=some y→R (g i) y:=by
  rcases h.el with e | ⟨b,o,j,g,f⟩
  · exact ⟨fun _=>[],⟨h.le,h.cap,.inl e⟩,fun i y d=>by simp [e] at d⟩
  · exact ⟨g,⟨h.le,h.cap,.inr ⟨b,o,j,fun i y d=>(f i y d).1⟩⟩,fun i y d=>(f i y d).2⟩
theorem wk.up {α:Type}{sz:Nat}{μ I:M}{a:Option Addr}{c:Nat}{xs:List α}{g:Nat→List Value}(h:wk sz μ a c xs g) (l:da μ I):wk sz I a c xs g:=by
  refine ⟨h.1,h.2.1,?_⟩;rcases h.2.2 with h | ⟨b,o,d,e⟩
  · exact .inl h
  · exact .inr ⟨b,o,d,fun i y f=>(e i y f).up l⟩
theorem Yl.up {μ I:M}(l:da μ I){cs:List Value}{x:Vc}(h:Yl μ cs x):Yl I cs x:=by
  induction h with
  | mk x a c g h k b=>exact .mk x a c g (h.up l) b
instance:Va Vc where
  sz:=4
  pos:=by decide
  cs:=Yl
  fh h:=by cases h;rfl
  up l h:=Yl.up l h
  sg h:=by cases h;rfl
theorem Vc.o {μ:M}{l:List Value}{x:Vc}(h:Va.cs μ l x):∃ a c,l=[.int .i64 x.Kind,.int .i64 x.N,S x.Name,.slice a x.Kids.length c]∧Ca μ a c x.Kids:=by
  have b:Yl μ l x:=h;cases b with
  | mk _ a c g d k1=>exact ⟨a,c,rfl,d.bp k1⟩
theorem Vc.i {μ:M}{l:List Value}{x:Vc}(h:∃ a c,l=[.int .i64 x.Kind,.int .i64 x.N,S x.Name,.slice a x.Kids.length c]∧Ca μ a c x.Kids):Va.cs μ l x:=by
  obtain ⟨a,c,rfl,h⟩:=h;obtain ⟨g,h,k⟩:=wk.of h;exact Yl.mk x a c g h k
inductive Cl (μ:M):List Value→Cd→Prop where
  | mk (x:Cd) (O:Option Addr) (a:Nat) (a2:Option Addr) (c2:Nat) (a3:Option Addr) (c3:Nat) (g2 g3:Nat→List Value) (b:Ca μ O a x.X.Kids)
      (c:wk 8 μ a2 c2 x.Body g2) (d:∀ (i:Nat) (y:Cd),x.Body[i]?=some y→Cl μ (g2 i) y)
      (e:wk 8 μ a3 c3 x.Di g3) (f:∀ (i:Nat) (y:Cd),x.Di[i]?=some y→Cl μ (g3 i) y) :
    Cl μ [.int .i64 x.Kind,S x.Name,.int .i64 x.X.Kind,.int .i64 x.X.N,S x.X.Name,.slice O x.X.Kids.length a,.slice a2 x.Body.length c2,.slice a3 x.Di.length c3] x
theorem Cl.up {μ I:M}(l:da μ I){cs:List Value}{x:Cd}(h:Cl μ cs x):Cl I cs x:=by
  induction h with
  | mk x O a a2 c2 a3 c3 g2 g3 b c g d i e f=>exact .mk x O a a2 c2 a3 c3 g2 g3 (b.up l) (c.up l) e (d.up l) f
instance:Va Cd where
  sz:=8
  pos:=by decide
  cs:=Cl
  fh h:=by cases h;rfl
  up l h:=Cl.up l h
  sg h:=by cases h;rfl
theorem Cd.o {μ:M}{l:List Value}{x:Cd}(h:Va.cs μ l x):∃ O a a2 c2 a3 c3,l=[.int .i64 x.Kind,S x.Name,.int .i64 x.X.Kind,.int .i64 x.X.N,S x.X.Name,.slice O x.X.Kids.length a,.slice a2 x.Body.length c2,.slice a3 x.Di.length c3]∧Ca μ O a x.X.Kids∧Ca μ a2 c2 x.Body∧Ca μ a3 c3 x.Di:=by
  have b:Cl μ l x:=h;cases b with
  | mk _ O a a2 c2 a3 c3 g2 g3 c d e f g=>exact ⟨O,a,a2,c2,a3,c3,rfl,c,d.bp e,f.bp g⟩
theorem Cd.i {μ:M}{l:List Value}{x:Cd}(h:∃ O a a2 c2 a3 c3,l=[.int .i64 x.Kind,S x.Name,.int .i64 x.X.Kind,.int .i64 x.X.N,S x.X.Name,.slice O x.X.Kids.length a,.slice a2 x.Body.length c2,.slice a3 x.Di.length c3]∧Ca μ O a x.X.Kids∧Ca μ a2 c2 x.Body∧Ca μ a3 c3 x.Di):Va.cs μ l x:=by
  obtain ⟨O,a,a2,c2,a3,c3,rfl,d,b,c⟩:=h;obtain ⟨g2,b,e⟩:=wk.of b;obtain ⟨g3,c,f⟩:=wk.of c;exact Cl.mk x O a a2 c2 a3 c3 g2 g3 d b e c f
structure qc where
  Kind:Int
  Text:List UInt8
  rC:Int
  tc:Int
  deriving DecidableEq,Inhabited,Repr
instance:Va qc where
  sz:=4
  pos:=by decide
  cs μ l x:=l=[.int .i64 x.Kind,S x.Text,.int .i64 x.rC,.int .i64 x.tc]
  fh h:=by obtain rfl:=h;rfl
  up le h:=by exact h
  sg h:=by obtain rfl:=h;rfl
structure tf where
  ih:Int
  tc:Int
  deriving DecidableEq,Inhabited,Repr
structure Lc where
  Kind:Int
  re:List UInt8
  deriving DecidableEq,Inhabited,Repr
instance:Va Lc where
  sz:=2
  pos:=by decide
  cs μ l x:=l=[.int .i64 x.Kind,S x.re]
  fh h:=by obtain rfl:=h;rfl
  up le h:=by exact h
  sg h:=by obtain rfl:=h;rfl
structure TParam where
  Name:List UInt8
  We:Lc
  deriving DecidableEq,Inhabited,Repr
instance:Va TParam where
  sz:=3
  pos:=by decide
  cs μ l x:=l=[S x.Name,.int .i64 x.We.Kind,S x.We.re]
  fh h:=by obtain rfl:=h;rfl
  up le h:=by exact h
  sg h:=by obtain rfl:=h;rfl
structure Zb where
  Kind:Int
  Name:List UInt8
  We:Lc
  Pe:Lc
  Ug:Int
  Params:List TParam
  Body:List Cd
  deriving Inhabited,Repr
instance:Va Zb where
  sz:=9
  pos:=by decide
  cs μ l x:=∃ O a a2 c2,l=[.int .i64 x.Kind,S x.Name,.int .i64 x.We.Kind,S x.We.re,.int .i64 x.Pe.Kind,S x.Pe.re,.int .i64 x.Ug,.slice O x.Params.length a,.slice a2 x.Body.length c2]∧Ca μ O a x.Params∧Ca μ a2 c2 x.Body
  fh h:=by obtain ⟨O,a,a2,c2,rfl,m1,m2⟩:=h;rfl
  up le h:=by obtain ⟨O,a,a2,c2,rfl,m1,m2⟩:=h;exact ⟨O,a,a2,c2,rfl,m1.up le,m2.up le⟩
  sg h:=by obtain ⟨O,a,a2,c2,rfl,m1,m2⟩:=h;rfl
theorem Zb.i {μ:M}{l:List Value}{x:Zb}(h:∃ O a a2 c2,l=[.int .i64 x.Kind,S x.Name,.int .i64 x.We.Kind,S x.We.re,.int .i64 x.Pe.Kind,S x.Pe.re,.int .i64 x.Ug,.slice O x.Params.length a,.slice a2 x.Body.length c2]∧Ca μ O a x.Params∧Ca μ a2 c2 x.Body):Va.cs μ l x:=h
structure Ii where
  Eu:List UInt8
  Writer:List UInt8
  Reader:List UInt8
  deriving DecidableEq,Inhabited,Repr
instance:Va Ii where
  sz:=3
  pos:=by decide
  cs μ l x:=l=[S x.Eu,S x.Writer,S x.Reader]
  fh h:=by obtain rfl:=h;rfl
  up le h:=by exact h
  sg h:=by obtain rfl:=h;rfl
instance:sh Lc:=⟨Nn,Nn.up⟩
instance:sh Zb:=⟨Pl,Pl.up⟩
structure Mf where
  defs:List Zb
  named:List (List UInt8×Zb)
  deriving Inhabited,Repr
structure Cg where
  calls:List (List UInt8)
  Gl:List (List UInt8)
  Hl:List (List UInt8)
  deriving DecidableEq,Inhabited,Repr
instance:Va Cg where
  sz:=3
  pos:=by decide
  cs μ l x:=∃ O a a2 c2 a3 c3,l=[.slice O x.calls.length a,.slice a2 x.Gl.length c2,.slice a3 x.Hl.length c3]∧Ca μ O a x.calls∧Ca μ a2 c2 x.Gl∧Ca μ a3 c3 x.Hl
  fh h:=by obtain ⟨O,a,a2,c2,a3,c3,rfl,m1,m2,m3⟩:=h;rfl
  up le h:=by obtain ⟨O,a,a2,c2,a3,c3,rfl,m1,m2,m3⟩:=h;exact ⟨O,a,a2,c2,a3,c3,rfl,m1.up le,m2.up le,m3.up le⟩
  sg h:=by obtain ⟨O,a,a2,c2,a3,c3,rfl,m1,m2,m3⟩:=h;rfl
theorem Cg.i {μ:M}{l:List Value}{x:Cg}(h:∃ O a a2 c2 a3 c3,l=[.slice O x.calls.length a,.slice a2 x.Gl.length c2,.slice a3 x.Hl.length c3]∧Ca μ O a x.calls∧Ca μ a2 c2 x.Gl∧Ca μ a3 c3 x.Hl):Va.cs μ l x:=h
structure uh where
  Sm:List (List UInt8×Int)
  once:Bool
  deriving DecidableEq,Inhabited,Repr
instance:Va uh where
  sz:=2
  pos:=by decide
  cs μ l x:=∃ L,l=[.map (some L),.bool x.once]∧Yf μ L x.Sm
  fh h:=by obtain ⟨L,rfl,m1⟩:=h;rfl
  up le h:=by obtain ⟨L,rfl,m1⟩:=h;exact ⟨L,rfl,m1.up le⟩
  sg h:=by obtain ⟨L,rfl,m1⟩:=h;rfl
theorem uh.i {μ:M}{l:List Value}{x:uh}(h:∃ L,l=[.map (some L),.bool x.once]∧Yf μ L x.Sm):Va.cs μ l x:=h
structure xh where
  boxes:List (List UInt8×Int)
  cm:List (List UInt8×Int)
  defs:List (List UInt8×Zb)
  deriving Inhabited,Repr
instance:sh Cg:=⟨Nn,Nn.up⟩
structure Oj where
  We:Int
  Ug:Int
  deriving DecidableEq,Inhabited,Repr
instance:Va Oj where
  sz:=2
  pos:=by decide
  cs μ l x:=l=[.int .i64 x.We,.int .i64 x.Ug]
  fh h:=by obtain rfl:=h;rfl
  up le h:=by exact h
  sg h:=by obtain rfl:=h;rfl
structure zc where
  Op:Int
  A:Int
  N:Int
  deriving DecidableEq,Inhabited,Repr
instance:Va zc where
  sz:=3
  pos:=by decide
  cs μ l x:=l=[.int .i64 x.Op,.int .i64 x.A,.int .i64 x.N]
  fh h:=by obtain rfl:=h;rfl
  up le h:=by exact h
  sg h:=by obtain rfl:=h;rfl
structure Pf where
  Kind:Int
  Params:Int
  Xg:List Int
  Result:Int
  Pe:Int
  Code:List zc
  deriving DecidableEq,Inhabited,Repr
instance:Va Pf where
  sz:=6
  pos:=by decide
  cs μ l x:=∃ O a a2 c2,l=[.int .i64 x.Kind,.int .i64 x.Params,.slice O x.Xg.length a,.int .i64 x.Result,.int .i64 x.Pe,.slice a2 x.Code.length c2]∧Ca μ O a x.Xg∧Ca μ a2 c2 x.Code
  fh h:=by obtain ⟨O,a,a2,c2,rfl,m1,m2⟩:=h;rfl
  up le h:=by obtain ⟨O,a,a2,c2,rfl,m1,m2⟩:=h;exact ⟨O,a,a2,c2,rfl,m1.up le,m2.up le⟩
  sg h:=by obtain ⟨O,a,a2,c2,rfl,m1,m2⟩:=h;rfl
theorem Pf.i {μ:M}{l:List Value}{x:Pf}(h:∃ O a a2 c2,l=[.int .i64 x.Kind,.int .i64 x.Params,.slice O x.Xg.length a,.int .i64 x.Result,.int .i64 x.Pe,.slice a2 x.Code.length c2]∧Ca μ O a x.Xg∧Ca μ a2 c2 x.Code):Va.cs μ l x:=h
structure Hd where
  Qd:List Oj
  Nd:List Pf
  deriving DecidableEq,Inhabited,Repr
instance:Va Hd where
  sz:=2
  pos:=by decide
  cs μ l x:=∃ O a a2 c2,l=[.slice O x.Qd.length a,.slice a2 x.Nd.length c2]∧Ca μ O a x.Qd∧Ca μ a2 c2 x.Nd
  fh h:=by obtain ⟨O,a,a2,c2,rfl,m1,m2⟩:=h;rfl
  up le h:=by obtain ⟨O,a,a2,c2,rfl,m1,m2⟩:=h;exact ⟨O,a,a2,c2,rfl,m1.up le,m2.up le⟩
  sg h:=by obtain ⟨O,a,a2,c2,rfl,m1,m2⟩:=h;rfl
theorem Hd.i {μ:M}{l:List Value}{x:Hd}(h:∃ O a a2 c2,l=[.slice O x.Qd.length a,.slice a2 x.Nd.length c2]∧Ca μ O a x.Qd∧Ca μ a2 c2 x.Nd):Va.cs μ l x:=h
structure wg where
  ih:Int
  Unit:Int
  tc:Int
  deriving DecidableEq,Inhabited,Repr
structure Ud where
  stack:List Int
  has:List Bool
  deriving DecidableEq,Inhabited,Repr
structure He where
  m:Option Hd
  deriving DecidableEq,Inhabited,Repr
instance:Va He where
  sz:=1
  pos:=by decide
  cs μ l x:=∃ v1,l=[v1]∧Te μ v1 x.m
  fh h:=by obtain ⟨v1,rfl,m1⟩:=h;rfl
  up le h:=by obtain ⟨v1,rfl,m1⟩:=h;exact ⟨v1,rfl,m1.up le⟩
  sg h:=by obtain ⟨v1,rfl,m1⟩:=h;simp [m1.ee]
theorem He.i {μ:M}{l:List Value}{x:He}(h:∃ v1,l=[v1]∧Te μ v1 x.m):Va.cs μ l x:=h
end Go.Y
namespace Go.Y
open Go.bc Go.Xc
def xI:List UInt8:=[32,98,111,120,32,102,110,32,103,101,110,32,116,97,115,107,32,116,97,107,101,115,32,121,105,101,108,100,115,32,108,101,116,32,105,102,32,101,108,115,101,32,119,104,105,108,101,32,114,101,116,117,114,110,32,115,116,111,112,32,115,101,110,100,32,111,117,116,32,100,111,32,114,101,99,118,32,121,105,101,108,100,32,115,116,97,114,116,32,114,101,115,117,109,101,32,97,108,105,118,101,32,110,117,109,32,98,111,111,108,32,116,114,117,101,32,102,97,108,115,101,32,97,110,100,32,111,114,32,110,111,116,32]
def ko  (p_1:UInt8):Option Bool :=
  if (97:Int)≤(p_1.toNat:Int) then
    if (p_1.toNat:Int)≤122 then
      some true
    else
      some (decide ((p_1.toNat:Int)=95))
  else
    some (decide ((p_1.toNat:Int)=95))
def uo  (p_1:UInt8):Option Bool :=
  if (48:Int)≤(p_1.toNat:Int) then
    some (decide ((p_1.toNat:Int)≤57))
  else
    some false
def vr (i13:Int) (a:Int→Option Int) (xf:Bool):Option Int :=
  if xf=true then
    (i64 (i13+1)).bind fun i33 =>
    a i33
  else
    some i13
def Un (p_1:List UInt8) (p_2:UInt8→Option Bool):Nat→Int→Option Int
  | 0,_=>none
  | n+1,i13 =>
    if i13<(p_1.length:Int) then
      (at_ p_1 i13).bind fun a =>
      (p_2 a).bind fun b =>
      vr i13 (Un p_1 p_2 n) b
    else
      vr i13 (Un p_1 p_2 n) false
def Sp (fu:Nat)  (p_1:List UInt8) (p_2:UInt8→Option Bool):Option Int :=
  Un p_1 p_2 fu 0
def ly  (p_1:UInt8):Option Bool :=
  (ko p_1).bind fun a =>
  if a=true then
    some true
  else
    (uo p_1).bind fun b =>
    some b
def my  (p_1:UInt8):Option Bool :=
  (ko p_1).bind fun a =>
  if a=true then
    some true
  else
    (uo p_1).bind fun b =>
    some b
def Rn (fu:Nat) (p_1:List UInt8) (L:Bool):Option Bool :=
  if L=true then
    some false
  else
    (Sp fu p_1 my).bind fun a =>
    some (decide (a=(p_1.length:Int)))
def Rl (fu:Nat)  (p_1:List UInt8):Option Bool :=
  if (p_1.length:Int)<1 then
    Rn fu p_1 true
  else
    if (12:Int)<(p_1.length:Int) then
      Rn fu p_1 true
    else
      (at_ p_1 0).bind fun a =>
      (ko a).bind fun b =>
      if b=true then
        (cat [32] p_1).bind fun c =>
        (cat c [32]).bind fun d =>
        (ky xI d).bind fun e =>
        Rn fu p_1 e
      else
        Rn fu p_1 true
def Kx  (p_1:List UInt8) (p_2:List UInt8):Option Bool :=
  if (p_2.length:Int)≤(p_1.length:Int) then
    (cut p_1 0 (p_2.length:Int)).bind fun s2 =>
    some (decide (s2=p_2))
  else
    some false
def ny  (p_1:List UInt8) (p_2:List UInt8):Option Bool :=
  (Kx p_1 p_2).bind fun a =>
  some a
def Ur (p_1:List UInt8):Nat→Int→Option (List UInt8)
  | 0,_=>none
  | n+1,i18 =>
    if i18<18 then
      (at_ [[61,61],[33,61],[60,61],[62,61],[60],[62],[61],[43],[45],[42],[47],[37],[40],[41],[123],[125],[44],[59]] i18).bind fun a =>
      (ny p_1 a).bind fun b =>
      if b=true then
        some a
      else
        (i64 (i18+1)).bind fun i46 =>
        Ur p_1 n i46
    else
      none
def fx  (p_1:List UInt8):Option (List UInt8):=
  Ur p_1 19 0
def xr (i6:Int) (a:UInt8) (b:Int→Option Int) (c:Bool):Option Int :=
  if c=true then
    (i64 (i6+1)).bind fun i21 =>
    b i21
  else
    if (a.toNat:Int)=35 then
      none
    else
      some i6
def Vn (p_1:List UInt8):Nat→Int→Option Int
  | 0,_=>none
  | n+1,i6 =>
    if i6<(p_1.length:Int) then
      (at_ p_1 i6).bind fun a =>
      if (a.toNat:Int)=32 then
        xr i6 a (Vn p_1 n) (decide ((a.toNat:Int)=32))
      else
        if (a.toNat:Int)=9 then
          none
        else
          xr i6 a (Vn p_1 n) (decide ((a.toNat:Int)=10))
    else
      some i6
def qt (fu:Nat)  (p_1:List UInt8):Option Int :=
  Vn p_1 fu 0
def kp (fu:Nat) (p_1:List UInt8) (i58:Int) (b:List qc) (c:Int→(List qc)→Option (List qc×tf)) (i118:Int) (a:List UInt8) (i120:Int):Option (List qc×tf):=
  (app b [(qc.mk i118 a i120 i58)]).bind fun d =>
  (i64 (i58+(a.length:Int))).bind fun i154 =>
  (cut p_1 i154 p_1.length).bind fun e =>
  (qt fu e).bind fun f =>
  (i64 (i154+f)).bind fun i161 =>
  c i161 d
def jn (fu:Nat) (p_1:List UInt8):Nat→Int→(List qc)→Option (List qc×tf)
  | 0,_,_=>none
  | n+1,i58,b =>
    if i58<(p_1.length:Int) then
      (cut p_1 i58 p_1.length).bind fun a =>
      (at_ a 0).bind fun d =>
      (ko d).bind fun f =>
      if f=true then
        (Sp fu a ly).bind fun g =>
        (cut a 0 g).bind fun h =>
        kp fu p_1 i58 b (jn fu p_1 n) 1 h 0
      else
        (uo d).bind fun i =>
        if i=true then
          (Sp fu a uo).bind fun j =>
          (cut a 0 j).bind fun c =>
          if (15:Int)<(c.length:Int) then
            none
          else
            (Yy c).bind fun i140 =>
            kp fu p_1 i58 b (jn fu p_1 n) 2 c i140
        else
          (fx a).bind fun e =>
          if e=[] then
            none
          else
            kp fu p_1 i58 b (jn fu p_1 n) 3 e 0
    else
      some (b,(tf.mk 0 0))
def zv (fu:Nat)  (p_1:List UInt8):Option (List qc×tf):=
  if (6000:Int)<(p_1.length:Int) then
    none
  else
    (qt fu p_1).bind fun a =>
    jn fu p_1 fu a []
end Go.Y
namespace Go.Y
open Go.bc Go.Xc
def yr (p_1:Int) (L:Bool):Option Int :=
  if L=true then
    some 0
  else
    if p_1≤5 then
      none
    else
      if p_1=21 then
        none
      else
        if p_1=24 then
          none
        else
          if p_1≤18 then
            some 2
          else
            none
def Bw  (p_1:Int):Option Int :=
  if p_1≤3 then
    yr p_1 true
  else
    yr p_1 (decide (p_1=20))
def Tp  (a:Int) (p_2:Int):Option (Int×Int):=
  (i64 (a+1)).bind fun i3 =>
  if (2000:Int)<i3 then
    none
  else
    if (40:Int)<p_2 then
      none
    else
      some (0,i3)
def gx  (p_1:Lc):Option Int :=
  if p_1.Kind<1 then
    none
  else
    if (3:Int)<p_1.Kind then
      none
    else
      if p_1.Kind=3 then
        none
      else
        some 0
structure Jm where
  xl:Int→Vc→Int→Option (Int×Int)
def zr (self:Jm) (p_2:Vc) (a:Int):Nat→Int→Int→Option (Int×Int)
  | 0,_,_=>none
  | n+1,i61,i62 =>
    if i61<(p_2.Kids.length:Int) then
      (at_ p_2.Kids i61).bind fun c =>
      (i64 (a+1)).bind fun i94 =>
      (self.xl i62 c i94).bind fun b =>
      if b.1≠0 then
        none
      else
        (i64 (i61+1)).bind fun i100 =>
        zr self p_2 a n i100 b.2
    else
      some (0,i62)
def qp (self:Jm) (p_2:Vc) (b:Int) (c:Int×Int) (a:Int) (d:Bool):Option (Int×Int):=
  if d=true then
    none
  else
    if (0:Int)≤a then
      if (p_2.Kids.length:Int)≠a then
        none
      else
        if a<0 then
          none
        else
          zr self p_2 b (p_2.Kids.length+1) 0 c.2
    else
      none
def Ar (fu:Nat) (self:Jm) (p_2:Vc) (b:Int) (c:Int×Int) (a:Int) (d:Bool):Option (Int×Int):=
  if d=true then
    none
  else
    if p_2.Kind=3 then
      (Rl fu p_2.Name).bind fun e =>
      qp self p_2 b c a (!e)
    else
      if p_2.Kind=20 then
        (Rl fu p_2.Name).bind fun f =>
        qp self p_2 b c a (!f)
      else
        if a<0 then
          none
        else
          qp self p_2 b c a false
def Br (fu:Nat) (self:Jm) (p_2:Vc) (a:Int) (b:Int×Int) (c:Int) (Hg:Bool):Option (Int×Int):=
  if Hg=true then
    none
  else
    if p_2.Kind=2 then
      if p_2.N≠0 then
        Ar fu self p_2 a b c (decide (p_2.N≠1))
      else
        none
    else
      Ar fu self p_2 a b c false
def xl (fu:Nat) (self:Jm) (d:Int) (p_2:Vc) (a:Int):Option (Int×Int):=
  (Tp d a).bind fun b =>
  if b.1≠0 then
    none
  else
    if p_2.Kind<1 then
      none
    else
      if (24:Int)<p_2.Kind then
        none
      else
        (Bw p_2.Kind).bind fun c =>
        if p_2.Kind=1 then
          if p_2.N<0 then
            none
          else
            Br fu self p_2 a b c (decide ((999999999999999:Int)<p_2.N))
        else
          Br fu self p_2 a b c false
def dv:Nat→Jm
  | 0=>⟨fun _ _ _=>none⟩
  | n+1=>⟨xl n (dv n)⟩
structure zl where
  Dk:Int→(List Cd)→Int→Option (Int×Int)
  Dm:Int→Cd→Int→Option (Int×Int)
def dr (self:zl) (p_2:List Cd) (a:Int):Nat→Int→Int→Option (Int×Int)
  | 0,_,_=>none
  | n+1,i29,i30 =>
    if i29<(p_2.length:Int) then
      (at_ p_2 i29).bind fun c =>
      (self.Dm i30 c a).bind fun b =>
      if b.1≠0 then
        none
      else
        (i64 (i29+1)).bind fun i76 =>
        dr self p_2 a n i76 b.2
    else
      some (0,i30)
def Dk (self:zl) (a:Int) (p_2:List Cd) (b:Int):Option (Int×Int):=
  if (50:Int)<(p_2.length:Int) then
    none
  else
    dr self p_2 b (p_2.length+1) 0 a
def Cr (self:zl) (p_2:Cd) (b:Int) (i46:Int):Option (Int×Int):=
  if p_2.Kind=3 then
    (i64 (b+1)).bind fun i56 =>
    (self.Dk i46 p_2.Di i56).bind fun a =>
    some (a.1,a.2)
  else
    some (0,i46)
def Dr (self:zl) (p_2:Cd) (a:Int) (b:Int×Int) (d:Bool):Option (Int×Int):=
  if d=true then
    (i64 (a+1)).bind fun i48 =>
    (self.Dk b.2 p_2.Body i48).bind fun c =>
    if c.1≠0 then
      none
    else
      Cr self p_2 a c.2
  else
    Cr self p_2 a b.2
def Wn (fu:Nat) (self:zl) (p_2:Cd) (a:Int) (c:Int×Int) (mi:Bool):Option (Int×Int):=
  if mi=true then
    none
  else
    if p_2.Kind=6 then
      none
    else
      (i64 (a+1)).bind fun i37 =>
      ((dv fu).xl c.2 p_2.X i37).bind fun b =>
      if b.1≠0 then
        none
      else
        if p_2.Kind=3 then
          Dr self p_2 a b true
        else
          Dr self p_2 a b (decide (p_2.Kind=4))
def Dm (fu:Nat) (self:zl) (c:Int) (p_2:Cd) (a:Int):Option (Int×Int):=
  (Tp c a).bind fun b =>
  if b.1≠0 then
    none
  else
    if p_2.Kind<1 then
      none
    else
      if (9:Int)<p_2.Kind then
        none
      else
        if p_2.Kind=1 then
          (Rl fu p_2.Name).bind fun d =>
          Wn fu self p_2 a b (!d)
        else
          if p_2.Kind=2 then
            (Rl fu p_2.Name).bind fun e =>
            Wn fu self p_2 a b (!e)
          else
            if p_2.Kind=7 then
              (Rl fu p_2.Name).bind fun f =>
              Wn fu self p_2 a b (!f)
            else
              Wn fu self p_2 a b false
def Er:Nat→zl
  | 0=>⟨fun _ _ _=>none,fun _ _ _=>none⟩
  | n+1=>⟨Dk (Er n),Dm n (Er n)⟩
def Vr (fu:Nat) (p_2:Zb) (a:Int×Int):Option (Int×Int):=
  if p_2.Kind≠1 then
    ((Er fu).Dk a.2 p_2.Body 2).bind fun b =>
    some (b.1,b.2)
  else
    if p_2.Ug<1 then
      none
    else
      if (20:Int)<p_2.Ug then
        none
      else
        some (0,a.2)
def hx (fu:Nat)  (b:Int) (p_2:Zb):Option (Int×Int):=
  (Tp b 1).bind fun a =>
  if a.1≠0 then
    none
  else
    if p_2.Kind<1 then
      none
    else
      if (4:Int)<p_2.Kind then
        none
      else
        (Rl fu p_2.Name).bind fun c =>
        if c=true then
          if p_2.Kind=2 then
            none
          else
            if p_2.Kind=3 then
              none
            else
              if p_2.Kind=3 then
                none
              else
                if p_2.Kind≠4 then
                  (gx p_2.We).bind fun d =>
                  if d≠0 then
                    none
                  else
                    Vr fu p_2 a
                else
                  Vr fu p_2 a
        else
          none
def er (fu:Nat) (p_1:List Zb):Nat→Int→Int→Option tf
  | 0,_,_=>none
  | n+1,i28,i29 =>
    if i28<(p_1.length:Int) then
      (at_ p_1 i28).bind fun b =>
      (hx fu i29 b).bind fun a =>
      if a.1≠0 then
        none
      else
        (i64 (i28+1)).bind fun i69 =>
        er fu p_1 n i69 a.2
    else
      some (tf.mk 0 0)
def Ns (fu:Nat)  (p_1:List Zb):Option tf :=
  if (30:Int)<(p_1.length:Int) then
    none
  else
    er fu p_1 (p_1.length+1) 0 0
end Go.Y
namespace Go.Y
open Go.bc Go.Xc
def wu  (a:List qc) (c:Int) (d:Int):Option Int :=
  if (a.length:Int)=0 then
    none
  else
    (at_ a 0).bind fun b =>
    some b.tc
def Dl  (a:List qc) (c:Int) (d:Int) (p_2:List UInt8):Option Bool :=
  if (0:Int)<(a.length:Int) then
    (at_ a 0).bind fun b =>
    some (decide (b.Text=p_2))
  else
    none
def xg  (a:List qc) (b:Int) (c:Int) (p_2:List UInt8):Option (Bool×List qc×Int×Int):=
  (Dl a b c p_2).bind fun d =>
  if d=true then
    (cut a 1 a.length).bind fun e =>
    some (true,e,b,c)
  else
    some (false,a,b,c)
def Ps (p_2:List (List UInt8)):Nat→Int→(List qc)→Int→Int→Option (List qc×Int×Int)
  | 0,_,_,_,_=>none
  | n+1,i30,b,i35,i36 =>
    if i30<(p_2.length:Int) then
      (at_ p_2 i30).bind fun c =>
      (xg b i35 i36 c).bind fun a =>
      if a.1=true then
        (i64 (i30+1)).bind fun i71 =>
        Ps p_2 n i71 a.2.1 a.2.2.1 a.2.2.2
      else
        none
    else
      some (b,i35,i36)
def Zl  (a:List qc) (b:Int) (c:Int) (p_2:List (List UInt8)):Option (List qc×Int×Int):=
  Ps p_2 (p_2.length+1) 0 a b c
def bm (fu:Nat)  (a:List qc) (c:Int) (d:Int):Option (List UInt8×List qc×Int×Int):=
  if (a.length:Int)=0 then
    none
  else
    (at_ a 0).bind fun e =>
    if e.Kind≠1 then
      none
    else
      (at_ a 0).bind fun b =>
      (Rl fu b.Text).bind fun f =>
      if f=true then
        (cut a 1 a.length).bind fun g =>
        some (b.Text,g,c,d)
      else
        none
def tt  (a:List qc) (b:Int) (c:Int):Option (Int×List qc×Int×Int):=
  if (a.length:Int)=0 then
    none
  else
    (at_ a 0).bind fun d =>
    if d.Kind≠2 then
      none
    else
      (at_ a 0).bind fun e =>
      (cut a 1 a.length).bind fun f =>
      some (e.rC,f,b,c)
def oy  (b:List qc) (c:Int) (d:Int):Option (Lc×List qc×Int×Int):=
  (xg b c d [110,117,109]).bind fun a =>
  if a.1=true then
    some ((Lc.mk 1 []),a.2.1,a.2.2.1,a.2.2.2)
  else
    none
def Cw  :Option (List uh):=
  some [(uh.mk (pe ([]:List (List UInt8×Int)) [111,114] 18) false),(uh.mk (pe ([]:List (List UInt8×Int)) [97,110,100] 17) false),(uh.mk (pe (pe (pe (pe (pe (pe ([]:List (List UInt8×Int)) [61,61] 11) [33,61] 12) [60] 13) [60,61] 14) [62] 15) [62,61] 16) true),(uh.mk (pe (pe ([]:List (List UInt8×Int)) [43] 6) [45] 7) false),(uh.mk (pe (pe (pe ([]:List (List UInt8×Int)) [42] 8) [47] 9) [37] 10) false)]
def du  (a:List qc) (b:Int) (c:Int):Option (List qc×Int×Int):=
  (i64 (c+1)).bind fun i14 =>
  if (200:Int)<i14 then
    none
  else
    some (a,b,i14)
def ou  (a:List qc) (b:Int) (c:Int):Option (List qc×Int×Int):=
  (i64 (c - 1)).bind fun i12 =>
  some (a,b,i12)
end Go.Y
namespace Go.Y
open Go.bc Go.Xc
structure hl where
  Yi:(List qc)→Int→Int→Option (Vc×List qc×Int×Int)
  Gk:(List qc)→Int→Int→Int→Option (Vc×List qc×Int×Int)
  Km:(List qc)→Int→Int→Option (Vc×List qc×Int×Int)
  Sl:(List qc)→Int→Int→Option (Vc×List qc×Int×Int)
def Yi (self:hl) (d:List qc) (e:Int) (f:Int):Option (Vc×List qc×Int×Int):=
  (du d e f).bind fun b =>
  (self.Gk b.1 b.2.1 b.2.2 0).bind fun a =>
  (ou a.2.1 a.2.2.1 a.2.2.2).bind fun c =>
  some (a.1,c.1,c.2.1,c.2.2)
def Wr  (a:List qc) (i50:Int) (i51:Int) (i52:Int) (i53:Int) (b:List UInt8) (c:List Vc):Option (Vc×List qc×Int×Int):=
  some ((Vc.mk i52 i53 b c),a,i50,i51)
def Av (p_2:Int) (e:List uh) (a:uh) (b:qc) (f:(List qc)→Int→Int→Int→Int→(List UInt8)→(List Vc)→Option (Vc×List qc×Int×Int)) (c:List qc) (i217:Int) (i218:Int) (d:List Vc):Option (Vc×List qc×Int×Int):=
  (at_ e p_2).bind fun g =>
  if g.once=true then
    Wr c i217 i218 ((Ge a.Sm b.Text).getD 0) 0 [] d
  else
    f c i217 i218 ((Ge a.Sm b.Text).getD 0) 0 [] d
def Ep (self:hl) (p_2:Int) (c:List uh):Nat→(List qc)→Int→Int→Int→Int→(List UInt8)→(List Vc)→Option (Vc×List qc×Int×Int)
  | 0,_,_,_,_,_,_,_=>none
  | n+1,a,i116,i117,i118,i119,d,e =>
    if (0:Int)<(a.length:Int) then
      (at_ c p_2).bind fun f =>
      (at_ a 0).bind fun g =>
      if ((Ge f.Sm g.Text).getD 0)=0 then
        Wr a i116 i117 i118 i119 d e
      else
        (cut a 1 a.length).bind fun h =>
        (i64 (p_2+1)).bind fun i231 =>
        (self.Gk h i116 i117 i231).bind fun b =>
        Av p_2 c f g (Ep self p_2 c n) b.2.1 b.2.2.1 b.2.2.2 [(Vc.mk i118 i119 d e),b.1]
    else
      none
def Gk (fu:Nat) (self:hl) (c:List qc) (d:Int) (e:Int) (p_2:Int):Option (Vc×List qc×Int×Int):=
  (Cw ).bind fun f =>
  if p_2=(f.length:Int) then
    (self.Km c d e).bind fun b =>
    some (b.1,b.2.1,b.2.2.1,b.2.2.2)
  else
    (i64 (p_2+1)).bind fun i33 =>
    (self.Gk c d e i33).bind fun a =>
    Ep self p_2 f fu a.2.1 a.2.2.1 a.2.2.2 a.1.Kind a.1.N a.1.Name a.1.Kids
def Km (self:hl) (d:List qc) (e:Int) (f:Int):Option (Vc×List qc×Int×Int):=
  (xg d e f [45]).bind fun a =>
  if a.1=true then
    none
  else
    (xg a.2.1 a.2.2.1 a.2.2.2 [110,111,116]).bind fun b =>
    if b.1=true then
      none
    else
      (self.Sl b.2.1 b.2.2.1 b.2.2.2).bind fun c =>
      some (c.1,c.2.1,c.2.2.1,c.2.2.2)
def Sl (fu:Nat) (self:hl) (d:List qc) (o:Int) (p:Int):Option (Vc×List qc×Int×Int):=
  if (0:Int)<(d.length:Int) then
    (at_ d 0).bind fun q =>
    if q.Kind=2 then
      (tt d o p).bind fun e =>
      some ((Vc.mk 1 e.1 [] ([]:List Vc)),e.2.1,e.2.2.1,e.2.2.2)
    else
      (xg d o p [116,114,117,101]).bind fun a =>
      if a.1=true then
        some ((Vc.mk 2 1 [] ([]:List Vc)),a.2.1,a.2.2.1,a.2.2.2)
      else
        (xg a.2.1 a.2.2.1 a.2.2.2 [102,97,108,115,101]).bind fun f =>
        if f.1=true then
          none
        else
          (xg f.2.1 f.2.2.1 f.2.2.2 [40]).bind fun g =>
          if g.1=true then
            none
          else
            (xg g.2.1 g.2.2.1 g.2.2.2 [114,101,99,118]).bind fun b =>
            if b.1=true then
              (Zl b.2.1 b.2.2.1 b.2.2.2 [[40]]).bind fun m =>
              (bm fu m.1 m.2.1 m.2.2).bind fun h =>
              (Zl h.2.1 h.2.2.1 h.2.2.2 [[41]]).bind fun n =>
              some ((Vc.mk 20 0 h.1 ([]:List Vc)),n.1,n.2.1,n.2.2)
            else
              (xg b.2.1 b.2.2.1 b.2.2.2 [121,105,101,108,100]).bind fun i =>
              if i.1=true then
                none
              else
                (xg i.2.1 i.2.2.1 i.2.2.2 [114,101,115,117,109,101]).bind fun j =>
                if j.1=true then
                  none
                else
                  (xg j.2.1 j.2.2.1 j.2.2.2 [97,108,105,118,101]).bind fun k =>
                  if k.1=true then
                    none
                  else
                    (xg k.2.1 k.2.2.1 k.2.2.2 [115,116,97,114,116]).bind fun l =>
                    if l.1=true then
                      none
                    else
                      (bm fu l.2.1 l.2.2.1 l.2.2.2).bind fun c =>
                      (Dl c.2.1 c.2.2.1 c.2.2.2 [40]).bind fun r =>
                      if r=true then
                        none
                      else
                        some ((Vc.mk 3 0 c.1 ([]:List Vc)),c.2.1,c.2.2.1,c.2.2.2)
  else
    none
def Wk:Nat→hl
  | 0=>⟨fun _ _ _=>none,fun _ _ _ _=>none,fun _ _ _=>none,fun _ _ _=>none⟩
  | n+1=>⟨Yi (Wk n),Gk n (Wk n),Km (Wk n),Sl n (Wk n)⟩
structure Gn where
  Yj:(List qc)→Int→Int→Option (List Cd×List qc×Int×Int)
  Pm:(List qc)→Int→Int→Option (Cd×List qc×Int×Int)
def Qs (self:Gn):Nat→(List qc)→Int→Int→(List Cd)→Option (List Cd×List qc×Int×Int)
  | 0,_,_,_,_=>none
  | n+1,e,i65,i66,c =>
    (xg e i65 i66 [125]).bind fun a =>
    if a.1=true then
      (ou a.2.1 a.2.2.1 a.2.2.2).bind fun d =>
      some (c,d.1,d.2.1,d.2.2)
    else
      if (c.length:Int)=50 then
        none
      else
        (self.Pm a.2.1 a.2.2.1 a.2.2.2).bind fun b =>
        (app c [b.1]).bind fun f =>
        Qs self n b.2.1 b.2.2.1 b.2.2.2 f
def Yj (fu:Nat) (self:Gn) (c:List qc) (d:Int) (e:Int):Option (List Cd×List qc×Int×Int):=
  (du c d e).bind fun a =>
  (Zl a.1 a.2.1 a.2.2 [[123]]).bind fun b =>
  Qs self fu b.1 b.2.1 b.2.2 []
def lo  (b:List qc) (i28:Int) (i29:Int) (i30:Int) (c:List UInt8) (i33:Int) (i34:Int) (d:List UInt8) (e:List Vc):Option (Cd×List qc×Int×Int):=
  (Zl b i28 i29 [[59]]).bind fun a =>
  some ((Cd.mk i30 c (Vc.mk i33 i34 d e) ([]:List Cd) ([]:List Cd)),a.1,a.2.1,a.2.2)
def Rs (a:Vc×List qc×Int×Int) (b:List Cd×List qc×Int×Int) (c:List qc) (i75:Int) (i76:Int) (d:List Cd):Option (Cd×List qc×Int×Int):=
  some ((Cd.mk 3 [] (Vc.mk a.1.Kind a.1.N a.1.Name a.1.Kids) b.1 d),c,i75,i76)
def Pm (fu:Nat) (self:Gn) (x:List qc) (y:Int) (z:Int):Option (Cd×List qc×Int×Int):=
  (xg x y z [105,102]).bind fun a =>
  if a.1=true then
    ((Wk fu).Yi a.2.1 a.2.2.1 a.2.2.2).bind fun l =>
    (self.Yj l.2.1 l.2.2.1 l.2.2.2).bind fun m =>
    (xg m.2.1 m.2.2.1 m.2.2.2 [101,108,115,101]).bind fun b =>
    if b.1=true then
      (self.Yj b.2.1 b.2.2.1 b.2.2.2).bind fun n =>
      Rs l m n.2.1 n.2.2.1 n.2.2.2 n.1
    else
      Rs l m b.2.1 b.2.2.1 b.2.2.2 []
  else
    (xg a.2.1 a.2.2.1 a.2.2.2 [119,104,105,108,101]).bind fun c =>
    if c.1=true then
      ((Wk fu).Yi c.2.1 c.2.2.1 c.2.2.2).bind fun d =>
      (self.Yj d.2.1 d.2.2.1 d.2.2.2).bind fun o =>
      some ((Cd.mk 4 [] (Vc.mk d.1.Kind d.1.N d.1.Name d.1.Kids) o.1 ([]:List Cd)),o.2.1,o.2.2.1,o.2.2.2)
    else
      (xg c.2.1 c.2.2.1 c.2.2.2 [108,101,116]).bind fun e =>
      if e.1=true then
        (bm fu e.2.1 e.2.2.1 e.2.2.2).bind fun p =>
        (Zl p.2.1 p.2.2.1 p.2.2.2 [[61]]).bind fun v =>
        ((Wk fu).Yi v.1 v.2.1 v.2.2).bind fun f =>
        lo f.2.1 f.2.2.1 f.2.2.2 1 p.1 f.1.Kind f.1.N f.1.Name f.1.Kids
      else
        (xg e.2.1 e.2.2.1 e.2.2.2 [114,101,116,117,114,110]).bind fun q =>
        if q.1=true then
          none
        else
          (xg q.2.1 q.2.2.1 q.2.2.2 [115,116,111,112]).bind fun r =>
          if r.1=true then
            none
          else
            (xg r.2.1 r.2.2.1 r.2.2.2 [115,101,110,100]).bind fun g =>
            if g.1=true then
              (bm fu g.2.1 g.2.2.1 g.2.2.2).bind fun s =>
              ((Wk fu).Yi s.2.1 s.2.2.1 s.2.2.2).bind fun h =>
              lo h.2.1 h.2.2.1 h.2.2.2 7 s.1 h.1.Kind h.1.N h.1.Name h.1.Kids
            else
              (xg g.2.1 g.2.2.1 g.2.2.2 [111,117,116]).bind fun i =>
              if i.1=true then
                ((Wk fu).Yi i.2.1 i.2.2.1 i.2.2.2).bind fun j =>
                lo j.2.1 j.2.2.1 j.2.2.2 8 [] j.1.Kind j.1.N j.1.Name j.1.Kids
              else
                (xg i.2.1 i.2.2.1 i.2.2.2 [100,111]).bind fun t =>
                if t.1=true then
                  none
                else
                  (bm fu t.2.1 t.2.2.1 t.2.2.2).bind fun u =>
                  (Zl u.2.1 u.2.2.1 u.2.2.2 [[61]]).bind fun w =>
                  ((Wk fu).Yi w.1 w.2.1 w.2.2).bind fun k =>
                  lo k.2.1 k.2.2.1 k.2.2.2 2 u.1 k.1.Kind k.1.N k.1.Name k.1.Kids
def vt:Nat→Gn
  | 0=>⟨fun _ _ _=>none,fun _ _ _=>none⟩
  | n+1=>⟨Yj n (vt n),Pm n (vt n)⟩
def py (fu:Nat)  (k:List qc) (l:Int) (m:Int):Option (Zb×List qc×Int×Int):=
  (wu k l m).bind fun n =>
  (xg k l m [98,111,120]).bind fun b =>
  if b.1=true then
    (bm fu b.2.1 b.2.2.1 b.2.2.2).bind fun d =>
    (oy d.2.1 d.2.2.1 d.2.2.2).bind fun a =>
    (wu a.2.1 a.2.2.1 a.2.2.2).bind fun o =>
    (tt a.2.1 a.2.2.1 a.2.2.2).bind fun c =>
    if c.1<1 then
      none
    else
      if (20:Int)<c.1 then
        none
      else
        (Zl c.2.1 c.2.2.1 c.2.2.2 [[59]]).bind fun j =>
        some ((Zb.mk 1 d.1 (Lc.mk a.1.Kind a.1.re) (Lc.mk 0 []) c.1 ([]:List TParam) ([]:List Cd)),j.1,j.2.1,j.2.2)
  else
    (xg b.2.1 b.2.2.1 b.2.2.2 [102,110]).bind fun e =>
    if e.1=true then
      none
    else
      (xg e.2.1 e.2.2.1 e.2.2.2 [103,101,110]).bind fun f =>
      if f.1=true then
        none
      else
        (xg f.2.1 f.2.2.1 f.2.2.2 [116,97,115,107]).bind fun g =>
        if g.1=true then
          (bm fu g.2.1 g.2.2.1 g.2.2.2).bind fun h =>
          ((vt fu).Yj h.2.1 h.2.2.1 h.2.2.2).bind fun i =>
          some ((Zb.mk 4 h.1 (Lc.mk 0 []) (Lc.mk 0 []) 0 ([]:List TParam) i.1),i.2.1,i.2.2.1,i.2.2.2)
        else
          none
end Go.Y
namespace Go.Y
open Go.bc Go.Xc
theorem DF {α:Type}{l:List qc}{e d:Int}{k1 b:List UInt8}(m:¬ k1=b){A B C:Bool×List qc×Int×Int→Option α}{r:α}
    (h:(Option.bind (xg l e d k1) fun x=>if x.1=true then A x else Option.bind (xg x.2.1 x.2.2.1 x.2.2.2 b) fun y=>if y.1=true then B y else C y)=some r) :
    (Option.bind (xg l e d b) fun y=>if y.1=true then B y else Option.bind (xg y.2.1 y.2.2.1 y.2.2.2 k1) fun x=>if x.1=true then A x else C x)=some r:=by
  have key:∀ k,(Dl l e d k=some false∧xg l e d k=some (false,l,e,d))∨(∃ t a,l=t::a∧t.Text=k∧xg l e d k=some (true,a,e,d)):=by
    intro k;cases l with
    | nil=>first | (left; simp [Dl,xg]; done) | (exfalso; simp [Dl,xg] at h)
    | cons t a =>
      by_cases c:t.Text=k
      · right;refine ⟨t,a,rfl,c,?_⟩;have f:(0:Int)<((a.length+1:Nat):Int):=by omega
        have n:(1:Int)≤((a.length+1:Nat):Int):=by omega
        have hc:cut (t::a) 1 ((t::a).length)=some a:=by
          unfold cut;rw [if_pos ⟨by omega,by simpa using n,by simp⟩];simp
        have o:Dl (t::a) e d k=some true:=by
          unfold Dl;rw [if_pos (by simp)];simp [at_,c]
        unfold xg;rw [o,Option.bind_some];simp only [if_true];rw [hc];rfl
      · left;have f:(0:Int)<((a.length+1:Nat):Int):=by omega
        simp [xg,Dl,at_,c,f]
  rcases key k1 with ⟨s1,i1⟩ | ⟨t,a,g,i,i1⟩
  · rw [i1,Option.bind_some] at h;simp only [Bool.false_eq_true,if_false] at h;rcases key b with ⟨s2,i2⟩ | ⟨t,a,g,i,i2⟩
    · rw [i2,Option.bind_some] at h ⊢;simp only [Bool.false_eq_true,if_false] at h ⊢;rw [i1,Option.bind_some];simpa using h
    · rw [i2,Option.bind_some] at h ⊢;simp only [if_true] at h ⊢;exact h
  · rw [i1,Option.bind_some] at h;simp only [if_true] at h;rcases key b with ⟨s2,i2⟩ | ⟨t2,q,j,p,i2⟩
    · rw [i2,Option.bind_some];simp only [Bool.false_eq_true,if_false];rw [i1,Option.bind_some];simpa using h
    · rw [g] at j;obtain ⟨rfl,rfl⟩:=List.cons.inj j;exact absurd (i.symm.trans p) m
end Go.Y
namespace Go.Y
open Go.bc Go.Xc
def CB:Option Unit:=some ()
def ev (a:(List qc)→Int→Int→(List Zb)→Option (List Zb×tf)) (b:List qc) (i75:Int) (i76:Int) (c:List Zb):Option (List Zb×tf):=
  a b i75 i76 c
def fv (a:List qc×tf) (b:List Zb):Option (List Zb×tf):=
  (CB ).bind fun c =>
  some (b,a.2)
def rp (fu:Nat) (c:List qc×tf):Nat→(List qc)→Int→Int→(List Zb)→Option (List Zb×tf)
  | 0,_,_,_,_=>none
  | n+1,d,i41,i42,a =>
    if (0:Int)<(d.length:Int) then
      if (a.length:Int)=30 then
        none
      else
        (py fu d i41 i42).bind fun b =>
        (app a [b.1]).bind fun e =>
        ev (rp fu c n) b.2.1 b.2.2.1 b.2.2.2 e
    else
      (Ns fu a).bind fun f =>
      if f.ih≠0 then
        none
      else
        fv c a
def Dw (fu:Nat)  (p_1:List UInt8):Option (List Zb×tf):=
  (zv fu p_1).bind fun a =>
  if a.2.ih≠0 then
    none
  else
    rp fu a fu a.1 (p_1.length:Int) 0 []
end Go.Y
namespace Go.Y
open Go.bc Go.Xc
def bo  (p_1:Lc):Option Bool :=
  some (decide (p_1.Kind≠3))
def Ss  (p_1:Mf) (p_2:Int) (a:List UInt8):Option (Option Zb×Bool):=
  if (Ge p_1.named a).isSome=true then
    ((Ge p_1.named a)).bind fun b =>
    some ((Ge p_1.named a),decide (b.Kind=p_2))
  else
    none
def Ts  (p_1:Lc):Option Lc :=
  (bo p_1).bind fun a =>
  if a=true then
    some (Lc.mk p_1.Kind [])
  else
    none
def Up  :Option Lc :=
  some (Lc.mk 1 [])
def Sn  :Option Lc :=
  some (Lc.mk 2 [])
def gr (p_2:List UInt8) (a:List (List (List UInt8×Lc))):Nat→Int→Option (Lc×Bool)
  | 0,_=>none
  | n+1,i48 =>
    if (0:Int)≤i48 then
      (at_ a i48).bind fun b =>
      if (Ge b p_2).isSome=true then
        some (((Ge b p_2).getD (Lc.mk 0 [])),true)
      else
        (i64 (i48 - 1)).bind fun i88 =>
        gr p_2 a n i88
    else
      some ((Lc.mk 0 []),false)
def Mp (fu:Nat)  (b:Mf) (c:Zb) (a:List (List (List UInt8×Lc))) (p_2:List UInt8):Option (Lc×Bool):=
  (i64 ((a.length:Int) - 1)).bind fun i27 =>
  gr p_2 a fu i27
structure Yk where
  Pj:Mf→Zb→(List (List (List UInt8×Lc)))→Vc→Lc→Option Int
  Bm:Mf→Zb→(List (List (List UInt8×Lc)))→Vc→Option (Lc×Int)
  tj:Mf→Zb→(List (List (List UInt8×Lc)))→Vc→Option (Lc×Int)
def Pj (self:Yk) (c:Mf) (d:Zb) (e:List (List (List UInt8×Lc))) (p_2:Vc) (f:Lc):Option Int :=
  (self.tj c d e p_2).bind fun a =>
  if a.2=0 then
    (Ts f).bind fun b =>
    if (Mk [(decide (a.1.Kind=b.Kind)),(decide (a.1.re=b.re))])=true then
      some a.2
    else
      none
  else
    none
def Bm (self:Yk) (c:Mf) (d:Zb) (e:List (List (List UInt8×Lc))) (p_2:Vc):Option (Lc×Int):=
  (at_ p_2.Kids 0).bind fun f =>
  (self.tj c d e f).bind fun a =>
  if a.2≠0 then
    none
  else
    (at_ p_2.Kids 1).bind fun g =>
    (self.tj c d e g).bind fun b =>
    if b.2=0 then
      if (Mk [(decide (a.1.Kind=b.1.Kind)),(decide (a.1.re=b.1.re))])=true then
        (bo a.1).bind fun h =>
        if h=true then
          some (a.1,b.2)
        else
          none
      else
        none
    else
      none
def hr (self:Yk) (p_2:Vc) (a:Mf) (b:Zb) (c:List (List (List UInt8×Lc))) (d:Lc) (i100:Int) (e:List UInt8):Nat→Int→Option (Lc×Int)
  | 0,_=>none
  | n+1,i124 =>
    if i124<(p_2.Kids.length:Int) then
      (at_ p_2.Kids i124).bind fun f =>
      (self.Pj a b c f d).bind fun g =>
      if g≠0 then
        none
      else
        (i64 (i124+1)).bind fun i158 =>
        hr self p_2 a b c d i100 e n i158
    else
      some ((Lc.mk i100 e),0)
def ir (self:Yk) (p_2:Vc) (a:Mf) (b:Zb) (c:List (List (List UInt8×Lc))) (d:Lc) (i100:Int) (e:List UInt8):Option (Lc×Int):=
  hr self p_2 a b c d i100 e (p_2.Kids.length+1) 0
def jr (self:Yk) (p_2:Vc) (a:Mf) (b:Zb) (c:List (List (List UInt8×Lc))) (h:Bool):Option (Lc×Int):=
  if h=true then
    (self.Bm a b c p_2).bind fun i =>
    (Sn ).bind fun j =>
    some (j,i.2)
  else
    if p_2.Kind=19 then
      none
    else
      if p_2.Kind=20 then
        (Ss a 1 p_2.Name).bind fun d =>
        if d.2=true then
          (d.1).bind fun k =>
          (Ts k.We).bind fun l =>
          some (l,0)
        else
          none
      else
        if p_2.Kind=21 then
          none
        else
          if p_2.Kind=22 then
            none
          else
            if p_2.Kind=23 then
              none
            else
              if p_2.Kind=24 then
                none
              else
                (Up ).bind fun e =>
                (Up ).bind fun f =>
                if (17:Int)≤p_2.Kind then
                  none
                else
                  if (13:Int)≤p_2.Kind then
                    (Sn ).bind fun g =>
                    ir self p_2 a b c e g.Kind g.re
                  else
                    ir self p_2 a b c e f.Kind f.re
def tj (fu:Nat) (self:Yk) (a:Mf) (b:Zb) (c:List (List (List UInt8×Lc))) (p_2:Vc):Option (Lc×Int):=
  if p_2.Kind=1 then
    (Up ).bind fun e =>
    some (e,0)
  else
    if p_2.Kind=2 then
      (Sn ).bind fun f =>
      some (f,0)
    else
      if p_2.Kind=3 then
        (Mp fu a b c p_2.Name).bind fun d =>
        if d.2=true then
          some (d.1,0)
        else
          none
      else
        if p_2.Kind=4 then
          none
        else
          if p_2.Kind=5 then
            none
          else
            if p_2.Kind=11 then
              jr self p_2 a b c (decide (p_2.Kind=11))
            else
              jr self p_2 a b c (decide (p_2.Kind=12))
def Tl:Nat→Yk
  | 0=>⟨fun _ _ _ _ _=>none,fun _ _ _ _=>none,fun _ _ _ _=>none⟩
  | n+1=>⟨Pj (Tl n),Bm (Tl n),tj n (Tl n)⟩
end Go.Y
namespace Go.Y
open Go.bc Go.Xc
def gv  (a:List (List (List UInt8×Lc))):Option (List (List (List UInt8×Lc))):=
  some a
def Ew  (c:Mf) (d:Zb) (a:List (List (List UInt8×Lc))):Option (List (List (List UInt8×Lc))):=
  (i64 ((a.length:Int) - 1)).bind fun i33 =>
  (cut a 0 i33).bind fun b =>
  gv b
structure dm where
  Bk:Mf→Zb→(List (List (List UInt8×Lc)))→(List Cd)→Option (Int×List (List (List UInt8×Lc)))
  Cm:Mf→Zb→(List (List (List UInt8×Lc)))→Cd→Option (Int×List (List (List UInt8×Lc)))
def Qq (self:dm) (p_2:List Cd) (a:Mf) (b:Zb):Nat→Int→(List (List (List UInt8×Lc)))→Option (Int×List (List (List UInt8×Lc)))
  | 0,_,_=>none
  | n+1,i74,c =>
    if i74<(p_2.length:Int) then
      (at_ p_2 i74).bind fun e =>
      (self.Cm a b c e).bind fun d =>
      if d.1≠0 then
        none
      else
        (i64 (i74+1)).bind fun i131 =>
        Qq self p_2 a b n i131 d.2
    else
      (Ew a b c).bind fun f =>
      some (0,f)
def Qu (self:dm) (p_2:List Cd) (a:Mf) (b:Zb) (c:List (List (List UInt8×Lc))):Option (Int×List (List (List UInt8×Lc))):=
  Qq self p_2 a b (p_2.length+1) 0 c
def Bk (self:dm) (a:Mf) (b:Zb) (c:List (List (List UInt8×Lc))) (p_2:List Cd):Option (Int×List (List (List UInt8×Lc))):=
  (app c [[]]).bind fun d =>
  Qu self p_2 a b d
def kr (fu:Nat) (self:dm) (p_2:Cd) (a:Mf) (c:Zb) (b:List (List (List UInt8×Lc))) (h:Bool):Option (Int×List (List (List UInt8×Lc))):=
  if h=true then
    (Sn ).bind fun i =>
    ((Tl fu).Pj a c b p_2.X i).bind fun j =>
    if j≠0 then
      none
    else
      (self.Bk a c b p_2.Body).bind fun d =>
      if d.1≠0 then
        none
      else
        if p_2.Kind=4 then
          some (d.1,d.2)
        else
          (self.Bk a c d.2 p_2.Di).bind fun f =>
          some (f.1,f.2)
  else
    if p_2.Kind=5 then
      none
    else
      if p_2.Kind=6 then
        none
      else
        if p_2.Kind=7 then
          (Ss a 1 p_2.Name).bind fun g =>
          if g.2=true then
            (g.1).bind fun k =>
            ((Tl fu).Pj a c b p_2.X k.We).bind fun l =>
            some (l,b)
          else
            none
        else
          if p_2.Kind=8 then
            ((Tl fu).tj a c b p_2.X).bind fun e =>
            if e.2=0 then
              (bo e.1).bind fun m =>
              if m=true then
                some (e.2,b)
              else
                none
            else
              none
          else
            none
def Cm (fu:Nat) (self:dm) (b:Mf) (c:Zb) (a:List (List (List UInt8×Lc))) (p_2:Cd):Option (Int×List (List (List UInt8×Lc))):=
  if p_2.Kind=1 then
    ((Tl fu).tj b c a p_2.X).bind fun d =>
    if d.2≠0 then
      none
    else
      (Mp fu b c a p_2.Name).bind fun f =>
      if f.2=true then
        none
      else
        (i64 ((a.length:Int) - 1)).bind fun i53 =>
        (at_ a i53).bind fun g =>
        some (0,(a.set i53.toNat (pe g p_2.Name d.1)))
  else
    if p_2.Kind=2 then
      (Mp fu b c a p_2.Name).bind fun e =>
      if e.2=true then
        ((Tl fu).Pj b c a p_2.X e.1).bind fun h =>
        some (h,a)
      else
        none
    else
      if p_2.Kind=3 then
        kr fu self p_2 b c a (decide (p_2.Kind=3))
      else
        kr fu self p_2 b c a (decide (p_2.Kind=4))
def Us:Nat→dm
  | 0=>⟨fun _ _ _ _=>none,fun _ _ _ _=>none⟩
  | n+1=>⟨Bk (Us n),Cm n (Us n)⟩
def lr  (a:Bool):Option Int :=
  if a=true then
    none
  else
    some 0
def Yv  (p_1:Mf) (p_2:Zb):Option Int :=
  if p_2.Kind=2 then
    none
  else
    if p_2.Kind=3 then
      none
    else
      if p_2.Kind=3 then
        none
      else
        if p_2.Kind≠4 then
          (bo p_2.We).bind fun a =>
          lr (!a)
        else
          lr false
def Zv (fu:Nat)  (p_1:Mf) (p_2:Zb):Option Int :=
  if p_2.Kind=1 then
    some 0
  else
    if p_2.Kind≠4 then
      none
    else
      ((Us fu).Bk p_1 p_2 [([]:List (List UInt8×Lc))] p_2.Body).bind fun a =>
      some a.1
def Rq (fu:Nat) (p_1:List Zb) (a:List (List UInt8×Zb)):Nat→Int→Option (Mf×tf)
  | 0,_=>none
  | n+1,i317 =>
    if i317<(p_1.length:Int) then
      (at_ p_1 i317).bind fun b =>
      (Zv fu (Mf.mk p_1 a) b).bind fun c =>
      if c≠0 then
        none
      else
        (i64 (i317+1)).bind fun d =>
        Rq fu p_1 a n d
    else
      some ((Mf.mk p_1 a),(tf.mk 0 0))
def Sq (fu:Nat) (p_1:List Zb) (a:List (List UInt8×Zb)):Nat→Int→Option (Mf×tf)
  | 0,_=>none
  | n+1,i258 =>
    if i258<(p_1.length:Int) then
      (at_ p_1 i258).bind fun b =>
      (Yv (Mf.mk p_1 a) b).bind fun c =>
      if c≠0 then
        none
      else
        (i64 (i258+1)).bind fun i298 =>
        Sq fu p_1 a n i298
    else
      Rq fu p_1 a (p_1.length+1) 0
def lp (fu:Nat) (p_1:List Zb):Nat→Int→Int→(List (List UInt8×Zb))→Option (Mf×tf)
  | 0,_,_,_=>none
  | n+1,i90,i91,a =>
    if i91<(p_1.length:Int) then
      (at_ p_1 i91).bind fun d =>
      if (Ge a d.Name).isSome=true then
        none
      else
        (at_ p_1 i91).bind fun b =>
        (at_ p_1 i91).bind fun c =>
        (at_ p_1 i91).bind fun e =>
        if e.Kind=4 then
          (i64 (i90+1)).bind fun i228 =>
          (i64 (i91+1)).bind fun i230 =>
          lp fu p_1 n i228 i230 (pe a b.Name c)
        else
          (i64 (i91+1)).bind fun i232 =>
          lp fu p_1 n i90 i232 (pe a b.Name c)
    else
      if i90=0 then
        none
      else
        Sq fu p_1 a (p_1.length+1) 0
def Bv (fu:Nat)  (p_1:List Zb):Option (Mf×tf):=
  (Ns fu p_1).bind fun a =>
  if a.ih≠0 then
    none
  else
    lp fu p_1 (p_1.length+1) 0 0 ([]:List (List UInt8×Zb))
end Go.Y
namespace Go.Y
open Go.bc Go.Xc
structure yn where
  sl:(List (List UInt8))→(List (List UInt8))→(List (List UInt8))→Vc→Option (List (List UInt8)×List (List UInt8)×List (List UInt8))
def mr (self:yn) (p_2:Vc):Nat→Int→(List (List UInt8))→(List (List UInt8))→(List (List UInt8))→Option (List (List UInt8)×List (List UInt8)×List (List UInt8))
  | 0,_,_,_,_=>none
  | n+1,i76,b,c,d =>
    if i76<(p_2.Kids.length:Int) then
      (at_ p_2.Kids i76).bind fun e =>
      (self.sl b c d e).bind fun a =>
      (i64 (i76+1)).bind fun i142 =>
      mr self p_2 n i142 a.1 a.2.1 a.2.2
    else
      some (b,c,d)
def nr (self:yn) (a:List (List UInt8)) (p_2:Vc) (b:List (List UInt8)) (c:List (List UInt8)):Option (List (List UInt8)×List (List UInt8)×List (List UInt8)):=
  mr self p_2 (p_2.Kids.length+1) 0 a b c
def Yu (self:yn) (a:List (List UInt8)) (p_2:Vc) (b:List (List UInt8)) (c:List (List UInt8)):Option (List (List UInt8)×List (List UInt8)×List (List UInt8)):=
  nr self a p_2 b c
def sl (self:yn) (a:List (List UInt8)) (b:List (List UInt8)) (c:List (List UInt8)) (p_2:Vc):Option (List (List UInt8)×List (List UInt8)×List (List UInt8)):=
  if p_2.Kind=19 then
    none
  else
    if p_2.Kind=22 then
      none
    else
      if p_2.Kind=20 then
        (app c [p_2.Name]).bind fun d =>
        Yu self a p_2 b d
      else
        nr self a p_2 b c
def aw:Nat→yn
  | 0=>⟨fun _ _ _ _=>none⟩
  | n+1=>⟨sl (aw n)⟩
structure fm where
  Ck:(List (List UInt8))→(List (List UInt8))→(List (List UInt8))→(List Cd)→Option (List (List UInt8)×List (List UInt8)×List (List UInt8))
def Tq (self:fm) (i118:Int) (b:Cd) (c:Int→(List (List UInt8))→(List (List UInt8))→(List (List UInt8))→Option (List (List UInt8)×List (List UInt8)×List (List UInt8))) (d:List (List UInt8)) (e:List (List UInt8)) (f:List (List UInt8)):Option (List (List UInt8)×List (List UInt8)×List (List UInt8)):=
  if b.Kind=3 then
    (self.Ck d e f b.Di).bind fun a =>
    (i64 (i118+1)).bind fun i323 =>
    c i323 a.1 a.2.1 a.2.2
  else
    (i64 (i118+1)).bind fun i325 =>
    c i325 d e f
def Uq (self:fm) (i118:Int) (b:Cd) (a:List (List UInt8)×List (List UInt8)×List (List UInt8)) (d:Int→(List (List UInt8))→(List (List UInt8))→(List (List UInt8))→Option (List (List UInt8)×List (List UInt8)×List (List UInt8))) (e:Bool):Option (List (List UInt8)×List (List UInt8)×List (List UInt8)):=
  if e=true then
    (self.Ck a.1 a.2.1 a.2.2 b.Body).bind fun c =>
    Tq self i118 b d c.1 c.2.1 c.2.2
  else
    Tq self i118 b d a.1 a.2.1 a.2.2
def Vq (fu:Nat) (self:fm) (i118:Int) (d:List (List UInt8)) (e:List (List UInt8)) (a:Cd) (b:Int→(List (List UInt8))→(List (List UInt8))→(List (List UInt8))→Option (List (List UInt8)×List (List UInt8)×List (List UInt8))) (f:List (List UInt8)):Option (List (List UInt8)×List (List UInt8)×List (List UInt8)):=
  if a.Kind≠6 then
    ((aw fu).sl d f e a.X).bind fun c =>
    if a.Kind=3 then
      Uq self i118 a c b true
    else
      Uq self i118 a c b (decide (a.Kind=4))
  else
    none
def Ru (fu:Nat) (self:fm) (i118:Int) (a:List (List UInt8)) (b:List (List UInt8)) (c:Cd) (d:Int→(List (List UInt8))→(List (List UInt8))→(List (List UInt8))→Option (List (List UInt8)×List (List UInt8)×List (List UInt8))) (e:List (List UInt8)):Option (List (List UInt8)×List (List UInt8)×List (List UInt8)):=
  Vq fu self i118 a b c d e
def Ql (fu:Nat) (self:fm) (p_2:List Cd):Nat→Int→(List (List UInt8))→(List (List UInt8))→(List (List UInt8))→Option (List (List UInt8)×List (List UInt8)×List (List UInt8))
  | 0,_,_,_,_=>none
  | n+1,i118,b,c,d =>
    if i118<(p_2.length:Int) then
      (at_ p_2 i118).bind fun a =>
      if a.Kind=7 then
        (app c [a.Name]).bind fun e =>
        Ru fu self i118 b d a (Ql fu self p_2 n) e
      else
        Vq fu self i118 b d a (Ql fu self p_2 n) c
    else
      some (b,c,d)
def Ck (fu:Nat) (self:fm) (a:List (List UInt8)) (b:List (List UInt8)) (c:List (List UInt8)) (p_2:List Cd):Option (List (List UInt8)×List (List UInt8)×List (List UInt8)):=
  Ql fu self p_2 (p_2.length+1) 0 a b c
def bw:Nat→fm
  | 0=>⟨fun _ _ _ _=>none⟩
  | n+1=>⟨Ck n (bw n)⟩
def Su (a:List (Option Zb)) (b:List (List UInt8)×List (List UInt8)×List (List UInt8)) (c:List (List UInt8)) (d:List (List UInt8)) (e:(List (Option Zb))→(List (List UInt8))→(List (List UInt8))→Option Cg):Nat→Option Cg
  | 0=>none
  | n+1 =>
    if (0:Int)<(b.1.length:Int) then
      none
    else
      e a c d
def Tu (b:List (Option Zb)) (a:List (List UInt8)×List (List UInt8)×List (List UInt8)) (c:(List (Option Zb))→(List (List UInt8))→(List (List UInt8))→Option Cg) (f:List (List UInt8)) (g:List (List UInt8)) (d:List (List UInt8)) (e:List (List UInt8)):Option Cg :=
  Su b a d e c (a.1.length+1)
def Qn (fu:Nat):Nat→(List (Option Zb))→(List (List UInt8))→(List (List UInt8))→Option Cg
  | 0,_,_,_=>none
  | n+1,b,c,d =>
    if (0:Int)<(b.length:Int) then
      (at_ b 0).bind fun e =>
      (cut b 1 b.length).bind fun f =>
      (e).bind fun g =>
      ((bw fu).Ck ([]:List (List UInt8)) ([]:List (List UInt8)) ([]:List (List UInt8)) g.Body).bind fun a =>
      (app c a.2.1).bind fun h =>
      (app d a.2.2).bind fun i =>
      Tu f a (Qn fu n) a.2.1 a.2.2 h i
    else
      some (Cg.mk ([]:List (List UInt8)) c d)
def Cv (fu:Nat)  (p_1:Mf) (p_2:Zb):Option Cg :=
  Qn fu fu ([(some p_2)]:List (Option Zb)) [] []
def Mu (i88:Int) (a:Int→(List (List UInt8×Cg))→Option (List Ii×tf)) (b:List (List UInt8×Cg)):Option (List Ii×tf):=
  (i64 (i88+1)).bind fun i223 =>
  a i223 b
def Nq (a:Int) (b:List UInt8) (c:Int→(List UInt8)→(List UInt8)→Option (List Ii×tf)) (d:List UInt8):Option (List Ii×tf):=
  (i64 (a+1)).bind fun e =>
  c e b d
def Oq (f:List (List UInt8×Cg)) (g:Zb) (a:Int) (b:List UInt8) (c:Zb) (d:Int→(List UInt8)→(List UInt8)→Option (List Ii×tf)) (e:List UInt8):Option (List Ii×tf):=
  if (((Ge f c.Name).getD (Cg.mk ([]:List (List UInt8)) ([]:List (List UInt8)) ([]:List (List UInt8)))).Hl).contains g.Name=true then
    if b≠[] then
      none
    else
      Nq a e d c.Name
  else
    Nq a e d b
def tm (p_1:List Zb) (b:List (List UInt8×Cg)) (e:Int) (f:List Ii) (a:Zb) (g:Int→(List Ii)→Option (List Ii×tf)):Nat→Int→(List UInt8)→(List UInt8)→Option (List Ii×tf)
  | 0,_,_,_=>none
  | n+1,c,h,i =>
    if c<(p_1.length:Int) then
      (at_ p_1 c).bind fun d =>
      if d.Kind≠4 then
        (i64 (c+1)).bind fun j =>
        tm p_1 b e f a g n j h i
      else
        if (((Ge b d.Name).getD (Cg.mk ([]:List (List UInt8)) ([]:List (List UInt8)) ([]:List (List UInt8)))).Gl).contains a.Name=true then
          if h≠[] then
            none
          else
            Oq b a c i d (tm p_1 b e f a g n) d.Name
        else
          Oq b a c i d (tm p_1 b e f a g n) h
    else
      (app f [(Ii.mk a.Name h i)]).bind fun k =>
      (i64 (e+1)).bind fun l =>
      g l k
def um (p_1:List Zb) (b:List (List UInt8×Cg)):Nat→Int→(List Ii)→Option (List Ii×tf)
  | 0,_,_=>none
  | n+1,a,c =>
    if a<(p_1.length:Int) then
      (at_ p_1 a).bind fun d =>
      if d.Kind≠1 then
        (i64 (a+1)).bind fun e =>
        um p_1 b n e c
      else
        tm p_1 b a c d (um p_1 b n) (p_1.length+1) 0 [] []
    else
      some (c,(tf.mk 0 0))
def Pn (fu:Nat) (p_1:List Zb) (a:Mf×tf):Nat→Int→(List (List UInt8×Cg))→Option (List Ii×tf)
  | 0,_,_=>none
  | n+1,i88,b =>
    if i88<(p_1.length:Int) then
      (at_ p_1 i88).bind fun c =>
      if c.Kind=4 then
        (at_ p_1 i88).bind fun d =>
        (at_ p_1 i88).bind fun e =>
        (Cv fu a.1 e).bind fun f =>
        Mu i88 (Pn fu p_1 a n) (pe b d.Name f)
      else
        (i64 (i88+1)).bind fun i225 =>
        Pn fu p_1 a n i225 b
    else
      um p_1 b (p_1.length+1) 0 []
def hv (fu:Nat)  (p_1:List Zb):Option (List Ii×tf):=
  (Bv fu p_1).bind fun a =>
  if a.2.ih≠0 then
    none
  else
    Pn fu p_1 a (p_1.length+1) 0 ([]:List (List UInt8×Cg))
def Dv (fu:Nat)  (p_1:List Zb):Option tf :=
  (hv fu p_1).bind fun a =>
  some a.2
end Go.Y
namespace Go.Y
open Go.bc Go.Xc
def ix  (p_1:xh) (p_2:Lc):Option Int :=
  if p_2.Kind=3 then
    none
  else
    some p_2.Kind
def Fw  (a:List (List UInt8×Int)) (b:List (List UInt8×Int)) (c:List (List UInt8×Zb)) (p_2:Lc):Option Int :=
  if p_2.Kind=3 then
    none
  else
    some p_2.Kind
def uj  (k:xh) (b:Int) (c:Int) (d:List Int) (e:Int) (f:Int) (g:List zc) (h:List (List (List UInt8×Int))) (p_2:Int) (i:Int) (j:Int):Option (Int×Int×Int×List Int×Int×Int×List zc×List (List (List UInt8×Int))):=
  (app g [(zc.mk p_2 i j)]).bind fun a =>
  (i64 ((a.length:Int) - 1)).bind fun i44 =>
  some (i44,b,c,d,e,f,a,h)
def vo  (b:xh) (c:Int) (d:Int) (e:List Int) (f:Int) (g:Int) (a:List zc) (h:List (List (List UInt8×Int))):Option Int :=
  some (a.length:Int)
def cw  (k:xh) (c:Int) (d:Int) (e:List Int) (f:Int) (g:Int) (h:List zc) (a:List (List (List UInt8×Int))) (p_2:List UInt8) (i:Int):Option (Int×Int×Int×List Int×Int×Int×List zc×List (List (List UInt8×Int))):=
  (app e [i]).bind fun b =>
  (i64 ((b.length:Int) - 1)).bind fun i44 =>
  (i64 ((a.length:Int) - 1)).bind fun i46 =>
  (at_ a i46).bind fun j =>
  some (i44,c,d,b,f,g,h,(a.set i46.toNat (pe j p_2 i44)))
def Gr (p_2:List UInt8) (a:List (List (List UInt8×Int))):Nat→Int→Option Int
  | 0,_=>none
  | n+1,i45 =>
    if (0:Int)≤i45 then
      (at_ a i45).bind fun b =>
      if (Ge b p_2).isSome=true then
        some ((Ge b p_2).getD 0)
      else
        (i64 (i45 - 1)).bind fun i77 =>
        Gr p_2 a n i77
    else
      none
def xt (fu:Nat)  (b:xh) (c:Int) (d:Int) (e:List Int) (f:Int) (g:Int) (h:List zc) (a:List (List (List UInt8×Int))) (p_2:List UInt8):Option Int :=
  (i64 ((a.length:Int) - 1)).bind fun i28 =>
  Gr p_2 a fu i28
structure Aq where
  Uj:xh→Int→Int→(List Int)→Int→Int→(List zc)→(List (List (List UInt8×Int)))→Vc→Option (Int×Int×Int×List Int×Int×Int×List zc×List (List (List UInt8×Int)))
def iv (a:Int×Int×Int×List Int×Int×Int×List zc×List (List (List UInt8×Int))) (i264:Int):Option (Int×Int×Int×List Int×Int×Int×List zc×List (List (List UInt8×Int))):=
  some (i264,a.2.1,a.2.2.1,a.2.2.2.1,a.2.2.2.2.1,a.2.2.2.2.2.1,a.2.2.2.2.2.2.1,a.2.2.2.2.2.2.2)
def Hr (fu:Nat) (self:Aq) (p_2:Vc) (b:xh):Nat→Int→Int→Int→Int→Int→(List Int)→(List zc)→(List (List (List UInt8×Int)))→(List Int)→Option (Int×Int×Int×List Int×Int×Int×List zc×List (List (List UInt8×Int)))
  | 0,_,_,_,_,_,_,_,_,_=>none
  | n+1,i76,i77,i78,i79,i80,e,f,g,k =>
    if i76<(p_2.Kids.length:Int) then
      (at_ p_2.Kids i76).bind fun l =>
      (self.Uj b i77 i78 e i79 i80 f g l).bind fun c =>
      (app k [c.1]).bind fun m =>
      (i64 (i76+1)).bind fun i165 =>
      Hr fu self p_2 b n i165 c.2.1 c.2.2.1 c.2.2.2.2.1 c.2.2.2.2.2.1 c.2.2.2.1 c.2.2.2.2.2.2.1 c.2.2.2.2.2.2.2 m
    else
      if p_2.Kind=1 then
        (uj b i77 i78 e i79 i80 f g 1 0 p_2.N).bind fun h =>
        some (1,h.2.1,h.2.2.1,h.2.2.2.1,h.2.2.2.2.1,h.2.2.2.2.2.1,h.2.2.2.2.2.2.1,h.2.2.2.2.2.2.2)
      else
        if p_2.Kind=2 then
          (uj b i77 i78 e i79 i80 f g 2 p_2.N 0).bind fun i =>
          some (2,i.2.1,i.2.2.1,i.2.2.2.1,i.2.2.2.2.1,i.2.2.2.2.2.1,i.2.2.2.2.2.2.1,i.2.2.2.2.2.2.2)
        else
          if p_2.Kind=3 then
            (xt fu b i77 i78 e i79 i80 f g p_2.Name).bind fun j =>
            (uj b i77 i78 e i79 i80 f g 3 j 0).bind fun d =>
            (at_ d.2.2.2.1 j).bind fun o =>
            some (o,d.2.1,d.2.2.1,d.2.2.2.1,d.2.2.2.2.1,d.2.2.2.2.2.1,d.2.2.2.2.2.2.1,d.2.2.2.2.2.2.2)
          else
            if p_2.Kind=4 then
              none
            else
              if p_2.Kind=5 then
                none
              else
                if (6:Int)≤p_2.Kind then
                  if p_2.Kind≤18 then
                    (i64 (8+p_2.Kind)).bind fun i227 =>
                    (i64 (i227 - 6)).bind fun i229 =>
                    (uj b i77 i78 e i79 i80 f g i229 0 0).bind fun a =>
                    if p_2.Kind≤10 then
                      some (1,a.2.1,a.2.2.1,a.2.2.2.1,a.2.2.2.2.1,a.2.2.2.2.2.1,a.2.2.2.2.2.2.1,a.2.2.2.2.2.2.2)
                    else
                      some (2,a.2.1,a.2.2.1,a.2.2.2.1,a.2.2.2.2.1,a.2.2.2.2.2.1,a.2.2.2.2.2.2.1,a.2.2.2.2.2.2.2)
                  else
                    if p_2.Kind=19 then
                      none
                    else
                      if p_2.Kind=20 then
                        (uj b i77 i78 e i79 i80 f g 27 ((Ge b.boxes p_2.Name).getD 0) 0).bind fun p =>
                        ((Ge b.defs p_2.Name)).bind fun q =>
                        (ix b q.We).bind fun r =>
                        iv p r
                      else
                        none
                else
                  none
def Uj (fu:Nat) (self:Aq) (a:xh) (b:Int) (c:Int) (d:List Int) (e:Int) (f:Int) (g:List zc) (h:List (List (List UInt8×Int))) (p_2:Vc):Option (Int×Int×Int×List Int×Int×Int×List zc×List (List (List UInt8×Int))):=
  Hr fu self p_2 a (p_2.Kids.length+1) 0 b c e f d g h []
def Vp:Nat→Aq
  | 0=>⟨fun _ _ _ _ _ _ _ _ _=>none⟩
  | n+1=>⟨Uj n (Vp n)⟩
structure Ym where
  Vj:xh→Int→Int→(List Int)→Int→Int→(List zc)→(List (List (List UInt8×Int)))→(List Cd)→Option (Int×Int×List Int×Int×Int×List zc×List (List (List UInt8×Int)))
  Em:xh→Int→Int→(List Int)→Int→Int→(List zc)→(List (List (List UInt8×Int)))→Cd→Option (Int×Int×List Int×Int×Int×List zc×List (List (List UInt8×Int)))
def Ir (self:Ym) (p_2:List Cd) (c:xh):Nat→Int→Int→Int→Int→Int→(List Int)→(List zc)→(List (List (List UInt8×Int)))→Option (Int×Int×List Int×Int×Int×List zc×List (List (List UInt8×Int)))
  | 0,_,_,_,_,_,_,_,_=>none
  | n+1,i81,i82,i83,i84,i85,d,e,b =>
    if i81<(p_2.length:Int) then
      (at_ p_2 i81).bind fun f =>
      (self.Em c i82 i83 d i84 i85 e b f).bind fun a =>
      (i64 (i81+1)).bind fun i163 =>
      Ir self p_2 c n i163 a.1 a.2.1 a.2.2.2.1 a.2.2.2.2.1 a.2.2.1 a.2.2.2.2.2.1 a.2.2.2.2.2.2
    else
      (i64 ((b.length:Int) - 1)).bind fun i165 =>
      (cut b 0 i165).bind fun g =>
      some (i82,i83,d,i84,i85,e,g)
def Vj (self:Ym) (a:xh) (b:Int) (c:Int) (d:List Int) (e:Int) (f:Int) (g:List zc) (h:List (List (List UInt8×Int))) (p_2:List Cd):Option (Int×Int×List Int×Int×Int×List zc×List (List (List UInt8×Int))):=
  (app h [[]]).bind fun i =>
  Ir self p_2 a (p_2.length+1) 0 b c e f d g i
def jv (a:Int×Int×List Int×Int×Int×List zc×List (List (List UInt8×Int))) (b:List zc):Option (Int×Int×List Int×Int×Int×List zc×List (List (List UInt8×Int))):=
  some (a.1,a.2.1,a.2.2.1,a.2.2.2.1,a.2.2.2.2.1,b,a.2.2.2.2.2.2)
def kv (self:Ym) (p_2:Cd) (c:xh) (b:Int×Int×Int×List Int×Int×Int×List zc×List (List (List UInt8×Int))) (e:List zc):Option (Int×Int×List Int×Int×Int×List zc×List (List (List UInt8×Int))):=
  (self.Vj c b.2.1 b.2.2.1 b.2.2.2.1 b.2.2.2.2.1 b.2.2.2.2.2.1 e b.2.2.2.2.2.2.2 p_2.Di).bind fun a =>
  (vo c a.1 a.2.1 a.2.2.1 a.2.2.2.1 a.2.2.2.2.1 a.2.2.2.2.2.1 a.2.2.2.2.2.2).bind fun f =>
  (at_ a.2.2.2.2.2.1 b.1).bind fun d =>
  jv a (a.2.2.2.2.2.1.set b.1.toNat (zc.mk d.Op f d.N))
def lv (a:Int×Int×Int×List Int×Int×Int×List zc×List (List (List UInt8×Int))) (b:List zc):Option (Int×Int×List Int×Int×Int×List zc×List (List (List UInt8×Int))):=
  some (a.2.1,a.2.2.1,a.2.2.2.1,a.2.2.2.2.1,a.2.2.2.2.2.1,b,a.2.2.2.2.2.2.2)
def Em (fu:Nat) (self:Ym) (b:xh) (p:Int) (q:Int) (r:List Int) (s:Int) (t:Int) (u:List zc) (v:List (List (List UInt8×Int))) (p_2:Cd):Option (Int×Int×List Int×Int×Int×List zc×List (List (List UInt8×Int))):=
  if p_2.Kind=3 then
    ((Vp fu).Uj b p q r s t u v p_2.X).bind fun h =>
    (uj b h.2.1 h.2.2.1 h.2.2.2.1 h.2.2.2.2.1 h.2.2.2.2.2.1 h.2.2.2.2.2.2.1 h.2.2.2.2.2.2.2 22 0 0).bind fun e =>
    (self.Vj b e.2.1 e.2.2.1 e.2.2.2.1 e.2.2.2.2.1 e.2.2.2.2.2.1 e.2.2.2.2.2.2.1 e.2.2.2.2.2.2.2 p_2.Body).bind fun i =>
    (uj b i.1 i.2.1 i.2.2.1 i.2.2.2.1 i.2.2.2.2.1 i.2.2.2.2.2.1 i.2.2.2.2.2.2 21 0 0).bind fun c =>
    (vo b c.2.1 c.2.2.1 c.2.2.2.1 c.2.2.2.2.1 c.2.2.2.2.2.1 c.2.2.2.2.2.2.1 c.2.2.2.2.2.2.2).bind fun y =>
    (at_ c.2.2.2.2.2.2.1 e.1).bind fun w =>
    kv self p_2 b c (c.2.2.2.2.2.2.1.set e.1.toNat (zc.mk w.Op y w.N))
  else
    if p_2.Kind=4 then
      (vo b p q r s t u v).bind fun z =>
      ((Vp fu).Uj b p q r s t u v p_2.X).bind fun j =>
      (uj b j.2.1 j.2.2.1 j.2.2.2.1 j.2.2.2.2.1 j.2.2.2.2.2.1 j.2.2.2.2.2.2.1 j.2.2.2.2.2.2.2 22 0 0).bind fun f =>
      (self.Vj b f.2.1 f.2.2.1 f.2.2.2.1 f.2.2.2.2.1 f.2.2.2.2.2.1 f.2.2.2.2.2.2.1 f.2.2.2.2.2.2.2 p_2.Body).bind fun k =>
      (uj b k.1 k.2.1 k.2.2.1 k.2.2.2.1 k.2.2.2.2.1 k.2.2.2.2.2.1 k.2.2.2.2.2.2 21 z 0).bind fun d =>
      (vo b d.2.1 d.2.2.1 d.2.2.2.1 d.2.2.2.2.1 d.2.2.2.2.2.1 d.2.2.2.2.2.2.1 d.2.2.2.2.2.2.2).bind fun A =>
      (at_ d.2.2.2.2.2.2.1 f.1).bind fun x =>
      lv d (d.2.2.2.2.2.2.1.set f.1.toNat (zc.mk x.Op A x.N))
    else
      if p_2.Kind=6 then
        none
      else
        ((Vp fu).Uj b p q r s t u v p_2.X).bind fun a =>
        if p_2.Kind=1 then
          (cw b a.2.1 a.2.2.1 a.2.2.2.1 a.2.2.2.2.1 a.2.2.2.2.2.1 a.2.2.2.2.2.2.1 a.2.2.2.2.2.2.2 p_2.Name a.1).bind fun g =>
          (uj b g.2.1 g.2.2.1 g.2.2.2.1 g.2.2.2.2.1 g.2.2.2.2.2.1 g.2.2.2.2.2.2.1 g.2.2.2.2.2.2.2 4 g.1 0).bind fun l =>
          some (l.2.1,l.2.2.1,l.2.2.2.1,l.2.2.2.2.1,l.2.2.2.2.2.1,l.2.2.2.2.2.2.1,l.2.2.2.2.2.2.2)
        else
          if p_2.Kind=2 then
            (xt fu b a.2.1 a.2.2.1 a.2.2.2.1 a.2.2.2.2.1 a.2.2.2.2.2.1 a.2.2.2.2.2.2.1 a.2.2.2.2.2.2.2 p_2.Name).bind fun B =>
            (uj b a.2.1 a.2.2.1 a.2.2.2.1 a.2.2.2.2.1 a.2.2.2.2.2.1 a.2.2.2.2.2.2.1 a.2.2.2.2.2.2.2 4 B 0).bind fun m =>
            some (m.2.1,m.2.2.1,m.2.2.2.1,m.2.2.2.2.1,m.2.2.2.2.2.1,m.2.2.2.2.2.2.1,m.2.2.2.2.2.2.2)
          else
            if p_2.Kind=5 then
              none
            else
              if p_2.Kind=7 then
                (uj b a.2.1 a.2.2.1 a.2.2.2.1 a.2.2.2.2.1 a.2.2.2.2.2.1 a.2.2.2.2.2.2.1 a.2.2.2.2.2.2.2 26 ((Ge b.boxes p_2.Name).getD 0) 0).bind fun n =>
                some (n.2.1,n.2.2.1,n.2.2.2.1,n.2.2.2.2.1,n.2.2.2.2.2.1,n.2.2.2.2.2.2.1,n.2.2.2.2.2.2.2)
              else
                if p_2.Kind=8 then
                  (uj b a.2.1 a.2.2.1 a.2.2.2.1 a.2.2.2.2.1 a.2.2.2.2.2.1 a.2.2.2.2.2.2.1 a.2.2.2.2.2.2.2 28 0 0).bind fun o =>
                  some (o.2.1,o.2.2.1,o.2.2.2.1,o.2.2.2.2.1,o.2.2.2.2.2.1,o.2.2.2.2.2.2.1,o.2.2.2.2.2.2.2)
                else
                  none
def yt:Nat→Ym
  | 0=>⟨fun _ _ _ _ _ _ _ _ _=>none,fun _ _ _ _ _ _ _ _ _=>none⟩
  | n+1=>⟨Vj (yt n),Em n (yt n)⟩
def Gw (fu:Nat)  (p_1:xh) (p_2:Zb):Option Pf :=
  if p_2.Kind≠4 then
    none
  else
    if p_2.Kind=3 then
      none
    else
      ((yt fu).Vj p_1 p_2.Kind 0 ([]:List Int) 0 0 ([]:List zc) [([]:List (List UInt8×Int))] p_2.Body).bind fun a =>
      if p_2.Kind≠2 then
        (uj p_1 a.1 a.2.1 a.2.2.1 a.2.2.2.1 a.2.2.2.2.1 a.2.2.2.2.2.1 a.2.2.2.2.2.2 25 0 0).bind fun b =>
        some (Pf.mk b.2.1 b.2.2.1 b.2.2.2.1 b.2.2.2.2.1 b.2.2.2.2.2.1 b.2.2.2.2.2.2.1)
      else
        none
def Nu (i162:Int) (a:List (List UInt8×Int)) (b:List (List UInt8×Zb)) (c:Zb) (d:Zb) (e:List (List UInt8×Int)) (f:Int→(List (List UInt8×Int))→(List (List UInt8×Int))→(List (List UInt8×Zb))→(List Oj)→Option (Hd×tf)) (g:List Oj):Option (Hd×tf):=
  (i64 (i162+1)).bind fun h =>
  f h e a (pe b c.Name d) g
def Ou (p_1:List Zb) (i162:Int) (a:List (List UInt8×Int)) (b:List (List UInt8×Zb)) (f:List Oj) (c:Zb) (d:Zb) (g:Int→(List (List UInt8×Int))→(List (List UInt8×Int))→(List (List UInt8×Zb))→(List Oj)→Option (Hd×tf)) (e:List (List UInt8×Int)):Option (Hd×tf):=
  (at_ p_1 i162).bind fun h =>
  (at_ p_1 i162).bind fun i =>
  (Fw e a (pe b c.Name d) h.We).bind fun r417 =>
  (app f [(Oj.mk r417 i.Ug)]).bind fun j =>
  Nu i162 a b c d e g j
def Pu (i162:Int) (a:List (List UInt8×Int)) (b:List (List UInt8×Zb)) (c:List Oj) (d:Zb) (e:Zb) (f:Int→(List (List UInt8×Int))→(List (List UInt8×Int))→(List (List UInt8×Zb))→(List Oj)→Option (Hd×tf)) (g:List (List UInt8×Int)):Option (Hd×tf):=
  (i64 (i162+1)).bind fun h =>
  f h a g (pe b d.Name e) c
def gp (fu:Nat) (p_1:List Zb) (b:List (List UInt8×Int)) (c:List (List UInt8×Int)) (d:List (List UInt8×Zb)) (e:List Oj):Nat→Int→(List Pf)→Option (Hd×tf)
  | 0,_,_=>none
  | n+1,a,f =>
    if a<(p_1.length:Int) then
      (at_ p_1 a).bind fun h =>
      if h.Kind=1 then
        (i64 (a+1)).bind fun i =>
        gp fu p_1 b c d e n i f
      else
        (at_ p_1 a).bind fun j =>
        (Gw fu (xh.mk b c d) j).bind fun g =>
        if (200:Int)<(g.Xg.length:Int) then
          none
        else
          if (4000:Int)<(g.Code.length:Int) then
            none
          else
            (app f [g]).bind fun k =>
            (i64 (a+1)).bind fun l =>
            gp fu p_1 b c d e n l k
    else
      some ((Hd.mk e f),(tf.mk 0 0))
def vm (fu:Nat) (p_1:List Zb):Nat→Int→(List (List UInt8×Int))→(List (List UInt8×Int))→(List (List UInt8×Zb))→(List Oj)→Option (Hd×tf)
  | 0,_,_,_,_,_=>none
  | n+1,i162,a,b,c,d =>
    if i162<(p_1.length:Int) then
      (at_ p_1 i162).bind fun e =>
      (at_ p_1 i162).bind fun f =>
      (at_ p_1 i162).bind fun g =>
      if g.Kind=1 then
        (at_ p_1 i162).bind fun h =>
        Ou p_1 i162 b c d e f (vm fu p_1 n) (pe a h.Name (a.length:Int))
      else
        (at_ p_1 i162).bind fun i =>
        Pu i162 a c d e f (vm fu p_1 n) (pe b i.Name (b.length:Int))
    else
      gp fu p_1 a b c d (p_1.length+1) 0 []
def mv (fu:Nat)  (p_1:List Zb):Option (Hd×tf):=
  (Dv fu p_1).bind fun a =>
  if a.ih≠0 then
    none
  else
    vm fu p_1 (p_1.length+1) 0 ([]:List (List UInt8×Int)) ([]:List (List UInt8×Int)) ([]:List (List UInt8×Zb)) []
end Go.Y
namespace Go.Y
open Go.bc Go.Xc
structure Bq where
  stack:List Int
  Nb:Value
instance:sh Bq where
  Hi μ v x:=∃ a c,v=.agg ⟨[.slice a x.stack.length c,x.Nb]⟩∧Ca μ a c x.stack
  up l h:=by obtain ⟨a,c,b,d⟩:=h;exact ⟨a,c,b,d.up l⟩
abbrev zj:=List (Value×List Bool)
def Oi:zj→List (Int×Ud)→List (Int×Bq)
  | b::Tc,e::m=>(e.1,⟨e.2.stack,b.1⟩)::Oi Tc m
  | _,_=>[]
structure Zh (μ:M) (es:List MapEntry) (c:Nat) (Tc:zj) (m:List (Int×Ud)):Prop where
  ep:Ue μ es c (Oi Tc m)
  has:Tc.map (·.2)=m.map (·.2.has)
theorem Zh.up {μ I:M}{es:List MapEntry}{c:Nat}{Tc:zj}{m:List (Int×Ud)}(h:Zh μ es c Tc m) (l:da μ I):Zh I es c Tc m:=⟨h.ep.up l,h.has⟩
theorem Zh.nil {μ:M}{c:Nat}:Zh μ [] c [] []:=⟨Ue.nil,rfl⟩
def te (T:TypeId) (Tc:zj):List jb:=Tc.map fun b=>.row b.1 T 1 b.2.length (b.2.map .bool)
theorem Lx:∀ (Tc:zj) (m:List (Int×Ud)) (k:Int) (x:Ud),Tc.map (·.2)=m.map (·.2.has)→Ge m k=some x→∃ L v Af,Tc=L++(v,x.has)::Af∧Ge (Oi Tc m) k=some ⟨x.stack,v⟩∧∀ c,Oi (L++(v,c)::Af) (pe m k ⟨x.stack,c⟩)=Oi Tc m∧(L++(v,c)::Af).map (·.2)=(pe m k ⟨x.stack,c⟩).map (·.2.has)
  | Tc,[],k,x,h,g=>by simp [Ge] at g
  | [],e::m,k,x,h,g=>by simp at h
  | b::Tc,(a,y)::m,k,x,h,g=>by
    simp only [List.map_cons,List.cons.injEq] at h;obtain ⟨d,f⟩:=h;by_cases e:a=k
    · subst e;rw [Ge,if_pos rfl] at g;obtain rfl:=Option.some.inj g;refine ⟨[],b.1,Tc,by rw [← d];rfl,by rw [Oi,Ge,if_pos rfl],fun c=>?_⟩;rw [pe,if_pos rfl];exact ⟨rfl,by simp [f]⟩
    · rw [Ge,if_neg e] at g;obtain ⟨L,v,Af,Ya,i,j⟩:=Lx Tc m k x f g;refine ⟨b::L,v,Af,by rw [Ya];rfl,by rw [Oi,Ge,if_neg e,i],fun c=>?_⟩;obtain ⟨l,n⟩:=j c;rw [pe,if_neg e];refine ⟨?_,?_⟩
      · show Oi (b::(L++(v,c)::Af)) _=_;rw [Oi,Oi,l]
      · show (b::(L++(v,c)::Af)).map (·.2)=_;rw [List.map_cons,n,List.map_cons,d]
theorem XB:∀ (Tc:zj) (m:List (Int×Ud)) (k:Int),Ge m k=none→Ge (Oi Tc m) k=none
  | Tc,[],k,g=>by cases Tc <;> rfl
  | [],e::m,k,g=>rfl
  | b::Tc,(a,y)::m,k,g=>by
    by_cases e:a=k
    · rw [Ge,if_pos e] at g;cases g
    · rw [Ge,if_neg e] at g;rw [Oi,Ge,if_neg e,XB Tc m k g]
theorem DB:∀ (Tc:zj) (m:List (Int×Ud)) (k:Int) (st:List Int) (v:Value) (h:List Bool),Tc.map (·.2)=m.map (·.2.has)→Ge m k=none →
    pe (Oi Tc m) k ⟨st,v⟩=Oi (Tc++[(v,h)]) (pe m k ⟨st,h⟩)∧(Tc++[(v,h)]).map (·.2)=(pe m k ⟨st,h⟩).map (·.2.has)
  | [],[],k,st,v,h,e,g=>⟨rfl,rfl⟩
  | b::Tc,[],k,st,v,h,e,g=>by simp at e
  | [],e::m,k,st,v,h,d,g=>by simp at d
  | b::Tc,(a,y)::m,k,st,v,h,e,g=>by
    simp only [List.map_cons,List.cons.injEq] at e;obtain ⟨f,i⟩:=e;by_cases c:a=k
    · rw [Ge,if_pos c] at g;cases g
    · rw [Ge,if_neg c] at g;obtain ⟨j,l⟩:=DB Tc m k st v h i g;rw [Oi,pe,if_neg c,pe,if_neg c,j];refine ⟨?_,?_⟩
      · show _=Oi (b::(Tc++[(v,h)])) _;rw [Oi]
      · show (b::(Tc++[(v,h)])).map (·.2)=_;rw [List.map_cons,l,List.map_cons,f]
theorem EF {m:List (Int×Ud)}{k:Int}(h:¬ (Ge m k).isSome=true):Ge m k=none:=by
  cases e:Ge m k with
  | none=>rfl
  | some x=>rw [e] at h; exact absurd rfl h
theorem Zh.new {μ:M}{es:List MapEntry}{c:Nat}{Tc:zj}{m:List (Int×Ud)}{k:Int}{st:List Int}{v:Value}{h:List Bool}{a:List MapEntry}{b:Nat}{E:M}(p:Zh E es c Tc m) (g:Ge m k=none) (q:Ue μ a b (pe (Oi Tc m) k ⟨st,v⟩)):Zh μ a b (Tc++[(v,h)]) (pe m k ⟨st,h⟩):=by
  obtain ⟨Ya,d⟩:=DB Tc m k st v h p.has g;exact ⟨by rw [← Ya];exact q,d⟩
theorem Zh.set {μ:M}{es:List MapEntry}{c:Nat}{Tc L Af:zj}{v:Value}{m:List (Int×Ud)}{k:Int}{x:Ud}(p:Zh μ es c Tc m) (h:∀ a,Oi (L++(v,a)::Af) (pe m k ⟨x.stack,a⟩)=Oi Tc m∧(L++(v,a)::Af).map (·.2)=(pe m k ⟨x.stack,a⟩).map (·.2.has)) (a:List Bool):Zh μ es c (L++(v,a)::Af) (pe m k ⟨x.stack,a⟩):=by
  obtain ⟨Ya,b⟩:=h a;exact ⟨by rw [Ya];exact p.ep,b⟩
theorem FF {α:Type}[Va α]{μ:M}{v:Value}{o:Option α}(h:Te μ v o) (k:¬ o.isSome=true):v=.pointer none:=by
  cases o with
  | none=>exact h
  | some x=>exact absurd rfl k
theorem Wp {μ:M}:∀ h:List Bool,na μ (h.map Value.bool) h
  | []=>rfl
  | b::h=>na.cons (cs:=[.bool b]) rfl (Wp h)
theorem Iz {μ:M}:∀ {h:List Bool}{cells:List Value},na μ cells h→cells=h.map Value.bool
  | [],cells,r=>r
  | b::h,cells,r=>by
    obtain ⟨cs,t,rfl,a,c⟩:=r;rw [show cs=[.bool b] from a,Iz c];rfl
section
variable {μ:M}{w0 w:World}{T:TypeId}{a p R:List jb}{L Af Tc:zj}{v:Value}{h:List Bool}
theorem nA (b:ka μ w0 w (a++(te T (L++(v,h)::Af)++R))):ka μ w0 w (.row v T 1 h.length (h.map .bool)::(a++(te T (L++Af)++R))):=
  b.perm (by
    unfold te;simp only [List.map_append,List.map_cons,List.append_assoc,List.cons_append];exact (List.perm_middle.append_left a).trans List.perm_middle)
theorem Fp {cells:List Value}(b:ka μ w0 w (.row v T 1 h.length cells::(a++(te T (L++Af)++R)))) (c:na μ cells h):ka μ w0 w (a++(te T (L++(v,h)::Af)++R)):=by
  rw [Iz c] at b;exact b.perm (by
    unfold te;simp only [List.map_append,List.map_cons,List.append_assoc,List.cons_append];exact ((List.perm_middle.append_left a).trans List.perm_middle).symm)
theorem RE {cells:List Value}(b:ka μ w0 w (.row v T 1 h.length cells::(a++(te T Tc++R)))) (c:na μ cells h):ka μ w0 w (a++(te T (Tc++[(v,h)])++R)):=by
  have d:ka μ w0 w (.row v T 1 h.length cells::(a++(te T (Tc++[])++R))):=by rw [List.append_nil];exact b
  exact Fp d c
theorem oA (c:ka μ w0 w (a++(te T Tc++R))):ka μ w0 w (a++R):=by
  have b:ka μ w0 w (te T Tc++(a++R)):=c.perm (by rw [← List.append_assoc,← List.append_assoc];exact List.Perm.append_right R List.perm_append_comm);generalize te T Tc=l at b
  induction l with
  | nil=>exact b
  | cons r l d=>exact d (b.drop .z)
end
section
variable {P:Program}{Q:Exit→Act→World→Prop}{K:List Value→List Deferred→World→Prop}{fr U:List Value}{ds:List Deferred}{w:World}
variable {dst:Option Tmp}{ty:TypeId}{pos:String}{after:Array Edge}{g:Option (Nat×Bool)}{μ:M}{T:TypeId}
variable {x y:Operand}{xe aa:TypeId}{b c:Nat}{es:List MapEntry}{m:List (Int×Bq)}{k:Int}
theorem SE {x:Operand}{t Wc e:TypeId}{a:Addr}(hu:P.underlying t=some (.pointer e)) (b:db fr x (.pointer (some a))):Xe P (Oper.mk dst (.binOp .neq t x (.const (.pointer none)) Wc) ty pos after g) fr (.bool true):=⟨fun ds w=>by
  have c:=b ds;have f:(F fr ds).eval (.const (.pointer none))=.pointer none:=rfl;have h:∀ d:Nat,(Op.equalIn (d+1) t (.pointer (some a)) (.pointer none)).run P w=.ok false w:=fun d=>by
    simp [Op.equalIn,run_underlying hu]
  have i:(Op.equalIn Op.maxDepth t (.pointer (some a)) (.pointer none)).run P w=.ok false w:=h 9999;simp [execOp,c,f,eqGuard,binOp,Op.equal,i]⟩
theorem TE {x:Operand}{t Wc e:TypeId}{a:Addr}(hu:P.underlying t=some (.pointer e)) (b:db fr x (.pointer (some a))) (c:Ze fr dst (.bool true) U) (h:K U ds w):Ed P (Oper.mk dst (.binOp .neq t x (.const (.pointer none)) Wc) ty pos after g) fr ds w K Q:=sa (SE hu b) c h
theorem jE {x:Operand}{t Wc e:TypeId}(hu:P.underlying t=some (.pointer e)) (a:db fr x (.pointer none)):Xe P (Oper.mk dst (.binOp .neq t x (.const (.pointer none)) Wc) ty pos after g) fr (.bool false):=⟨fun ds w=>by
  have b:=a ds;have c:(F fr ds).eval (.const (.pointer none))=.pointer none:=rfl;have f:∀ d:Nat,(Op.equalIn (d+1) t (.pointer none) (.pointer none)).run P w=.ok true w:=fun d=>by
    simp [Op.equalIn,run_underlying hu]
  have h:(Op.equalIn Op.maxDepth t (.pointer none) (.pointer none)).run P w=.ok true w:=f 9999;simp [execOp,b,c,eqGuard,binOp,Op.equal,h]⟩
theorem kE {x:Operand}{t Wc e:TypeId}(hu:P.underlying t=some (.pointer e)) (a:db fr x (.pointer none)) (b:Ze fr dst (.bool false) U) (h:K U ds w):Ed P (Oper.mk dst (.binOp .neq t x (.const (.pointer none)) Wc) ty pos after g) fr ds w K Q:=sa (jE hu a) b h
theorem EB {μ:M}:sh.Hi μ (.agg ⟨[.slice none 0 0,.slice none 0 0]⟩) (⟨[],.slice none 0 0⟩:Bq):=⟨none,0,rfl,Ca.nil⟩
theorem GF {st:List Int}{Nb:Value}(e:P.underlying T=some (.map xe aa)) (f:P.underlying xe=some (lb.fk (κ:=Int))) (i:db fr x (.map (some b))) (j:db fr y (lb.key k))
    (l:∀ w,(zeroValue aa).run P w=.ok (.agg ⟨[.slice none 0 0,.slice none 0 0]⟩) w) (n:w.heap[b]?=some (.map ⟨es⟩ c)) (he:Ue μ es c m) (fp:Ge m k=some ⟨st,Nb⟩)
    (h:∀ a c,Ca μ a c st→Ng fr dst (.agg ⟨[.slice a st.length c,Nb]⟩) fun U=>K U ds w):Ed P (Oper.mk dst (.lookup T x y false) ty pos after g) fr ds w K Q :=
  yo e f i j l EB n he fun v d=>by
    rw [fp] at d;obtain ⟨a,c,rfl,m⟩:=d;exact h a c m
theorem HF {st:List Int}{Nb:Value}(e:P.underlying T=some (.map xe aa)) (f:P.underlying xe=some (lb.fk (κ:=Int))) (i:db fr x (.map (some b))) (j:db fr y (lb.key k))
    (l:∀ w,(zeroValue aa).run P w=.ok (.agg ⟨[.slice none 0 0,.slice none 0 0]⟩) w) (n:w.heap[b]?=some (.map ⟨es⟩ c)) (he:Ue μ es c m) (fp:Ge m k=some ⟨st,Nb⟩)
    (h:∀ a c,Ca μ a c st→Ng fr dst (.tuple ⟨[.agg ⟨[.slice a st.length c,Nb]⟩,.bool true]⟩) fun U=>K U ds w):Ed P (Oper.mk dst (.lookup T x y true) ty pos after g) fr ds w K Q :=
  cx e f i j l EB n he fun v d=>by
    rw [fp] at d ⊢;obtain ⟨a,c,rfl,m⟩:=d;exact h a c m
theorem UE (f:P.underlying T=some (.map xe aa)) (i:P.underlying xe=some (lb.fk (κ:=Int))) (j:db fr x (.map (some b))) (l:db fr y (lb.key k))
    (n:∀ w,(zeroValue aa).run P w=.ok (.agg ⟨[.slice none 0 0,.slice none 0 0]⟩) w) (o:w.heap[b]?=some (.map ⟨es⟩ c)) (he:Ue μ es c m) (fp:Ge m k=none)
    (h:Ng fr dst (.tuple ⟨[.agg ⟨[.slice none 0 0,.slice none 0 0]⟩,.bool false]⟩) fun U=>K U ds w):Ed P (Oper.mk dst (.lookup T x y true) ty pos after g) fr ds w K Q:=by
  obtain ⟨U,pb⟩:=Sh fr dst (.tuple #[ij es (lb.key k) (.agg ⟨[.slice none 0 0,.slice none 0 0]⟩),.bool (Rm es (lb.key k))]);refine Aw f i j l (lb.xe k) n o he.Ef.keys pb ?_;rw [he.Ef.has k,fp] at pb;have a:=he.Ef.look k;have e:ij es (lb.key k) (.agg ⟨[.slice none 0 0,.slice none 0 0]⟩)=.agg ⟨[.slice none 0 0,.slice none 0 0]⟩:=by
    unfold ij;rw [Lp];cases q:Fj (lb.key k) es with
    | none=>rfl
    | some p=>rw [q] at a; obtain ⟨x,d,r⟩:=a; rw [fp] at d; cases d
  rw [e] at pb;exact h U pb
end
end Go.Y
namespace Go.Y
open Go.bc Go.Xc
def Fm  (p_1:Int):Option Bool :=
  if p_1=1 then
    some true
  else
    some (decide (p_1=2))
def aq  (p_1:He) (p_2:Int) (b:Int):Option Bool :=
  if (0:Int)≤p_2 then
    (p_1.m).bind fun a =>
    if p_2<(a.Nd.length:Int) then
      (at_ a.Nd p_2).bind fun c =>
      some (decide (c.Kind=b))
    else
      some false
  else
    some false
def Vs  (p_1:He) (p_2:Int):Option Bool :=
  if (10:Int)≤p_2 then
    (i64 (p_2 - 10)).bind fun i7 =>
    (aq p_1 i7 3).bind fun a =>
    some a
  else
    some false
def ik  (a:Bool):Option Int :=
  if a=true then
    some 0
  else
    some 3
def Jr  (a:Bool):Option Int :=
  if a=true then
    some 1
  else
    ik true
def Kr (p_1:He) (a:zc) (b:Bool):Option Int :=
  if b=true then
    if (0:Int)≤a.A then
      (p_1.m).bind fun c =>
      ik (decide (a.A<(c.Qd.length:Int)))
    else
      ik false
  else
    if a.Op<1 then
      Jr true
    else
      Jr (decide ((32:Int)<a.Op))
def Lr (p_1:He) (p_2:Pf) (a:zc) (Tf:Bool):Option Int :=
  if Tf=true then
    if (0:Int)≤a.A then
      ik (decide (a.A<(p_2.Code.length:Int)))
    else
      ik false
  else
    if a.Op=23 then
      (aq p_1 a.A 2).bind fun b =>
      ik b
    else
      if a.Op=29 then
        (aq p_1 a.A 3).bind fun c =>
        ik c
      else
        if a.Op=26 then
          Kr p_1 a (decide (a.Op=26))
        else
          Kr p_1 a (decide (a.Op=27))
def Mr (p_1:He) (p_2:Pf) (a:zc) (b:Bool):Option Int :=
  if b=true then
    if (0:Int)≤a.A then
      ik (decide (a.A<(p_2.Xg.length:Int)))
    else
      ik false
  else
    if a.Op=21 then
      Lr p_1 p_2 a (decide (a.Op=21))
    else
      Lr p_1 p_2 a (decide (a.Op=22))
def Hw  (p_1:He) (p_2:Pf) (a:zc):Option Int :=
  if a.Op=2 then
    if a.A=0 then
      ik true
    else
      ik (decide (a.A=1))
  else
    if a.Op=3 then
      Mr p_1 p_2 a (decide (a.Op=3))
    else
      Mr p_1 p_2 a (decide (a.Op=4))
def Ws (p_1:List Int) (p_2:Int→Option Bool):Nat→Int→Option Int
  | 0,_=>none
  | n+1,i20 =>
    if i20<(p_1.length:Int) then
      (at_ p_1 i20).bind fun a =>
      (p_2 a).bind fun b =>
      if b=true then
        some i20
      else
        (i64 (i20+1)).bind fun i49 =>
        Ws p_1 p_2 n i49
    else
      some (-1)
def Mx  (p_1:List Int) (p_2:Int→Option Bool):Option Int :=
  Ws p_1 p_2 (p_1.length+1) 0
def eu  (p_1:List Int) (p_2:Int→Option Bool):Option Bool :=
  (Mx p_1 p_2).bind fun a =>
  some (decide ((0:Int)≤a))
def Xs (p_1:List zc) (p_2:zc→Option Bool):Nat→Int→Option Int
  | 0,_=>none
  | n+1,i20 =>
    if i20<(p_1.length:Int) then
      (at_ p_1 i20).bind fun a =>
      (p_2 a).bind fun b =>
      if b=true then
        some i20
      else
        (i64 (i20+1)).bind fun i49 =>
        Xs p_1 p_2 n i49
    else
      some (-1)
def Nx  (p_1:List zc) (p_2:zc→Option Bool):Option Int :=
  Xs p_1 p_2 (p_1.length+1) 0
def Ox  (p_1:List zc) (p_2:zc→Option Bool):Option Bool :=
  (Nx p_1 p_2).bind fun a =>
  some (decide ((0:Int)≤a))
def Iw  (p_1:Int) (p_2:Option He):Option Bool :=
  (Fm p_1).bind fun a =>
  if a=true then
    some false
  else
    (p_2).bind fun b =>
    (Vs b p_1).bind fun c =>
    some (!c)
def nn (p_1:He) (p_2:Pf) (a:Bool):Option Int :=
  if a=true then
    some 9
  else
    (eu p_2.Xg (fun b=>Iw b (some p_1))).bind fun c =>
    if c=true then
      some 9
    else
      some 0
def Xr (p_1:He) (p_2:Pf) (a:Bool):Option Int :=
  if a=true then
    some 5
  else
    if p_2.Kind≠4 then
      (Fm p_2.Result).bind fun b =>
      if b=true then
        if p_2.Kind=3 then
          (Fm p_2.Pe).bind fun c =>
          nn p_1 p_2 (!c)
        else
          nn p_1 p_2 false
      else
        nn p_1 p_2 true
    else
      if p_2.Kind=3 then
        (Fm p_2.Pe).bind fun d =>
        nn p_1 p_2 (!d)
      else
        nn p_1 p_2 false
def zm (p_1:He) (p_2:Pf) (a:Bool):Option Int :=
  if a=true then
    some 5
  else
    if (p_2.Code.length:Int)<1 then
      Xr p_1 p_2 true
    else
      Xr p_1 p_2 (decide ((4000:Int)<(p_2.Code.length:Int)))
def Gp (p_1:He) (p_2:Pf) (a:Bool):Option Int :=
  if a=true then
    some 1
  else
    if (200:Int)<(p_2.Xg.length:Int) then
      zm p_1 p_2 true
    else
      if p_2.Params<0 then
        zm p_1 p_2 true
      else
        if (6:Int)<p_2.Params then
          zm p_1 p_2 true
        else
          if (p_2.Xg.length:Int)<p_2.Params then
            zm p_1 p_2 true
          else
            if p_2.Kind=4 then
              zm p_1 p_2 (decide ((0:Int)<p_2.Params))
            else
              zm p_1 p_2 false
def jx  (p_1:He) (p_2:Pf):Option Int :=
  if p_2.Kind≠2 then
    if p_2.Kind≠3 then
      Gp p_1 p_2 (decide (p_2.Kind≠4))
    else
      Gp p_1 p_2 false
  else
    Gp p_1 p_2 false
def Yr (i55:Int) (a:Int→Option wg) (b:Bool):Option wg :=
  if b=true then
    some (wg.mk 3 0 i55)
  else
    (i64 (i55+1)).bind fun i93 =>
    a i93
def Zr (p_1:He) (i163:Int) (i164:Int) (a:Pf) (b:Int→Int→Option wg):Nat→Int→Option wg
  | 0,_=>none
  | n+1,i268 =>
    if i268<(a.Code.length:Int) then
      (at_ a.Code i268).bind fun d =>
      (Hw p_1 a d).bind fun c =>
      if c≠0 then
        some (wg.mk c i164 i268)
      else
        (i64 (i268+1)).bind fun i300 =>
        Zr p_1 i163 i164 a b n i300
    else
      if a.Kind=4 then
        (i64 (i163+1)).bind fun i303 =>
        (i64 (i164+1)).bind fun i305 =>
        b i303 i305
      else
        (i64 (i164+1)).bind fun i307 =>
        b i163 i307
def Hp (p_1:He) (a:Hd):Nat→Int→Int→Option wg
  | 0,_,_=>none
  | n+1,i163,i164 =>
    if i164<(a.Nd.length:Int) then
      (at_ a.Nd i164).bind fun b =>
      (jx p_1 b).bind fun c =>
      if c≠0 then
        some (wg.mk c i164 0)
      else
        Zr p_1 i163 i164 b (Hp p_1 a n) (b.Code.length+1) 0
    else
      if i163=0 then
        some (wg.mk 6 0 0)
      else
        some (wg.mk 0 0 0)
def eo (p_1:He) (a:Hd):Nat→Int→Option wg
  | 0,_=>none
  | n+1,i55 =>
    if i55<(a.Qd.length:Int) then
      (at_ a.Qd i55).bind fun b =>
      (Fm b.We).bind fun c =>
      if c=true then
        if b.Ug<1 then
          Yr i55 (eo p_1 a n) true
        else
          Yr i55 (eo p_1 a n) (decide ((20:Int)<b.Ug))
      else
        some (wg.mk 9 0 i55)
    else
      Hp p_1 a (a.Nd.length+1) 0 0
def bs (p_1:He) (kf:Bool):Option wg :=
  if kf=true then
    some (wg.mk 5 0 0)
  else
    (p_1.m).bind fun a =>
    eo p_1 a (a.Qd.length+1) 0
def kx  (p_1:He):Option wg :=
  (p_1.m).bind fun a =>
  if (30:Int)<(a.Qd.length:Int) then
    bs p_1 true
  else
    bs p_1 (decide ((30:Int)<(a.Nd.length:Int)))
end Go.Y
namespace Go.Y
open Go.bc Go.Xc
def Uu  (a:List Int) (b:List Bool):Option Ud :=
  some (Ud.mk a b)
def Ev  (p_1:Ud):Option Ud :=
  (small p_1.stack).bind fun a =>
  (small p_1.has).bind fun b =>
  Uu p_1.stack p_1.has
def Vu  (a:List Int) (b:List Bool):Option Ud :=
  some (Ud.mk a b)
def Fv  (p_1:Ud):Option Ud :=
  (small p_1.stack).bind fun a =>
  (small p_1.has).bind fun b =>
  Vu p_1.stack p_1.has
def Nr (p_1:List Int) (p_2:List Int):Nat→Int→Option Bool
  | 0,_=>none
  | n+1,i33 =>
    if i33<(p_1.length:Int) then
      (at_ p_1 i33).bind fun a =>
      (at_ p_2 i33).bind fun b =>
      if a≠b then
        some false
      else
        (i64 (i33+1)).bind fun i83 =>
        Nr p_1 p_2 n i83
    else
      some true
def Jw  (p_1:List Int) (p_2:List Int):Option Bool :=
  if (p_1.length:Int)≠(p_2.length:Int) then
    some false
  else
    Nr p_1 p_2 (p_1.length+1) 0
def vj  (a:Int) (p_2:Int):Option Int :=
  if a=0 then
    some p_2
  else
    some a
def gj  (c:List Int) (b:Int) (p_2:Int):Option (List Int×Int):=
  (app c [p_2]).bind fun a =>
  if (300:Int)<(a.length:Int) then
    (vj b 4).bind fun d =>
    some (a,d)
  else
    some (a,b)
def Qm  (a:List Int) (b:Int):Option (Int×List Int×Int):=
  if (a.length:Int)=0 then
    (vj b 12).bind fun c =>
    some (0,a,c)
  else
    (i64 ((a.length:Int) - 1)).bind fun i19 =>
    (at_ a i19).bind fun d =>
    (i64 ((a.length:Int) - 1)).bind fun i35 =>
    (cut a 0 i35).bind fun e =>
    some (d,e,b)
def Ip (p_2:List Int):Nat→Int→Int→(List Int)→Option (List Int×Int)
  | 0,_,_,_=>none
  | n+1,i40,i41,b =>
    if (0:Int)≤i40 then
      (Qm b i41).bind fun a =>
      (at_ p_2 i40).bind fun c =>
      if a.1≠c then
        (vj a.2.2 9).bind fun d =>
        (i64 (i40 - 1)).bind fun i88 =>
        Ip p_2 n i88 d a.2.1
      else
        (i64 (i40 - 1)).bind fun i90 =>
        Ip p_2 n i90 a.2.2 a.2.1
    else
      some (b,i41)
def Wj (fu:Nat)  (a:List Int) (b:Int) (p_2:List Int):Option (List Int×Int):=
  (i64 ((p_2.length:Int) - 1)).bind fun i18 =>
  Ip p_2 fu i18 b a
def Kw (p_2:Int) (a:List Int) (b:List Int) (c:List Bool) (d:Int) (e:List (Int×Ud)):Option (List (Int×Ud)×List Int×List Int×List Bool×Int):=
  (app a [p_2]).bind fun f =>
  some (e,f,b,c,d)
def zt (c:Bool) (i129:Int) (a:List Bool) (b:Bool→Int→(List Bool)→Option (List (Int×Ud)×List Int×List Int×List Bool×Int)) (d:Bool):Option (List (Int×Ud)×List Int×List Int×List Bool×Int):=
  if d=true then
    (at_ a i129).bind fun e =>
    (i64 (i129+1)).bind fun i236 =>
    b true i236 (a.set i129.toNat false)
  else
    (i64 (i129+1)).bind fun i238 =>
    b c i238 a
def wo (p_2:Int) (d:List (Int×Ud)) (e:List Int) (f:List Int) (a:List Bool) (g:Int) (b:Ud):Nat→Bool→Int→(List Bool)→Option (List (Int×Ud)×List Int×List Int×List Bool×Int)
  | 0,_,_,_=>none
  | n+1,h,i129,c =>
    if i129<(b.has.length:Int) then
      (at_ c i129).bind fun i =>
      if i=true then
        (at_ a i129).bind fun j =>
        zt h i129 c (wo p_2 d e f a g b n) (!j)
      else
        zt h i129 c (wo p_2 d e f a g b n) false
    else
      if h=true then
        (app e [p_2]).bind fun k =>
        some ((pe d p_2 (Ud.mk b.stack c)),k,f,a,g)
      else
        some ((pe d p_2 (Ud.mk b.stack c)),e,f,a,g)
def Qo  (l:He) (h:Pf) (a:List (Int×Ud)) (e:List Int) (b:List Int) (c:List Bool) (d:Int) (p_2:Int):Option (List (Int×Ud)×List Int×List Int×List Bool×Int):=
  if d≠0 then
    some (a,e,b,c,d)
  else
    if p_2=(h.Code.length:Int) then
      (vj d 3).bind fun i =>
      some (a,e,b,c,i)
    else
      if (Ge a p_2).isSome=true then
        (Ge a p_2).bind fun f =>
        (Jw f.stack b).bind fun j =>
        if j=true then
          wo p_2 a e b c d f (f.has.length+1) false 0 f.has
        else
          (vj d 8).bind fun k =>
          some (a,e,b,c,k)
      else
        (Ev (Ud.mk b c)).bind fun g =>
        Kw p_2 e b c d (pe a p_2 (Ud.mk g.stack g.has))
def Pt (fu:Nat)  (c:He) (d:List Int) (e:Int) (p_2:Int):Option (Pf×List Int×Int):=
  (c.m).bind fun f =>
  (at_ f.Nd p_2).bind fun a =>
  (cut a.Xg 0 a.Params).bind fun g =>
  (Wj fu d e g).bind fun b =>
  some (a,b.1,b.2)
def gu  (b:He) (c:List Int) (d:Int):Option (Option Pf×List Int×Int):=
  (Qm c d).bind fun a =>
  if a.2.2≠0 then
    some (none,a.2.1,a.2.2)
  else
    (Vs b a.1).bind fun e =>
    if e=true then
      (b.m).bind fun f =>
      (i64 (a.1 - 10)).bind fun i49 =>
      (at_ f.Nd i49).bind fun g =>
      some ((some g),a.2.1,a.2.2)
    else
      (vj a.2.2 9).bind fun h =>
      some (none,a.2.1,h)
def fs (a:List Int) (i15:Int):Option (Bool×List Int×Int):=
  some (false,a,i15)
def Qt  (a:List Int) (b:Int):Option (Bool×List Int×Int):=
  if (0:Int)<(a.length:Int) then
    (vj b 12).bind fun c =>
    fs a c
  else
    fs a b
def hk (a:List (Int×Ud)) (b:List Int) (c:List Bool) (i52:Int) (d:List Int):Option (Bool×List (Int×Ud)×List Int×List Int×List Bool×Int):=
  some (true,a,b,d,c,i52)
def Wq (fu:Nat) (c:Pf) (d:List (Int×Ud)) (e:List Int) (f:List Int) (g:List Bool) (i104:Int):Option (Bool×List (Int×Ud)×List Int×List Int×List Bool×Int):=
  (Wj fu f i104 [c.Result]).bind fun b =>
  (Qt b.1 b.2).bind fun a =>
  some (a.1,d,e,a.2.1,g,a.2.2)
def Xq (b:List (Int×Ud)) (c:List Int) (d:List Int) (e:List Bool) (i127:Int):Option (Bool×List (Int×Ud)×List Int×List Int×List Bool×Int):=
  (Qt d i127).bind fun a =>
  some (a.1,b,c,a.2.1,e,a.2.2)
def Yq (b:List (Int×Ud)) (c:List Int) (d:List Bool) (a:Int×List Int×Int) (e:Bool):Option (Bool×List (Int×Ud)×List Int×List Int×List Bool×Int):=
  if e=true then
    (vj a.2.2 9).bind fun f =>
    hk b c d f a.2.1
  else
    hk b c d a.2.2 a.2.1
def Zq (b:List (Int×Ud)) (c:List Int) (d:List Bool) (e:Option Pf×List Int×Int) (f:Pf) (i245:Int):Option (Bool×List (Int×Ud)×List Int×List Int×List Bool×Int):=
  (gj e.2.1 i245 f.Result).bind fun a =>
  hk b c d a.2 a.1
def ar (fu:Nat) (a:Pf) (d:List (Int×Ud)) (e:List Int) (f:List Int) (g:List Bool) (i258:Int):Option (Bool×List (Int×Ud)×List Int×List Int×List Bool×Int):=
  (Wj fu f i258 [a.Result]).bind fun b =>
  (gj b.1 b.2 a.Pe).bind fun c =>
  hk d e g c.2 c.1
def Gv (fu:Nat)  (h:He) (g:Pf) (a:List (Int×Ud)) (b:List Int) (d:List Int) (c:List Bool) (e:Int) (p_2:zc):Option (Bool×List (Int×Ud)×List Int×List Int×List Bool×Int):=
  if p_2.Op=23 then
    (Pt fu h d e p_2.A).bind fun j =>
    (gj j.2.1 j.2.2 j.1.Result).bind fun n =>
    hk a b c n.2 n.1
  else
    if p_2.Op=29 then
      (Pt fu h d e p_2.A).bind fun o =>
      (i64 (10+p_2.A)).bind fun i95 =>
      (gj o.2.1 o.2.2 i95).bind fun p =>
      hk a b c p.2 p.1
    else
      if p_2.Op=24 then
        if g.Kind≠2 then
          (vj e 8).bind fun u =>
          Wq fu g a b d c u
        else
          Wq fu g a b d c e
      else
        if p_2.Op=25 then
          if g.Kind=2 then
            (vj e 8).bind fun v =>
            Xq a b d c v
          else
            Xq a b d c e
        else
          if p_2.Op=26 then
            (h.m).bind fun w =>
            (at_ w.Qd p_2.A).bind fun x =>
            (Wj fu d e [x.We]).bind fun q =>
            hk a b c q.2 q.1
          else
            if p_2.Op=27 then
              (h.m).bind fun y =>
              (at_ y.Qd p_2.A).bind fun z =>
              (gj d e z.We).bind fun r =>
              hk a b c r.2 r.1
            else
              if p_2.Op=28 then
                (Qm d e).bind fun i =>
                if i.2.2=0 then
                  (Fm i.1).bind fun B =>
                  Yq a b c i (!B)
                else
                  Yq a b c i false
              else
                if p_2.Op=30 then
                  (Qm d e).bind fun k =>
                  (gu h k.2.1 k.2.2).bind fun f =>
                  if f.1.isSome=true then
                    (f.1).bind fun l =>
                    if k.1≠l.Pe then
                      (vj f.2.2 9).bind fun C =>
                      Zq a b c f l C
                    else
                      Zq a b c f l f.2.2
                  else
                    hk a b c f.2.2 f.2.1
                else
                  if p_2.Op=31 then
                    if g.Kind≠3 then
                      (vj e 8).bind fun D =>
                      ar fu g a b d c D
                    else
                      ar fu g a b d c e
                  else
                    if p_2.Op=32 then
                      (gu h d e).bind fun s =>
                      (gj s.2.1 s.2.2 2).bind fun t =>
                      hk a b c t.2 t.1
                    else
                      hk a b c e d
def Qj  (i52:Int) (a:List Int) (b:List Int) (c:List Bool) (d:List (Int×Ud)):Option (Bool×List (Int×Ud)×List Int×List Int×List Bool×Int):=
  some (true,d,a,b,c,i52)
def hs (p_2:zc) (b:Pf) (c:List (Int×Ud)) (d:List Int) (e:List Int) (f:List Bool) (i99:Int):Option (Bool×List (Int×Ud)×List Int×List Int×List Bool×Int):=
  (at_ b.Xg p_2.A).bind fun g =>
  (gj e i99 g).bind fun a =>
  Qj a.2 d a.1 f c
def js (fu:Nat) (d:List (Int×Ud)) (e:List Int) (f:List Bool) (a:Int×List Int×Int) (i227:Int):Option (Bool×List (Int×Ud)×List Int×List Int×List Bool×Int):=
  (Wj fu a.2.1 i227 [a.1]).bind fun b =>
  (gj b.1 b.2 2).bind fun c =>
  Qj c.2 e c.1 f d
def ks (fu:Nat) (b:List (Int×Ud)) (c:List Int) (d:List Bool) (a:Int×List Int×Int) (e:Bool):Option (Bool×List (Int×Ud)×List Int×List Int×List Bool×Int):=
  if e=true then
    (vj a.2.2 9).bind fun f =>
    js fu b c d a f
  else
    js fu b c d a a.2.2
def ns (fu:Nat) (i:He) (p_2:zc) (j:Pf) (d:List (Int×Ud)) (e:List Int) (f:List Int) (g:List Bool) (h:Int) (n:Bool):Option (Bool×List (Int×Ud)×List Int×List Int×List Bool×Int):=
  if n=true then
    (Wj fu f h [2,2]).bind fun k =>
    (gj k.1 k.2 2).bind fun l =>
    Qj l.2 e l.1 g d
  else
    if p_2.Op=21 then
      (Qo i j d e f g h p_2.A).bind fun b =>
      some (false,b.1,b.2.1,b.2.2.1,b.2.2.2.1,b.2.2.2.2)
    else
      if p_2.Op=22 then
        (Wj fu f h [2]).bind fun m =>
        (Qo i j d e m.1 g m.2 p_2.A).bind fun c =>
        Qj c.2.2.2.2 c.2.1 c.2.2.1 c.2.2.2.1 c.1
      else
        (Gv fu i j d e f g h p_2).bind fun a =>
        some (a.1,a.2.1,a.2.2.1,a.2.2.2.1,a.2.2.2.2.1,a.2.2.2.2.2)
def ps (fu:Nat) (f:He) (p_2:zc) (g:Pf) (a:List (Int×Ud)) (b:List Int) (c:List Int) (d:List Bool) (e:Int) (j:Bool):Option (Bool×List (Int×Ud)×List Int×List Int×List Bool×Int):=
  if j=true then
    (Wj fu c e [1,1]).bind fun h =>
    (gj h.1 h.2 2).bind fun i =>
    Qj i.2 b i.1 d a
  else
    if p_2.Op=19 then
      ns fu f p_2 g a b c d e true
    else
      ns fu f p_2 g a b c d e (decide (p_2.Op=20))
def qs (fu:Nat) (g:He) (p_2:zc) (h:Pf) (a:List (Int×Ud)) (b:List Int) (e:List Int) (c:List Bool) (f:Int) (i:Bool):Option (Bool×List (Int×Ud)×List Int×List Int×List Bool×Int):=
  if i=true then
    (Qm e f).bind fun d =>
    if d.1≠1 then
      ks fu a b c d (decide (d.1≠2))
    else
      ks fu a b c d false
  else
    if (15:Int)≤p_2.Op then
      ps fu g p_2 h a b e c f (decide (p_2.Op≤18))
    else
      ps fu g p_2 h a b e c f false
def ss (fu:Nat) (f:He) (p_2:zc) (g:Pf) (a:List (Int×Ud)) (b:List Int) (c:List Int) (d:List Bool) (e:Int) (j:Bool):Option (Bool×List (Int×Ud)×List Int×List Int×List Bool×Int):=
  if j=true then
    (Wj fu c e [1,1]).bind fun h =>
    (gj h.1 h.2 1).bind fun i =>
    Qj i.2 b i.1 d a
  else
    if p_2.Op=13 then
      qs fu f p_2 g a b c d e true
    else
      qs fu f p_2 g a b c d e (decide (p_2.Op=14))
def lx (fu:Nat)  (g:He) (f:Pf) (b:List (Int×Ud)) (c:List Int) (d:List Int) (a:List Bool) (e:Int) (p_2:zc):Option (Bool×List (Int×Ud)×List Int×List Int×List Bool×Int):=
  if p_2.Op=1 then
    (gj d e 1).bind fun h =>
    Qj h.2 c h.1 a b
  else
    if p_2.Op=2 then
      (gj d e 2).bind fun i =>
      Qj i.2 c i.1 a b
    else
      if p_2.Op=3 then
        (at_ a p_2.A).bind fun p =>
        if p=true then
          hs p_2 f b c d a e
        else
          (vj e 11).bind fun q =>
          hs p_2 f b c d a q
      else
        if p_2.Op=4 then
          (at_ f.Xg p_2.A).bind fun r =>
          (Wj fu d e [r]).bind fun j =>
          (at_ a p_2.A).bind fun s =>
          Qj j.2 c j.1 (a.set p_2.A.toNat true) b
        else
          if p_2.Op=5 then
            (Qm d e).bind fun k =>
            Qj k.2.2 c k.2.1 a b
          else
            if p_2.Op=6 then
              (Wj fu d e [1]).bind fun l =>
              (gj l.1 l.2 1).bind fun m =>
              Qj m.2 c m.1 a b
            else
              if p_2.Op=7 then
                (Wj fu d e [2]).bind fun n =>
                (gj n.1 n.2 2).bind fun o =>
                Qj o.2 c o.1 a b
              else
                if (8:Int)≤p_2.Op then
                  ss fu g p_2 f b c d a e (decide (p_2.Op≤12))
                else
                  ss fu g p_2 f b c d a e false
def ts (p_2:Int) (b:Int) (c:Int→(List Bool)→(List Int)→(List Int)→(List (Int×Ud))→Option wg) (a:Int) (d:List Bool) (e:List Int) (f:List Int) (g:List (Int×Ud)):Option wg :=
  if a≠0 then
    some (wg.mk a p_2 b)
  else
    c a d e f g
def fo (fu:Nat) (p_1:He) (p_2:Int) (b:Pf):Nat→Int→(List Bool)→(List Int)→(List Int)→(List (Int×Ud))→Option wg
  | 0,_,_,_,_,_=>none
  | n+1,i223,l,e,m,f =>
    if (0:Int)<(e.length:Int) then
      (at_ e 0).bind fun c =>
      (cut e 1 e.length).bind fun h =>
      (Ge f c).bind fun i =>
      (Fv i).bind fun g =>
      (at_ b.Code c).bind fun j =>
      (lx fu p_1 b f h g.stack g.has i223 j).bind fun a =>
      if a.1=true then
        (i64 (c+1)).bind fun k =>
        (Qo p_1 b a.2.1 a.2.2.1 a.2.2.2.1 a.2.2.2.2.1 a.2.2.2.2.2 k).bind fun d =>
        ts p_2 c (fo fu p_1 p_2 b n) d.2.2.2.2 d.2.2.2.1 d.2.1 d.2.2.1 d.1
      else
        ts p_2 c (fo fu p_1 p_2 b n) a.2.2.2.2.2 a.2.2.2.2.1 a.2.2.1 a.2.2.2.1 a.2.1
    else
      some (wg.mk 0 0 0)
def zs (fu:Nat) (p_1:He) (p_2:Int) (b:Pf):Nat→Int→(List Bool)→Option wg
  | 0,_,_=>none
  | n+1,i60,c =>
    if i60<b.Params then
      (at_ c i60).bind fun d =>
      (i64 (i60+1)).bind fun i100 =>
      zs fu p_1 p_2 b n i100 (c.set i60.toNat true)
    else
      (Qo p_1 b ([]:List (Int×Ud)) ([]:List Int) ([]:List Int) c 0 0).bind fun a =>
      fo fu p_1 p_2 b fu a.2.2.2.2 a.2.2.2.1 a.2.1 a.2.2.1 a.1
def mx (fu:Nat)  (p_1:He) (p_2:Int):Option wg :=
  (p_1.m).bind fun b =>
  (at_ b.Nd p_2).bind fun a =>
  (Kn (a.Xg.length:Int)).bind fun c =>
  zs fu p_1 p_2 a ((a.Params - 0).toNat+1) 0 (List.replicate c (false:Bool))
def tp (i353:Int) (a:List Int) (c:zc) (b:Int→(List Int)→Option (List Int)) (d:Bool):Option (List Int):=
  if d=true then
    (app a [c.A]).bind fun e =>
    (i64 (i353+1)).bind fun f =>
    b f e
  else
    (i64 (i353+1)).bind fun g =>
    b g a
def kn (i144:Int) (c:Pf) (d:Int→(List Int)→Option (List Int)):Nat→Int→(List Int)→Option (List Int)
  | 0,_,_=>none
  | n+1,i353,b =>
    if i353<(c.Code.length:Int) then
      (at_ c.Code i353).bind fun a =>
      if a.Op=23 then
        tp i353 b a (kn i144 c d n) (!(b.contains a.A))
      else
        if a.Op=29 then
          tp i353 b a (kn i144 c d n) (!(b.contains a.A))
        else
          tp i353 b a (kn i144 c d n) false
    else
      (i64 (i144+1)).bind fun e =>
      d e b
def Xn (p_1:He):Nat→Int→(List Int)→Option (List Int)
  | 0,_,_=>none
  | n+1,i144,a =>
    if i144<(a.length:Int) then
      (p_1.m).bind fun c =>
      (at_ a i144).bind fun d =>
      (at_ c.Nd d).bind fun b =>
      kn i144 b (Xn p_1 n) (b.Code.length+1) 0 a
    else
      some a
def Lw (fu:Nat)  (p_1:He) (p_2:Int):Option (List Int):=
  Xn p_1 fu 0 ([p_2]:List Int)
def Hv  (p_1:zc) (p_2:Int) (a:Int):Option Bool :=
  if p_1.Op=p_2 then
    some (decide (p_1.A=a))
  else
    some false
def dw  (p_1:Int) (p_2:Option He) (a:Int) (b:Int):Option Bool :=
  (p_2).bind fun c =>
  (c.m).bind fun d =>
  (at_ d.Nd p_1).bind fun e =>
  (Ox e.Code (fun f=>Hv f a b)).bind fun g =>
  some g
def Pr (a:Int) (b:Int) (c:Int→Int→Option wg) (d:Bool):Option wg :=
  if d=true then
    (i64 (a+1)).bind fun e =>
    (i64 (b+1)).bind fun f =>
    c e f
  else
    (i64 (b+1)).bind fun g =>
    c a g
def Yn (fu:Nat) (p_1:He) (b:Hd) (c:Int) (d:Int) (e:Int) (f:Int→Option wg):Nat→Int→Int→Option wg
  | 0,_,_=>none
  | n+1,g,a =>
    if a<(b.Nd.length:Int) then
      (at_ b.Nd a).bind fun h =>
      if h.Kind=4 then
        (Lw fu p_1 a).bind fun i =>
        (eu i (fun j=>dw j (some p_1) e c)).bind fun k =>
        Pr g a (Yn fu p_1 b c d e f n) k
      else
        Pr g a (Yn fu p_1 b c d e f n) false
    else
      if (1:Int)<g then
        some (wg.mk 8 0 c)
      else
        (i64 (d+1)).bind fun l =>
        f l
def Zn (fu:Nat) (p_1:He) (a:Hd) (b:Int) (d:Int→Option wg):Nat→Int→Option wg
  | 0,_=>none
  | n+1,c =>
    if c<2 then
      (at_ [26,27] c).bind fun e =>
      Yn fu p_1 a b c e (Zn fu p_1 a b d n) (a.Nd.length+1) 0 0
    else
      (i64 (b+1)).bind fun f =>
      d f
def ln (fu:Nat) (p_1:He) (a:Hd):Nat→Int→Option wg
  | 0,_=>none
  | n+1,b =>
    if b<(a.Qd.length:Int) then
      Zn fu p_1 a b (ln fu p_1 a n) 3 0
    else
      some (wg.mk 0 0 0)
def Mw (fu:Nat)  (p_1:He):Option wg :=
  (p_1.m).bind fun a =>
  ln fu p_1 a (a.Qd.length+1) 0
def pr (fu:Nat) (p_1:Hd):Nat→Int→Option wg
  | 0,_=>none
  | n+1,i30 =>
    if i30<(p_1.Nd.length:Int) then
      (mx fu (He.mk (some p_1)) i30).bind fun a =>
      if a.ih≠0 then
        some a
      else
        (i64 (i30+1)).bind fun i46 =>
        pr fu p_1 n i46
    else
      (Mw fu (He.mk (some p_1))).bind fun b =>
      some b
def ew (fu:Nat)  (p_1:Hd):Option wg :=
  (kx (He.mk (some p_1))).bind fun a =>
  if a.ih≠0 then
    some a
  else
    pr fu p_1 (p_1.Nd.length+1) 0
end Go.Y
namespace Go.Y
open Go.bc Go.Xc
def Px  (p_1:Int) (p_2:Int):Option (List Int×Int×Int×Int):=
  (Kn p_1).bind fun a =>
  some ((List.replicate a (0:Int)),0,p_1,p_2)
def zo  (a:Int):Option Int :=
  some a
def At  (b:List Int) (a:Int) (c:Int) (d:Int) (p_2:Int):Option (List Int×Int×Int×Int):=
  (Kn p_2).bind fun e =>
  (cut b 0 a).bind fun f =>
  some ((Hq (List.replicate e (0:Int)) f),a,c,d)
def As (p_2:Int) (i14:Int) (i15:Int) (i16:Int) (a:List Int):Option (Bool×List Int×Int×Int×Int):=
  (at_ a i14).bind fun b =>
  (i64 (i14+1)).bind fun i56 =>
  some (true,(a.set i14.toNat p_2),i56,i15,i16)
def Iv (p_2:Int) (i22:Int) (i23:Int) (i24:Int) (a:List Int):Option (Bool×List Int×Int×Int×Int):=
  As p_2 i22 i23 i24 a
def Jv (a:List Int) (p_2:Int) (c:Int) (e:Int) (d:Int):Option (Bool×List Int×Int×Int×Int):=
  if c=(a.length:Int) then
    (i64 (2*(a.length:Int))).bind fun i29 =>
    (At a c e d (min i29 d)).bind fun b =>
    Iv p_2 b.2.1 b.2.2.1 b.2.2.2 b.1
  else
    As p_2 c e d a
def Rt  (c:List Int) (a:Int) (d:Int) (b:Int) (p_2:Int):Option (Bool×List Int×Int×Int×Int):=
  if a=b then
    some (false,c,a,d,b)
  else
    Jv c p_2 a d b
def fw  (i20:Int) (i21:Int) (i22:Int) (a:List Int):Option (List Int×Int×Int×Int):=
  some (a,i20,i21,i22)
def Ys (b:List Int) (c:Int) (d:Int) (i12:Int) (e:Bool):Option (List Int×Int×Int×Int):=
  if e=true then
    (quo (b.length:Int) 2).bind fun i27 =>
    (At b i12 c d (max i27 c)).bind fun a =>
    fw a.2.1 a.2.2.1 a.2.2.2 a.1
  else
    some (b,i12,c,d)
def jq  (a:List Int) (d:Int) (b:Int) (c:Int) (p_2:Int):Option (List Int×Int×Int×Int):=
  (i64 (d - p_2)).bind fun i12 =>
  (quo (a.length:Int) 4).bind fun i15 =>
  if i12≤i15 then
    Ys a b c i12 (decide (b<(a.length:Int)))
  else
    Ys a b c i12 false
def Lm  (p_2:Int) (a:Int) (b:Int):Option Unit :=
  some ()
def Mm  (a:Int) (b:Int) (c:Int) (p_2:Int):Option (Int×Int×Int):=
  if a≠5 then
    (Lm 5 0 p_2).bind fun d =>
    some (5,b,p_2)
  else
    some (a,b,c)
def yl  (p_1:Bool):Option Int :=
  if p_1=true then
    some 1
  else
    some 0
def Zs (p_1:Int) (p_2:Int) (a:Int) (kf:Bool):Option Int :=
  if kf=true then
    (yl (decide (p_1=11))).bind fun b =>
    some (Jn (b*p_2))
  else
    if p_1=11 then
      (quo p_2 a).bind fun i16 =>
      some i16
    else
      (Yo p_2 a).bind fun i18 =>
      some i18
def bt (p_1:Int) (p_2:Int) (a:Int) (sf:Bool):Option Int :=
  if sf=true then
    if p_2=(-9223372036854775808) then
      Zs p_1 p_2 a (decide (a=(-1)))
    else
      Zs p_1 p_2 a false
  else
    if p_1=13 then
      (yl (decide (p_2=a))).bind fun b =>
      some b
    else
      if p_1=14 then
        (yl (decide (p_2≠a))).bind fun c =>
        some c
      else
        if p_1=15 then
          (yl (decide (p_2<a))).bind fun d =>
          some d
        else
          if p_1=16 then
            (yl (decide (p_2≤a))).bind fun e =>
            some e
          else
            if p_1=17 then
              (yl (decide (a<p_2))).bind fun f =>
              some f
            else
              if p_1=18 then
                (yl (decide (a≤p_2))).bind fun g =>
                some g
              else
                if p_1=19 then
                  none
                else
                  none
def Qx  (p_1:Int) (p_2:Int) (a:Int):Option Int :=
  if p_1=8 then
    some (Jn (p_2+a))
  else
    if p_1=9 then
      some (Jn (p_2 - a))
    else
      if p_1=10 then
        some (Jn (p_2*a))
      else
        if p_1=11 then
          bt p_1 p_2 a (decide (p_1=11))
        else
          bt p_1 p_2 a (decide (p_1=12))
def vp (p_1:Hd):Nat→Int→(List Int)→Option (List Int)
  | 0,_,_=>none
  | n+1,i43,a =>
    if i43<(p_1.Nd.length:Int) then
      (at_ p_1.Nd i43).bind fun b =>
      if b.Kind=4 then
        (app a [i43]).bind fun c =>
        (i64 (i43+1)).bind fun i104 =>
        vp p_1 n i104 c
      else
        (i64 (i43+1)).bind fun i106 =>
        vp p_1 n i106 a
    else
      some a
def Nw  (p_1:Hd):Option (List Int):=
  vp p_1 (p_1.Nd.length+1) 0 []
end Go.Y
namespace Go.Y
open Go.bc Go.Xc
def Rx  (p_1:Int):Option (List Int×Int×Int):=
  (Kn p_1).bind fun a =>
  some ((List.replicate a (0:Int)),0,0)
def Kv (a:List Int) (b:Int):Option Bool :=
  some (decide (b=(a.length:Int)))
def nx  (a:List Int) (c:Int) (b:Int):Option Bool :=
  Kv a b
def Ow  (a:Int):Option Bool :=
  some (decide (a=0))
def gw (a:Int) (b:Int) (c:List Int):Option (List Int×Int×Int):=
  (i64 (b+1)).bind fun i36 =>
  some (c,a,i36)
def Sx  (a:List Int) (b:Int) (c:Int) (p_2:Int):Option (List Int×Int×Int):=
  (i64 (b+c)).bind fun i15 =>
  (Yo i15 (a.length:Int)).bind fun i17 =>
  (at_ a i17).bind fun d =>
  gw b c (a.set i17.toNat p_2)
def Lv (a:List Int) (b:Int) (c:Int) (i25:Int):Option (Int×List Int×Int×Int):=
  (i64 (b - 1)).bind fun i31 =>
  some (c,a,i25,i31)
def ox  (a:List Int) (b:Int) (c:Int):Option (Int×List Int×Int×Int):=
  (at_ a b).bind fun d =>
  (i64 (b+1)).bind fun i26 =>
  (Yo i26 (a.length:Int)).bind fun i28 =>
  Lv a c d i28
def nv (i39:Int) (a:Int→(List Int)→Option (List Int)) (b:List Int):Option (List Int):=
  (i64 (i39+1)).bind fun i105 =>
  a i105 b
def xp (a:List Int) (b:Int) (c:Int):Nat→Int→(List Int)→Option (List Int)
  | 0,_,_=>none
  | n+1,i39,d =>
    if i39<c then
      (i64 (b+i39)).bind fun i78 =>
      (Yo i78 (a.length:Int)).bind fun i80 =>
      (at_ a i80).bind fun e =>
      (app d [e]).bind fun f =>
      nv i39 (xp a b c n) f
    else
      some d
def Pw  (b:List Int) (c:Int) (a:Int):Option (List Int):=
  xp b c a ((a - 0).toNat+1) 0 []
end Go.Y
namespace Go.Y
open Go.bc Go.Xc
structure Wd where
  l:List Int
  first:Int
  n:Int
deriving Inhabited
def px (Tc:List Wd) (i:Int):Option Bool:=(at_ Tc i).bind fun b=>nx b.l b.first b.n
def Qw (Tc:List Wd) (i:Int):Option Bool:=(at_ Tc i).bind fun b=>Ow b.n
def Tx (Tc:List Wd) (i v:Int):Option (List Wd):=
  (at_ Tc i).bind fun b=>(Sx b.l b.first b.n v).bind fun r=>some (Tc.set i.toNat ⟨r.1,r.2.1,r.2.2⟩)
def qx (Tc:List Wd) (i:Int):Option (Int×List Wd):=
  (at_ Tc i).bind fun b=>(ox b.l b.first b.n).bind fun r=>some (r.1,Tc.set i.toNat ⟨r.2.1,r.2.2.1,r.2.2.2⟩)
end Go.Y
namespace Go.Y
open Go.bc Go.Xc
structure fc where
  unit:Int
  Ag:Int
  base:Int
  deriving DecidableEq,Inhabited,Repr
instance:Va fc where
  sz:=3
  pos:=by decide
  cs μ l x:=l=[.int .i64 x.unit,.int .i64 x.Ag,.int .i64 x.base]
  fh h:=by obtain rfl:=h;rfl
  up le h:=by exact h
  sg h:=by obtain rfl:=h;rfl
def Hk  (c:Int) (d:Int) (e:Int) (f:List Int) (g:Int) (h:Int) (i:Int) (p_2:Int):Option (Int×Int×Int×List Int×Int×Int×Int):=
  (Rt f g h i p_2).bind fun a =>
  if a.1=true then
    some (c,d,e,a.2.1,a.2.2.1,a.2.2.2.1,a.2.2.2.2)
  else
    (Mm c d e 4).bind fun b =>
    some (b.1,b.2.1,b.2.2,a.2.1,a.2.2.1,a.2.2.2.1,a.2.2.2.2)
def Zj  (d:Int) (e:Int) (f:Int) (b:List Int) (c:Int) (g:Int) (h:Int):Option (Int×Int×Int×Int×List Int×Int×Int×Int):=
  (zo c).bind fun i =>
  (i64 (i - 1)).bind fun i27 =>
  (at_ b i27).bind fun j =>
  (jq b c g h 1).bind fun a =>
  some (j,d,e,f,a.1,a.2.1,a.2.2.1,a.2.2.2)
def yp (a:List Wd) (b:Int) (i17:Int) (i18:Int):Option (Bool×List Wd×Int×Int×Int):=
  some (decide (i17≠1),a,i17,i18,b)
def ov (p_2:zc) (a:List Wd) (b:Int):Option (Bool×List Wd×Int×Int×Int):=
  yp a b 2 p_2.A
def pv (p_2:zc) (a:List Wd) (b:Int):Option (Bool×List Wd×Int×Int×Int):=
  yp a b 3 p_2.A
def Qr (p_2:zc) (a:List Wd) (b:Int) (c:Bool):Option (Bool×List Wd×Int×Int×Int):=
  if c=true then
    pv p_2 a b
  else
    yp a b 1 0
def Rr (p_2:zc) (a:List Wd) (b:Int) (hd:Bool):Option (Bool×List Wd×Int×Int×Int):=
  if hd=true then
    ov p_2 a b
  else
    if p_2.Op=27 then
      (Qw a p_2.A).bind fun c =>
      Qr p_2 a b c
    else
      Qr p_2 a b false
def Rw  (a:List Wd) (d:Int) (e:Int) (b:Int) (p_2:zc):Option (Bool×List Wd×Int×Int×Int):=
  if p_2.Op=26 then
    (px a p_2.A).bind fun c =>
    Rr p_2 a b c
  else
    Rr p_2 a b false
def Mv (d:Hd) (e:List Wd) (f:Int) (g:Int) (h:Int) (b:List fc) (i37:Int):Option (List Wd×Int×Int×Int×List fc):=
  (at_ b i37).bind fun c =>
  (at_ d.Nd c.unit).bind fun i =>
  (at_ i.Code c.Ag).bind fun j =>
  (Rw e f g h j).bind fun a =>
  some (a.2.1,a.2.2.1,a.2.2.2.1,a.2.2.2.2,b)
def Ao  (f:Hd) (c:List Wd) (b:Int) (d:Int) (e:Int) (a:List fc):Option (List Wd×Int×Int×Int×List fc):=
  if b≤3 then
    (i64 ((a.length:Int) - 1)).bind fun i39 =>
    (at_ a i39).bind fun g =>
    Mv f c b d e a i39
  else
    some (c,b,d,e,a)
def Bs (b:List fc) (i71:Int):Nat→Int→Int→Int→Int→Int→Int→Int→(List Int)→Option (Int×Int×Int×List fc×List Int×Int×Int×Int)
  | 0,_,_,_,_,_,_,_,_=>none
  | n+1,i81,i82,i83,i84,i85,i86,i87,c =>
    if i81<i71 then
      (Hk i82 i83 i84 c i85 i86 i87 0).bind fun a =>
      (i64 (i81+1)).bind fun i109 =>
      Bs b i71 n i109 a.1 a.2.1 a.2.2.1 a.2.2.2.2.1 a.2.2.2.2.2.1 a.2.2.2.2.2.2 a.2.2.2.1
    else
      some (i82,i83,i84,b,c,i85,i86,i87)
def Nv (p_2:Int) (c:Int) (d:Int) (e:Int) (a:List fc) (f:List Int) (g:Int) (h:Int) (i:Int) (j:Pf) (i53:Int):Option (Int×Int×Int×List fc×List Int×Int×Int×Int):=
  if (a.length:Int)=40 then
    (Mm c d e 4).bind fun b =>
    some (b.1,b.2.1,b.2.2,a,f,g,h,i)
  else
    (app a [(fc.mk p_2 0 i53)]).bind fun k =>
    (i64 ((j.Xg.length:Int) - j.Params)).bind fun i71 =>
    Bs k i71 ((i71 - 0).toNat+1) 0 c d e g h i f
def sx  (c:Hd) (d:Int) (e:Int) (f:Int) (g:List fc) (h:List Int) (a:Int) (i:Int) (j:Int) (p_2:Int):Option (Int×Int×Int×List fc×List Int×Int×Int×Int):=
  (at_ c.Nd p_2).bind fun b =>
  (zo a).bind fun k =>
  (i64 (k - b.Params)).bind fun i57 =>
  Nv p_2 d e f g h a i j b i57
def qv (c:Int) (b:Int×Int×Int×Int×List Int×Int×Int×Int) (d:List fc) (i111:Int) (i112:Int) (i113:Int) (e:List Int):Option (Int×Int×Int×Int×List fc×List Int×Int×Int×Int):=
  (Hk b.2.1 b.2.2.1 b.2.2.2.1 e i111 i112 i113 b.1).bind fun a =>
  some (a.1,a.2.1,a.2.2.1,c,d,a.2.2.2.1,a.2.2.2.2.1,a.2.2.2.2.2.1,a.2.2.2.2.2.2)
def rv (c:Int) (a:Int×Int×Int×Int×List Int×Int×Int×Int) (i61:Int) (d:List fc):Option (Int×Int×Int×Int×List fc×List Int×Int×Int×Int):=
  (zo a.2.2.2.2.2.1).bind fun e =>
  (i64 (e - i61)).bind fun i121 =>
  (jq a.2.2.2.2.1 a.2.2.2.2.2.1 a.2.2.2.2.2.2.1 a.2.2.2.2.2.2.2 i121).bind fun b =>
  qv c a d b.2.1 b.2.2.1 b.2.2.2 b.1
def sv (b:Int) (a:List fc) (c:Int×Int×Int×Int×List Int×Int×Int×Int) (i59:Int) (i60:Int) (i61:Int):Option (Int×Int×Int×Int×List fc×List Int×Int×Int×Int):=
  (i64 ((a.length:Int) - 1)).bind fun i99 =>
  (cut a 0 i99).bind fun d =>
  rv b c i61 d
def Sw  (l:Hd) (c:Int) (d:Int) (e:Int) (j:Int) (b:List fc) (f:List Int) (g:Int) (h:Int) (i:Int) (p_2:zc):Option (Int×Int×Int×Int×List fc×List Int×Int×Int×Int):=
  if p_2.Op=23 then
    (sx l c d e b f g h i p_2.A).bind fun a =>
    some (a.1,a.2.1,a.2.2.1,j,a.2.2.2.1,a.2.2.2.2.1,a.2.2.2.2.2.1,a.2.2.2.2.2.2.1,a.2.2.2.2.2.2.2)
  else
    if p_2.Op=24 then
      (Zj c d e f g h i).bind fun m =>
      (i64 ((b.length:Int) - 1)).bind fun i62 =>
      (at_ b i62).bind fun k =>
      sv j b m k.unit k.Ag k.base
    else
      if p_2.Op=25 then
        none
      else
        if p_2.Op=29 then
          none
        else
          if p_2.Op=30 then
            none
          else
            if p_2.Op=31 then
              (Zj c d e f g h i).bind fun n =>
              none
            else
              if p_2.Op=32 then
                none
              else
                some (c,d,e,j,b,f,g,h,i)
end Go.Y
namespace Go.Y
open Go.bc Go.Xc
def Xi (b:Hd) (i122:Int) (i123:Int) (i124:Int) (c:List Wd) (d:List Int) (i132:Int) (e:List fc) (i137:Int) (i138:Int) (i139:Int) (f:List Int):Option (Bool×List Wd×Int×Int×Int×List Int×Int×List fc×List Int×Int×Int×Int):=
  (Ao b c i122 i123 i124 e).bind fun a =>
  some (true,a.1,a.2.1,a.2.2.1,a.2.2.2.1,d,i132,a.2.2.2.2,f,i137,i138,i139)
def Ov (c:Hd) (d:List Int) (e:Int) (a:List Wd×Int×Int×Int×List fc) (i61:Int) (b:fc) (i119:Int) (i159:Int) (i160:Int) (i161:Int) (i162:Int) (i163:Int) (i164:Int) (f:List Int):Option (Bool×List Wd×Int×Int×Int×List Int×Int×List fc×List Int×Int×Int×Int):=
  Xi c i159 i160 i161 a.1 d e (a.2.2.2.2.set i61.toNat (fc.mk b.unit i119 b.base)) i162 i163 i164 f
def Pv (d:Hd) (e:List Int) (f:Int) (b:List Wd×Int×Int×Int×List fc) (i61:Int) (c:fc) (i119:Int) (a:Int×Int×Int×Int×List Int×Int×Int×Int) (g:List Int):Option (Bool×List Wd×Int×Int×Int×List Int×Int×List fc×List Int×Int×Int×Int):=
  Xi d a.2.1 a.2.2.1 a.2.2.2.1 b.1 e f (b.2.2.2.2.set i61.toNat (fc.mk c.unit i119 c.base)) a.2.2.2.2.2.1 a.2.2.2.2.2.2.1 a.2.2.2.2.2.2.2 g
def Jp (f:Hd) (g:List Int) (h:Int) (c:List Wd×Int×Int×Int×List fc) (i61:Int) (d:fc) (i:zc) (i119:Int) (j:Int×Int×Int×Int×List Int×Int×Int×Int) (a:Int×Int×Int×Int×List Int×Int×Int×Int) (k:Bool):Option (Bool×List Wd×Int×Int×Int×List Int×Int×List fc×List Int×Int×Int×Int):=
  if k=true then
    (Mm a.2.1 a.2.2.1 a.2.2.2.1 1).bind fun e =>
    Xi f e.1 e.2.1 e.2.2 c.1 g h (c.2.2.2.2.set i61.toNat (fc.mk d.unit i119 d.base)) a.2.2.2.2.2.1 a.2.2.2.2.2.2.1 a.2.2.2.2.2.2.2 a.2.2.2.2.1
  else
    (Qx i.Op a.1 j.1).bind fun l =>
    (Hk a.2.1 a.2.2.1 a.2.2.2.1 a.2.2.2.2.1 a.2.2.2.2.2.1 a.2.2.2.2.2.2.1 a.2.2.2.2.2.2.2 l).bind fun b =>
    Xi f b.1 b.2.1 b.2.2.1 c.1 g h (c.2.2.2.2.set i61.toNat (fc.mk d.unit i119 d.base)) b.2.2.2.2.1 b.2.2.2.2.2.1 b.2.2.2.2.2.2 b.2.2.2.1
def Cs (f:Hd) (g:List Int) (h:Int) (l:List Int) (m:Int) (n:Int) (o:Int) (a:List Wd×Int×Int×Int×List fc) (i61:Int) (b:fc) (c:zc) (i119:Int) (u:Bool):Option (Bool×List Wd×Int×Int×Int×List Int×Int×List fc×List Int×Int×Int×Int):=
  if u=true then
    (Zj a.2.1 a.2.2.1 a.2.2.2.1 l m n o).bind fun e =>
    (Zj e.2.1 e.2.2.1 e.2.2.2.1 e.2.2.2.2.1 e.2.2.2.2.2.1 e.2.2.2.2.2.2.1 e.2.2.2.2.2.2.2).bind fun q =>
    if c.Op=11 then
      Jp f g h a i61 b c i119 e q (decide (e.1=0))
    else
      if c.Op=12 then
        Jp f g h a i61 b c i119 e q (decide (e.1=0))
      else
        Jp f g h a i61 b c i119 e q false
  else
    if c.Op=21 then
      (at_ (a.2.2.2.2.set i61.toNat (fc.mk b.unit i119 b.base)) i61).bind fun s =>
      Xi f a.2.1 a.2.2.1 a.2.2.2.1 a.1 g h ((a.2.2.2.2.set i61.toNat (fc.mk b.unit i119 b.base)).set i61.toNat (fc.mk s.unit c.A s.base)) m n o l
    else
      if c.Op=22 then
        (Zj a.2.1 a.2.2.1 a.2.2.2.1 l m n o).bind fun d =>
        if d.1=0 then
          (at_ (a.2.2.2.2.set i61.toNat (fc.mk b.unit i119 b.base)) i61).bind fun t =>
          Xi f d.2.1 d.2.2.1 d.2.2.2.1 a.1 g h ((a.2.2.2.2.set i61.toNat (fc.mk b.unit i119 b.base)).set i61.toNat (fc.mk t.unit c.A t.base)) d.2.2.2.2.2.1 d.2.2.2.2.2.2.1 d.2.2.2.2.2.2.2 d.2.2.2.2.1
        else
          Xi f d.2.1 d.2.2.1 d.2.2.2.1 a.1 g h (a.2.2.2.2.set i61.toNat (fc.mk b.unit i119 b.base)) d.2.2.2.2.2.1 d.2.2.2.2.2.2.1 d.2.2.2.2.2.2.2 d.2.2.2.2.1
      else
        if c.Op=26 then
          (Zj a.2.1 a.2.2.1 a.2.2.2.1 l m n o).bind fun i =>
          (Tx a.1 c.A i.1).bind fun v =>
          (Lm 2 c.A i.1).bind fun x =>
          Xi f i.2.1 i.2.2.1 i.2.2.2.1 v g h (a.2.2.2.2.set i61.toNat (fc.mk b.unit i119 b.base)) i.2.2.2.2.2.1 i.2.2.2.2.2.2.1 i.2.2.2.2.2.2.2 i.2.2.2.2.1
        else
          if c.Op=27 then
            (qx a.1 c.A).bind fun r =>
            (Lm 3 c.A r.1).bind fun y =>
            (Hk a.2.1 a.2.2.1 a.2.2.2.1 l m n o r.1).bind fun p =>
            Xi f p.1 p.2.1 p.2.2.1 r.2 g h (a.2.2.2.2.set i61.toNat (fc.mk b.unit i119 b.base)) p.2.2.2.2.1 p.2.2.2.2.2.1 p.2.2.2.2.2.2 p.2.2.2.1
          else
            if c.Op=28 then
              (Zj a.2.1 a.2.2.1 a.2.2.2.1 l m n o).bind fun j =>
              (app g [j.1]).bind fun w =>
              (Lm 1 0 j.1).bind fun z =>
              Xi f j.2.1 j.2.2.1 j.2.2.2.1 a.1 w h (a.2.2.2.2.set i61.toNat (fc.mk b.unit i119 b.base)) j.2.2.2.2.2.1 j.2.2.2.2.2.2.1 j.2.2.2.2.2.2.2 j.2.2.2.2.1
            else
              (Sw f a.2.1 a.2.2.1 a.2.2.2.1 h (a.2.2.2.2.set i61.toNat (fc.mk b.unit i119 b.base)) l m n o c).bind fun k =>
              Xi f k.1 k.2.1 k.2.2.1 a.1 g k.2.2.2.1 k.2.2.2.2.1 k.2.2.2.2.2.2.1 k.2.2.2.2.2.2.2.1 k.2.2.2.2.2.2.2.2 k.2.2.2.2.2.1
def Qv (d:Hd) (f:List Int) (g:Int) (e:List Int) (h:Int) (i:Int) (j:Int) (a:List Wd×Int×Int×Int×List fc) (i61:Int):Option (Bool×List Wd×Int×Int×Int×List Int×Int×List fc×List Int×Int×Int×Int):=
  (at_ a.2.2.2.2 i61).bind fun b =>
  (at_ d.Nd b.unit).bind fun t =>
  (at_ t.Code b.Ag).bind fun c =>
  (i64 (b.Ag+1)).bind fun i119 =>
  if c.Op=1 then
    (Hk a.2.1 a.2.2.1 a.2.2.2.1 e h i j c.N).bind fun m =>
    Xi d m.1 m.2.1 m.2.2.1 a.1 f g (a.2.2.2.2.set i61.toNat (fc.mk b.unit i119 b.base)) m.2.2.2.2.1 m.2.2.2.2.2.1 m.2.2.2.2.2.2 m.2.2.2.1
  else
    if c.Op=2 then
      (Hk a.2.1 a.2.2.1 a.2.2.2.1 e h i j c.A).bind fun n =>
      Xi d n.1 n.2.1 n.2.2.1 a.1 f g (a.2.2.2.2.set i61.toNat (fc.mk b.unit i119 b.base)) n.2.2.2.2.1 n.2.2.2.2.2.1 n.2.2.2.2.2.2 n.2.2.2.1
    else
      if c.Op=3 then
        (i64 (b.base+c.A)).bind fun i169 =>
        (at_ e i169).bind fun u =>
        (Hk a.2.1 a.2.2.1 a.2.2.2.1 e h i j u).bind fun o =>
        Ov d f g a i61 b i119 o.1 o.2.1 o.2.2.1 o.2.2.2.2.1 o.2.2.2.2.2.1 o.2.2.2.2.2.2 o.2.2.2.1
      else
        if c.Op=4 then
          (Zj a.2.1 a.2.2.1 a.2.2.2.1 e h i j).bind fun s =>
          (i64 (b.base+c.A)).bind fun i205 =>
          (at_ s.2.2.2.2.1 i205).bind fun v =>
          Pv d f g a i61 b i119 s (s.2.2.2.2.1.set i205.toNat s.1)
        else
          if c.Op=5 then
            (Zj a.2.1 a.2.2.1 a.2.2.2.1 e h i j).bind fun p =>
            Xi d p.2.1 p.2.2.1 p.2.2.2.1 a.1 f g (a.2.2.2.2.set i61.toNat (fc.mk b.unit i119 b.base)) p.2.2.2.2.2.1 p.2.2.2.2.2.2.1 p.2.2.2.2.2.2.2 p.2.2.2.2.1
          else
            if c.Op=6 then
              (Zj a.2.1 a.2.2.1 a.2.2.2.1 e h i j).bind fun k =>
              (Hk k.2.1 k.2.2.1 k.2.2.2.1 k.2.2.2.2.1 k.2.2.2.2.2.1 k.2.2.2.2.2.2.1 k.2.2.2.2.2.2.2 (Jn (0 - k.1))).bind fun q =>
              Xi d q.1 q.2.1 q.2.2.1 a.1 f g (a.2.2.2.2.set i61.toNat (fc.mk b.unit i119 b.base)) q.2.2.2.2.1 q.2.2.2.2.2.1 q.2.2.2.2.2.2 q.2.2.2.1
            else
              if c.Op=7 then
                (Zj a.2.1 a.2.2.1 a.2.2.2.1 e h i j).bind fun l =>
                (Hk l.2.1 l.2.2.1 l.2.2.2.1 l.2.2.2.2.1 l.2.2.2.2.2.1 l.2.2.2.2.2.2.1 l.2.2.2.2.2.2.2 (Jn (1 - l.1))).bind fun r =>
                Xi d r.1 r.2.1 r.2.2.1 a.1 f g (a.2.2.2.2.set i61.toNat (fc.mk b.unit i119 b.base)) r.2.2.2.2.1 r.2.2.2.2.2.1 r.2.2.2.2.2.2 r.2.2.2.1
              else
                if (8:Int)≤c.Op then
                  Cs d f g e h i j a i61 b c i119 (decide (c.Op≤20))
                else
                  Cs d f g e h i j a i61 b c i119 false
def tx  (b:Hd) (i:List Wd) (j:Int) (k:Int) (l:Int) (c:List Int) (d:Int) (m:List fc) (e:List Int) (f:Int) (g:Int) (h:Int):Option (Bool×List Wd×Int×Int×Int×List Int×Int×List fc×List Int×Int×Int×Int):=
  (Ao b i j k l m).bind fun a =>
  if a.2.1≠1 then
    some (false,a.1,a.2.1,a.2.2.1,a.2.2.2.1,c,d,a.2.2.2.2,e,f,g,h)
  else
    (i64 ((a.2.2.2.2.length:Int) - 1)).bind fun i63 =>
    (at_ a.2.2.2.2 i63).bind fun n =>
    Qv b c d e f g h a i63
end Go.Y
namespace Go.Y
open Go.bc Go.Xc
def Sr (i74:Int) (i75:Int) (i76:Int) (i77:Int) (b:List Int) (c:Int→Int→Int→Int→(List Int)→Option (Int×List fc×List Int×Int×Int×Int)) (i102:Int):Option (Int×List fc×List Int×Int×Int×Int):=
  (Rt b i75 i76 i77 i102).bind fun a =>
  (i64 (i74+1)).bind fun i119 =>
  c i119 a.2.2.1 a.2.2.2.1 a.2.2.2.2 a.2.1
def ao (p_2:Int) (a:List Int) (b:Pf):Nat→Int→Int→Int→Int→(List Int)→Option (Int×List fc×List Int×Int×Int×Int)
  | 0,_,_,_,_,_=>none
  | n+1,i74,i75,i76,i77,c =>
    if i74<(b.Xg.length:Int) then
      if i74<(a.length:Int) then
        (at_ a i74).bind fun d =>
        Sr i74 i75 i76 i77 c (ao p_2 a b n) d
      else
        Sr i74 i75 i76 i77 c (ao p_2 a b n) 0
    else
      some (0,([(fc.mk p_2 0 0)]:List fc),c,i75,i76,i77)
def Bt  (c:Hd) (p_2:Int) (d:List Int):Option (Int×List fc×List Int×Int×Int×Int):=
  (Px 8 400).bind fun a =>
  (at_ c.Nd p_2).bind fun b =>
  ao p_2 d b (b.Xg.length+1) 0 a.2.1 a.2.2.1 a.2.2.2 a.1
def Tw  (a:List Int) (b:Int) (e:Int) (f:Int):Option (List Int):=
  (cut a 0 b).bind fun c =>
  (app ([]:List Int) c).bind fun d =>
  some d
def ux  (g:Int) (h:Int) (i:Int) (c:List Int) (b:Int) (d:Int) (e:Int) (p_2:Int):Option (List Int×Int×Int×Int×List Int×Int×Int×Int):=
  (Tw c b d e).bind fun f =>
  (zo b).bind fun j =>
  (i64 (j - p_2)).bind fun i36 =>
  (cut f i36 f.length).bind fun k =>
  (jq c b d e p_2).bind fun a =>
  some (k,g,h,i,a.1,a.2.1,a.2.2.1,a.2.2.2)
end Go.Y
namespace Go.Y
open Go.bc Go.Xc
structure Gi where
  state:Int
  up:Option Nat
  fr:List fc
  l:List Int
  live:Int
  Nh:Int
  jh:Int
structure Zc where
  cs:List Gi
  now:Nat
def Zc.length (p:Zc):Nat:=p.cs.length
def Zc.put (p:Zc) (c:Gi):Zc:=⟨p.cs.set p.now c,p.now⟩
def vx (m:Hd) (p:Zc) (s Bc t:Int) (a:List Wd):Option (Zc×Int×Int×Int×List Wd):=
  (p.cs[p.now]?).bind fun c =>
  (Ao m a s Bc t c.fr).bind fun r =>
  some (p.put { c with fr:=r.2.2.2.2 },r.2.1,r.2.2.1,r.2.2.2.1,r.1)
def Bo (p:Zc) (s Bc t v:Int):Option (Zc×Int×Int×Int):=
  (p.cs[p.now]?).bind fun c =>
  (Hk s Bc t c.l c.live c.Nh c.jh v).bind fun r =>
  some (p.put { c with l:=r.2.2.2.1,live:=r.2.2.2.2.1,Nh:=r.2.2.2.2.2.1,jh:=r.2.2.2.2.2.2 },r.1,r.2.1,r.2.2.1)
def kq (p:Zc) (s Bc t:Int):Option (Int×Zc×Int×Int×Int):=
  (p.cs[p.now]?).bind fun c =>
  (Zj s Bc t c.l c.live c.Nh c.jh).bind fun r =>
  some (r.1,p.put { c with l:=r.2.2.2.2.1,live:=r.2.2.2.2.2.1,Nh:=r.2.2.2.2.2.2.1,jh:=r.2.2.2.2.2.2.2 },r.2.1,r.2.2.1,r.2.2.2.1)
def cB (p:Zc) (s Bc t n:Int):Option (List Int×Zc×Int×Int×Int):=
  (p.cs[p.now]?).bind fun c =>
  (ux s Bc t c.l c.live c.Nh c.jh n).bind fun r =>
  some (r.1,p.put { c with l:=r.2.2.2.2.1,live:=r.2.2.2.2.2.1,Nh:=r.2.2.2.2.2.2.1,jh:=r.2.2.2.2.2.2.2 },r.2.1,r.2.2.1,r.2.2.2.1)
def HA (m:Hd) (p:Zc) (s Bc t:Int) (x:zc):Option (Zc×Int×Int×Int):=
  (at_ m.Nd x.A).bind fun u =>
  (cB p s Bc t u.Params).bind fun a =>
  if (30:Int)<a.2.1.length then (Mm a.2.2.1 a.2.2.2.1 a.2.2.2.2 5).bind fun q=>some (a.2.1,q) else
  (Bt m x.A a.1).bind fun b =>
  (Lm 6 0 x.A).bind fun _ =>
  (i64 (((a.2.1.cs++[Gi.mk b.1 none b.2.1 b.2.2.1 b.2.2.2.1 b.2.2.2.2.1 b.2.2.2.2.2]).length:Int) - 1)).bind fun n =>
  Bo ⟨a.2.1.cs++[Gi.mk b.1 none b.2.1 b.2.2.1 b.2.2.2.1 b.2.2.2.2.1 b.2.2.2.2.2],a.2.1.now⟩ a.2.2.1 a.2.2.2.1 a.2.2.2.2 n
def ct (p:Zc) (s Bc t:Int) (j:Nat) (v:Int):Option (Zc×Int×Int×Int):=
  (p.cs[j]?).bind fun d =>
  if d.state=3 then (Mm s Bc t 2).bind fun q=>some (p,q)
  else if d.state=2 then (Mm s Bc t 3).bind fun q=>some (p,q)
  else if d.state=0 then some (⟨p.cs.set j { d with state:=2,up:=some p.now },j⟩,s,Bc,t)
  else Bo ⟨p.cs.set j { d with state:=2,up:=some p.now },j⟩ s Bc t v
def St (p:Zc) (s Bc t st v:Int):Option (Zc×Int×Int×Int):=
  (p.cs[p.now]?).bind fun c=>c.up.bind fun j =>
  Bo ⟨p.cs.set p.now { c with state:=st,up:=none },j⟩ s Bc t v
def Ux (p:Zc) (s Bc t:Int):Option (Zc×Int×Int×Int):=
  (p.cs[p.now]?).bind fun c =>
  if c.up=none then (Lm 4 0 0).bind fun _=>some (p.put { c with state:=3 },4,Bc,t)
  else St p s Bc t 3 0
def Ij (m:Hd) (p:Zc) (s Bc t:Int) (x:zc):Option (Zc×Int×Int×Int):=
  if x.Op=25 then Ux p s Bc t
  else if x.Op=29 then HA m p s Bc t x
  else if x.Op=30 then (kq p s Bc t).bind fun a=>(kq a.2.1 a.2.2.1 a.2.2.2.1 a.2.2.2.2).bind fun b =>
    if b.1<0 then none else ct b.2.1 b.2.2.1 b.2.2.2.1 b.2.2.2.2 b.1.toNat a.1
  else if x.Op=31 then (kq p s Bc t).bind fun a=>St a.2.1 a.2.2.1 a.2.2.2.1 a.2.2.2.2 1 a.1
  else if x.Op=32 then (kq p s Bc t).bind fun a=>if a.1<0 then none else (a.2.1.cs[a.1.toNat]?).bind fun d =>
    (yl (decide (d.state≠3))).bind fun b=>Bo a.2.1 a.2.2.1 a.2.2.2.1 a.2.2.2.2 b
  else none
abbrev qu:=Option (Bool×Zc×Int×Int×Int×List Int×List Wd)
def iw (m:Hd) (p:Zc) (c:Gi) (out:List Int) (r:List Wd×Int×Int×Int×List fc) (i:Int):qu :=
  (at_ r.2.2.2.2 i).bind fun x =>
  (at_ m.Nd x.unit).bind fun u =>
  (at_ u.Code x.Ag).bind fun y =>
  (i64 (x.Ag+1)).bind fun k =>
  (Ij m (p.put { c with fr:=r.2.2.2.2.set i.toNat (fc.mk x.unit k x.base) }) r.2.1 r.2.2.1 r.2.2.2.1 y).bind fun q =>
  (vx m q.1 q.2.1 q.2.2.1 q.2.2.2 r.1).bind fun z =>
  some (true,z.1,z.2.1,z.2.2.1,z.2.2.2.1,out,z.2.2.2.2)
def Vx (m:Hd) (p:Zc) (s Bc t:Int) (out:List Int) (a:List Wd):qu :=
  (p.cs[p.now]?).bind fun c =>
  (Ao m a s Bc t c.fr).bind fun r =>
  if r.2.1≠1 then none else
  (i64 ((r.2.2.2.2.length:Int) - 1)).bind fun i =>
  (at_ r.2.2.2.2 i).bind fun x =>
  iw m p c out r i
def IA (m:Hd) (p:Zc) (s Bc t:Int) (out:List Int) (a:List Wd):qu :=
  (p.cs[p.now]?).bind fun c =>
  (tx m a s Bc t out c.state c.fr c.l c.live c.Nh c.jh).bind fun r =>
  some (r.1,p.put { c with state:=r.2.2.2.2.2.2.1,fr:=r.2.2.2.2.2.2.2.1,l:=r.2.2.2.2.2.2.2.2.1,live:=r.2.2.2.2.2.2.2.2.2.1,Nh:=r.2.2.2.2.2.2.2.2.2.2.1,jh:=r.2.2.2.2.2.2.2.2.2.2.2 },r.2.2.1,r.2.2.2.1,r.2.2.2.2.1,r.2.2.2.2.2.1,r.2.1)
def wx (m:Hd) (p:Zc) (s Bc t:Int) (out:List Int) (a:List Wd):qu :=
  match Vx m p s Bc t out a with
  | some r=>some r
  | none=>IA m p s Bc t out a
def Wx (m:Hd) (u:Int):Option (Zc×Int×Int×Int×List Int):=
  (Bt m u ([]:List Int)).bind fun r =>
  some (⟨[Gi.mk 2 none r.2.1 r.2.2.1 r.2.2.2.1 r.2.2.2.2.1 r.2.2.2.2.2],0⟩,1,0,0,([]:List Int))
end Go.Y
namespace Go.Y
open Go.bc Go.Xc
structure ak where
  Nk:Zc
  s:Int
  Bc:Int
  t:Int
  out:List Int
structure de where
  m:Hd
  tasks:List ak
  boxes:List Wd
def de.length (x:de):Nat:=x.tasks.length
def bq (x:de) (i:Int):Option de :=
  (at_ x.tasks i).bind fun k =>
  (vx x.m k.Nk k.s k.Bc k.t x.boxes).bind fun r =>
  some { x with tasks:=x.tasks.set i.toNat { k with Nk:=r.1,s:=r.2.1,Bc:=r.2.2.1,t:=r.2.2.2.1 },boxes:=r.2.2.2.2 }
def yx (x:de) (i:Int):Option (Bool×de):=
  (at_ x.tasks i).bind fun k =>
  (wx x.m k.Nk k.s k.Bc k.t k.out x.boxes).bind fun r =>
  some (r.1,{ x with tasks:=x.tasks.set i.toNat ⟨r.2.1,r.2.2.1,r.2.2.2.1,r.2.2.2.2.1,r.2.2.2.2.2.1⟩,boxes:=r.2.2.2.2.2.2 })
def Uw (x:de) (i:Int):Option (List Int):=(at_ x.boxes i).bind fun b=>Pw b.l b.first b.n
end Go.Y
namespace Go.Y
open Go.bc Go.Xc
def zp:List Oj→List Wd→Option (List Wd)
  | [],acc=>some acc
  | b::Tc,acc=>(Rx b.Ug).bind fun r=>if 4294967295<acc.length then none else zp Tc (acc++[⟨r.1,r.2.1,r.2.2⟩])
def Ap (m:Hd):List Int→List ak→Option (List ak)
  | [],acc=>some acc
  | u::us,acc=>(Wx m u).bind fun r=>if 4294967295<acc.length then none else Ap m us (acc++[⟨r.1,r.2.1,r.2.2.1,r.2.2.2.1,r.2.2.2.2⟩])
def Vw (m:Hd):Option (de×Int):=
  (zp m.Qd []).bind fun Bc=>(Nw m).bind fun us=>(Ap m us []).bind fun di=>some (⟨m,di,Bc⟩,0)
end Go.Y
namespace Go.Y
open Go.bc Go.Xc
structure qk where
  Task:Int
  Al:Int
  deriving DecidableEq,Inhabited,Repr
instance:Va qk where
  sz:=2
  pos:=by decide
  cs μ l x:=l=[.int .i64 x.Task,.int .i64 x.Al]
  fh h:=by obtain rfl:=h;rfl
  up le h:=by exact h
  sg h:=by obtain rfl:=h;rfl
structure Ok where
  ih:Int
  Steps:Int
  deriving DecidableEq,Inhabited,Repr
structure Aj where
  State:Int
  Eu:Int
  kC:Int
  Out:List Int
  deriving DecidableEq,Inhabited,Repr
instance:Va Aj where
  sz:=4
  pos:=by decide
  cs μ l x:=∃ O a,l=[.int .i64 x.State,.int .i64 x.Eu,.int .i64 x.kC,.slice O x.Out.length a]∧Ca μ O a x.Out
  fh h:=by obtain ⟨O,a,rfl,m1⟩:=h;rfl
  up le h:=by obtain ⟨O,a,rfl,m1⟩:=h;exact ⟨O,a,rfl,m1.up le⟩
  sg h:=by obtain ⟨O,a,rfl,m1⟩:=h;rfl
theorem Aj.i {μ:M}{l:List Value}{x:Aj}(h:∃ O a,l=[.int .i64 x.State,.int .i64 x.Eu,.int .i64 x.kC,.slice O x.Out.length a]∧Ca μ O a x.Out):Va.cs μ l x:=h
structure ri where
  xj:List Aj
  Qd:List (List Int)
  Steps:Int
  deriving DecidableEq,Inhabited,Repr
def Kp (i50:Int) (i51:Int) (b:Int→Int→de→Option (Ok×de×Int)) (c:Bool) (a:de):Option (Ok×de×Int):=
  if c=true then
    (i64 (i50+1)).bind fun i86 =>
    (i64 (i51+1)).bind fun i88 =>
    b i86 i88 a
  else
    if i50=0 then
      some ((Ok.mk 10 0),a,i51)
    else
      some ((Ok.mk 0 i50),a,i51)
def pn (p_2:qk):Nat→Int→Int→de→Option (Ok×de×Int)
  | 0,_,_,_=>none
  | n+1,i50,i51,a =>
    if i50<p_2.Al then
      if i51<20000 then
        (yx a p_2.Task).bind fun b =>
        Kp i50 i51 (pn p_2 n) b.1 b.2
      else
        Kp i50 i51 (pn p_2 n) false a
    else
      Kp i50 i51 (pn p_2 n) false a
def Ds (fu:Nat) (a:de) (p_2:qk) (b:Int) (d:Bool):Option (Ok×de×Int):=
  if d=true then
    some ((Ok.mk 5 0),a,b)
  else
    (at_ a.tasks p_2.Task).bind fun f =>
    (bq a p_2.Task).bind fun c =>
    (at_ c.tasks p_2.Task).bind fun e =>
    if e.s≠1 then
      some ((Ok.mk 11 0),c,b)
    else
      pn p_2 fu 0 b c
def Es (fu:Nat) (a:de) (p_2:qk) (b:Int) (Eg:Bool):Option (Ok×de×Int):=
  if Eg=true then
    some ((Ok.mk 3 0),a,b)
  else
    if p_2.Al<1 then
      Ds fu a p_2 b true
    else
      Ds fu a p_2 b (decide ((10000:Int)<p_2.Al))
def Tt (fu:Nat)  (a:de) (b:Int) (p_2:qk):Option (Ok×de×Int):=
  if p_2.Task<0 then
    Es fu a p_2 b true
  else
    Es fu a p_2 b (decide ((a.length:Int)≤p_2.Task))
def Bp (a:de) (b:Int):Nat→Int→de→(List Int)→Option (List Int×de×Int)
  | 0,_,_,_=>none
  | n+1,i39,c,d =>
    if i39<(a.length:Int) then
      (at_ c.tasks i39).bind fun h =>
      (bq c i39).bind fun e =>
      (at_ e.tasks i39).bind fun f =>
      if f.s=1 then
        (app d [i39]).bind fun g =>
        (i64 (i39+1)).bind fun i98 =>
        Bp a b n i98 e g
      else
        (i64 (i39+1)).bind fun i100 =>
        Bp a b n i100 e d
    else
      some (d,c,b)
def Ct  (a:de) (b:Int):Option (List Int×de×Int):=
  Bp a b (a.length+1) 0 a []
def tv (i71:Int) (a:de) (b:Int→de→(List Aj)→Option (ri×de×Int)) (c:List Aj):Option (ri×de×Int):=
  (i64 (i71+1)).bind fun i189 =>
  b i189 a c
def uv (i213:Int) (a:Int→(List (List Int))→Option (ri×de×Int)) (b:List (List Int)):Option (ri×de×Int):=
  (i64 (i213+1)).bind fun i267 =>
  a i267 b
def Cp (b:Int) (a:de) (c:List Aj):Nat→Int→(List (List Int))→Option (ri×de×Int)
  | 0,_,_=>none
  | n+1,i213,d =>
    if i213<(a.boxes.length:Int) then
      (at_ a.boxes i213).bind fun g =>
      (Uw a i213).bind fun e =>
      (app d [e]).bind fun f =>
      uv i213 (Cp b a c n) f
    else
      some ((ri.mk c d b),a,b)
def Dp (c:de) (d:Int):Nat→Int→de→(List Aj)→Option (ri×de×Int)
  | 0,_,_,_=>none
  | n+1,i71,b,e =>
    if i71<(c.length:Int) then
      (at_ b.tasks i71).bind fun l =>
      (bq b i71).bind fun a =>
      (at_ a.tasks i71).bind fun f =>
      (at_ a.tasks i71).bind fun g =>
      (at_ a.tasks i71).bind fun h =>
      (at_ a.tasks i71).bind fun i =>
      (app ([]:List Int) i.out).bind fun j =>
      (app e [(Aj.mk f.s g.Bc h.t j)]).bind fun k =>
      tv i71 a (Dp c d n) k
    else
      Cp d b e (b.boxes.length+1) 0 []
def Ww  (a:de) (b:Int):Option (ri×de×Int):=
  Dp a b (a.length+1) 0 a []
end Go.Y
namespace Go.Y
open Go.bc Go.Xc
def Xw (fu:Nat)  (p_1:Hd) (p_2:Int):Option Int :=
  (ew fu p_1).bind fun a =>
  if a.ih≠0 then
    some a.ih
  else
    if (400:Int)<p_2 then
      some 5
    else
      some 0
def rr (fu:Nat) (c:Int) (i168:Int) (d:de) (e:Int→(List Int)→Int→de→Option (ri×Int)) (i237:Int):Option (ri×Int):=
  (Tt fu d i168 (qk.mk i237 c)).bind fun a =>
  if a.1.ih≠0 then
    some ((ri.mk ([]:List Aj) ([]:List (List Int)) 0),10)
  else
    (Ct a.2.1 a.2.2).bind fun b =>
    e i237 b.1 b.2.2 b.2.1
def sr (fu:Nat) (a:Int) (i163:Int) (b:List Int) (i168:Int) (c:de) (e:Int) (d:Int→(List Int)→Int→de→Option (ri×Int)):Nat→Int→Option (ri×Int)
  | 0,_=>none
  | n+1,i248 =>
    if i248<(b.length:Int) then
      (at_ b i248).bind fun f =>
      if i163<f then
        rr fu a i168 c d f
      else
        (i64 (i248+1)).bind fun i270 =>
        sr fu a i163 b i168 c e d n i270
    else
      rr fu a i168 c d e
def Tn (fu:Nat) (b:Int):Nat→Int→(List Int)→Int→de→Option (ri×Int)
  | 0,_,_,_,_=>none
  | n+1,i163,a,i168,c =>
    if (0:Int)<(a.length:Int) then
      (at_ a 0).bind fun d =>
      sr fu b i163 a i168 c d (Tn fu b n) (a.length+1) 0
    else
      (Ww c i168).bind fun e =>
      some (e.1,0)
def np (fu:Nat) (p_2:List qk) (b:Int):Nat→Int→Int→Int→de→Option (ri×Int)
  | 0,_,_,_,_=>none
  | n+1,i55,i56,i57,d =>
    if i56<(p_2.length:Int) then
      (at_ p_2 i56).bind fun e =>
      (Tt fu d i57 e).bind fun a =>
      if a.1.ih=0 then
        (i64 (i56+1)).bind fun i98 =>
        np fu p_2 b n e.Task i98 a.2.2 a.2.1
      else
        (i64 (i56+1)).bind fun i100 =>
        np fu p_2 b n i55 i100 a.2.2 a.2.1
    else
      (Ct d i57).bind fun c =>
      Tn fu b fu i55 c.1 c.2.2 c.2.1
def tr (fu:Nat) (p_1:Hd) (p_2:List qk) (b:Int) (xf:Bool):Option (ri×Int):=
  if xf=true then
    some ((ri.mk ([]:List Aj) ([]:List (List Int)) 0),3)
  else
    (Vw p_1).bind fun a =>
    np fu p_2 b (p_2.length+1) (-1) 0 a.2 a.1
def jw (fu:Nat)  (p_1:Hd) (p_2:List qk) (a:Int):Option (ri×Int):=
  (Xw fu p_1 (p_2.length:Int)).bind fun b =>
  if b≠0 then
    some ((ri.mk ([]:List Aj) ([]:List (List Int)) 0),b)
  else
    if a<1 then
      tr fu p_1 p_2 a true
    else
      tr fu p_1 p_2 a (decide ((10000:Int)<a))
end Go.Y
namespace Go.Y
open Go.bc Go.Xc
def Zy:List UInt8:=[98,111,120,32,105,110,32,110,117,109,32,50,48,32,59,10,103,101,110,32,109,101,97,110,40,41,32,116,97,107,101,115,32,110,117,109,32,121,105,101,108,100,115,32,110,117,109,32,123,10,32,32,108,101,116,32,115,32,61,32,48,32,59,10,32,32,108,101,116,32,110,32,61,32,48,32,59,10,32,32,108,101,116,32,120,32,61,32,121,105,101,108,100,40,48,41,32,59,10,32,32,119,104,105,108,101,32,116,114,117,101,32,123,32,115,32,61,32,115,32,43,32,120,32,59,32,110,32,61,32,110,32,43,32,49,32,59,32,120,32,61,32,121,105,101,108,100,40,115,32,47,32,110,41,32,59,32,125,10,125,10,116,97,115,107,32,109,97,105,110,32,123,10,32,32,108,101,116,32,109,32,61,32,115,116,97,114,116,32,109,101,97,110,40,41,32,59,10,32,32,100,111,32,114,101,115,117,109,101,40,109,44,32,48,41,32,59,10,32,32,119,104,105,108,101,32,116,114,117,101,32,123,32,111,117,116,32,114,101,115,117,109,101,40,109,44,32,114,101,99,118,40,105,110,41,41,32,59,32,125,10,125,10]
def az:List UInt8:=[98,111,120,32,105,110,32,110,117,109,32,50,48,32,59,10,116,97,115,107,32,109,97,105,110,32,123,10,32,32,119,104,105,108,101,32,116,114,117,101,32,123,10,32,32,32,32,108,101,116,32,120,32,61,32,114,101,99,118,40,105,110,41,32,59,10,32,32,32,32,108,101,116,32,110,32,61,32,48,32,59,10,32,32,32,32,119,104,105,108,101,32,120,32,62,32,48,32,123,32,110,32,61,32,110,32,43,32,120,32,37,32,50,32,59,32,120,32,61,32,120,32,47,32,50,32,59,32,125,10,32,32,32,32,111,117,116,32,110,32,59,10,32,32,125,10,125,10]
def bz:List UInt8:=[98,111,120,32,105,110,32,110,117,109,32,50,48,32,59,10,116,97,115,107,32,109,97,105,110,32,123,10,32,32,108,101,116,32,108,97,115,116,32,61,32,114,101,99,118,40,105,110,41,32,59,10,32,32,108,101,116,32,110,32,61,32,49,32,59,10,32,32,119,104,105,108,101,32,116,114,117,101,32,123,10,32,32,32,32,108,101,116,32,120,32,61,32,114,101,99,118,40,105,110,41,32,59,10,32,32,32,32,105,102,32,120,32,61,61,32,108,97,115,116,32,123,32,110,32,61,32,110,32,43,32,49,32,59,32,125,32,101,108,115,101,32,123,32,111,117,116,32,108,97,115,116,32,59,32,111,117,116,32,110,32,59,32,108,97,115,116,32,61,32,120,32,59,32,110,32,61,32,49,32,59,32,125,10,32,32,125,10,125,10]
def cz:List UInt8:=[98,111,120,32,105,110,32,110,117,109,32,50,48,32,59,10,116,97,115,107,32,109,97,105,110,32,123,10,32,32,119,104,105,108,101,32,116,114,117,101,32,123,10,32,32,32,32,108,101,116,32,110,32,61,32,114,101,99,118,40,105,110,41,32,59,10,32,32,32,32,108,101,116,32,107,32,61,32,48,32,59,10,32,32,32,32,119,104,105,108,101,32,110,32,62,32,49,32,123,10,32,32,32,32,32,32,105,102,32,110,32,37,32,50,32,61,61,32,48,32,123,32,110,32,61,32,110,32,47,32,50,32,59,32,125,32,101,108,115,101,32,123,32,110,32,61,32,51,32,42,32,110,32,43,32,49,32,59,32,125,10,32,32,32,32,32,32,107,32,61,32,107,32,43,32,49,32,59,10,32,32,32,32,125,10,32,32,32,32,111,117,116,32,107,32,59,10,32,32,125,10,125,10]
def dz:List UInt8:=[98,111,120,32,105,110,32,110,117,109,32,50,48,32,59,10,116,97,115,107,32,109,97,105,110,32,123,10,32,32,108,101,116,32,108,97,115,116,32,61,32,114,101,99,118,40,105,110,41,32,59,10,32,32,111,117,116,32,108,97,115,116,32,59,10,32,32,119,104,105,108,101,32,116,114,117,101,32,123,10,32,32,32,32,108,101,116,32,120,32,61,32,114,101,99,118,40,105,110,41,32,59,10,32,32,32,32,105,102,32,120,32,33,61,32,108,97,115,116,32,123,32,111,117,116,32,120,32,59,32,108,97,115,116,32,61,32,120,32,59,32,125,10,32,32,125,10,125,10]
def ez:List UInt8:=[98,111,120,32,105,110,32,110,117,109,32,50,48,32,59,10,116,97,115,107,32,109,97,105,110,32,123,10,32,32,119,104,105,108,101,32,116,114,117,101,32,123,10,32,32,32,32,108,101,116,32,120,32,61,32,114,101,99,118,40,105,110,41,32,59,10,32,32,32,32,108,101,116,32,115,32,61,32,48,32,59,10,32,32,32,32,119,104,105,108,101,32,120,32,62,32,48,32,123,32,115,32,61,32,115,32,43,32,120,32,37,32,49,48,32,59,32,120,32,61,32,120,32,47,32,49,48,32,59,32,125,10,32,32,32,32,111,117,116,32,115,32,59,10,32,32,125,10,125,10]
def fz:List UInt8:=[98,111,120,32,105,110,32,110,117,109,32,50,48,32,59,10,116,97,115,107,32,109,97,105,110,32,123,10,32,32,119,104,105,108,101,32,116,114,117,101,32,123,32,111,117,116,32,114,101,99,118,40,105,110,41,32,42,32,50,32,59,32,125,10,125,10]
def gz:List UInt8:=[98,111,120,32,105,110,32,110,117,109,32,50,48,32,59,10,116,97,115,107,32,109,97,105,110,32,123,10,32,32,119,104,105,108,101,32,116,114,117,101,32,123,10,32,32,32,32,108,101,116,32,120,32,61,32,114,101,99,118,40,105,110,41,32,59,10,32,32,32,32,105,102,32,120,32,37,32,50,32,61,61,32,48,32,123,32,111,117,116,32,120,32,59,32,125,10,32,32,125,10,125,10]
def qy:List UInt8:=[98,111,120,32,105,110,32,110,117,109,32,50,48,32,59,10,102,110,32,102,97,99,116,40,110,32,110,117,109,41,32,110,117,109,32,123,10,32,32,105,102,32,110,32,60,32,50,32,123,32,114,101,116,117,114,110,32,49,32,59,32,125,10,32,32,114,101,116,117,114,110,32,110,32,42,32,102,97,99,116,40,110,32,45,32,49,41,32,59,10,125,10,116,97,115,107,32,109,97,105,110,32,123,10,32,32,119,104,105,108,101,32,116,114,117,101,32,123,32,111,117,116,32,102,97,99,116,40,114,101,99,118,40,105,110,41,41,32,59,32,125,10,125,10]
def ry:List UInt8:=[98,111,120,32,105,110,32,110,117,109,32,50,48,32,59,10,35,32,101,97,99,104,32,110,117,109,98,101,114,32,97,115,107,115,32,102,111,114,32,97,115,32,109,97,110,121,10,103,101,110,32,102,105,98,115,40,41,32,116,97,107,101,115,32,98,111,111,108,32,121,105,101,108,100,115,32,110,117,109,32,123,10,32,32,108,101,116,32,97,32,61,32,48,32,59,10,32,32,108,101,116,32,98,32,61,32,49,32,59,10,32,32,119,104,105,108,101,32,121,105,101,108,100,40,97,41,32,123,32,108,101,116,32,99,32,61,32,97,32,43,32,98,32,59,32,97,32,61,32,98,32,59,32,98,32,61,32,99,32,59,32,125,10,125,10,116,97,115,107,32,109,97,105,110,32,123,10,32,32,108,101,116,32,102,32,61,32,115,116,97,114,116,32,102,105,98,115,40,41,32,59,10,32,32,119,104,105,108,101,32,116,114,117,101,32,123,10,32,32,32,32,108,101,116,32,110,32,61,32,114,101,99,118,40,105,110,41,32,59,10,32,32,32,32,119,104,105,108,101,32,110,32,62,32,48,32,123,32,111,117,116,32,114,101,115,117,109,101,40,102,44,32,116,114,117,101,41,32,59,32,110,32,61,32,110,32,45,32,49,32,59,32,125,10,32,32,125,10,125,10]
def sy:List UInt8:=[98,111,120,32,105,110,32,110,117,109,32,50,48,32,59,10,98,111,120,32,111,112,101,110,32,98,111,111,108,32,50,48,32,59,10,116,97,115,107,32,109,97,105,110,32,123,10,32,32,119,104,105,108,101,32,116,114,117,101,32,123,10,32,32,32,32,108,101,116,32,120,32,61,32,114,101,99,118,40,105,110,41,32,59,10,32,32,32,32,105,102,32,114,101,99,118,40,111,112,101,110,41,32,123,32,111,117,116,32,120,32,59,32,125,10,32,32,125,10,125,10]
def uy:List UInt8:=[98,111,120,32,105,110,32,110,117,109,32,50,48,32,59,10,102,110,32,103,99,100,40,97,32,110,117,109,44,32,98,32,110,117,109,41,32,110,117,109,32,123,10,32,32,105,102,32,98,32,61,61,32,48,32,123,32,114,101,116,117,114,110,32,97,32,59,32,125,10,32,32,114,101,116,117,114,110,32,103,99,100,40,98,44,32,97,32,37,32,98,41,32,59,10,125,10,116,97,115,107,32,109,97,105,110,32,123,10,32,32,119,104,105,108,101,32,116,114,117,101,32,123,32,111,117,116,32,103,99,100,40,114,101,99,118,40,105,110,41,44,32,114,101,99,118,40,105,110,41,41,32,59,32,125,10,125,10]
def vy:List UInt8:=[98,111,120,32,105,110,32,110,117,109,32,50,48,32,59,10,102,110,32,109,97,120,40,97,32,110,117,109,44,32,98,32,110,117,109,41,32,110,117,109,32,123,10,32,32,105,102,32,97,32,60,32,98,32,123,32,114,101,116,117,114,110,32,98,32,59,32,125,10,32,32,114,101,116,117,114,110,32,97,32,59,10,125,10,116,97,115,107,32,109,97,105,110,32,123,10,32,32,108,101,116,32,109,32,61,32,114,101,99,118,40,105,110,41,32,59,10,32,32,119,104,105,108,101,32,116,114,117,101,32,123,32,111,117,116,32,109,32,59,32,109,32,61,32,109,97,120,40,109,44,32,114,101,99,118,40,105,110,41,41,32,59,32,125,10,125,10]
def wy:List UInt8:=[98,111,120,32,97,32,110,117,109,32,50,48,32,59,10,98,111,120,32,98,32,110,117,109,32,50,48,32,59,10,116,97,115,107,32,109,97,105,110,32,123,10,32,32,108,101,116,32,120,32,61,32,114,101,99,118,40,97,41,32,59,10,32,32,108,101,116,32,121,32,61,32,114,101,99,118,40,98,41,32,59,10,32,32,119,104,105,108,101,32,116,114,117,101,32,123,10,32,32,32,32,105,102,32,120,32,60,61,32,121,32,123,32,111,117,116,32,120,32,59,32,120,32,61,32,114,101,99,118,40,97,41,32,59,32,125,32,101,108,115,101,32,123,32,111,117,116,32,121,32,59,32,121,32,61,32,114,101,99,118,40,98,41,32,59,32,125,10,32,32,125,10,125,10]
def xy:List UInt8:=[98,111,120,32,105,110,32,110,117,109,32,50,48,32,59,10,116,97,115,107,32,109,97,105,110,32,123,10,32,32,119,104,105,108,101,32,116,114,117,101,32,123,32,111,117,116,32,114,101,99,118,40,105,110,41,32,45,32,114,101,99,118,40,105,110,41,32,59,32,125,10,125,10]
def yy:List UInt8:=[98,111,120,32,112,105,110,103,32,110,117,109,32,49,32,59,10,98,111,120,32,112,111,110,103,32,110,117,109,32,49,32,59,10,116,97,115,107,32,111,110,101,32,123,10,32,32,108,101,116,32,120,32,61,32,49,32,59,10,32,32,119,104,105,108,101,32,120,32,60,32,49,48,48,32,123,32,115,101,110,100,32,112,105,110,103,32,120,32,59,32,120,32,61,32,114,101,99,118,40,112,111,110,103,41,32,59,32,111,117,116,32,120,32,59,32,125,10,125,10,116,97,115,107,32,111,116,104,101,114,32,123,10,32,32,119,104,105,108,101,32,116,114,117,101,32,123,32,115,101,110,100,32,112,111,110,103,32,114,101,99,118,40,112,105,110,103,41,32,42,32,50,32,59,32,125,10,125,10]
def zy:List UInt8:=[98,111,120,32,105,110,32,110,117,109,32,50,48,32,59,10,116,97,115,107,32,109,97,105,110,32,123,10,32,32,119,104,105,108,101,32,116,114,117,101,32,123,10,32,32,32,32,108,101,116,32,120,32,61,32,114,101,99,118,40,105,110,41,32,59,10,32,32,32,32,108,101,116,32,110,32,61,32,114,101,99,118,40,105,110,41,32,59,10,32,32,32,32,108,101,116,32,112,32,61,32,49,32,59,10,32,32,32,32,119,104,105,108,101,32,110,32,62,32,48,32,123,10,32,32,32,32,32,32,105,102,32,110,32,37,32,50,32,61,61,32,49,32,123,32,112,32,61,32,112,32,42,32,120,32,59,32,125,10,32,32,32,32,32,32,120,32,61,32,120,32,42,32,120,32,59,10,32,32,32,32,32,32,110,32,61,32,110,32,47,32,50,32,59,10,32,32,32,32,125,10,32,32,32,32,111,117,116,32,112,32,59,10,32,32,125,10,125,10]
def Ay:List UInt8:=[98,111,120,32,105,110,32,110,117,109,32,50,48,32,59,10,102,110,32,112,114,105,109,101,40,110,32,110,117,109,41,32,98,111,111,108,32,123,10,32,32,105,102,32,110,32,60,32,50,32,123,32,114,101,116,117,114,110,32,102,97,108,115,101,32,59,32,125,10,32,32,108,101,116,32,100,32,61,32,50,32,59,10,32,32,119,104,105,108,101,32,100,32,42,32,100,32,60,61,32,110,32,123,10,32,32,32,32,105,102,32,110,32,37,32,100,32,61,61,32,48,32,123,32,114,101,116,117,114,110,32,102,97,108,115,101,32,59,32,125,10,32,32,32,32,100,32,61,32,100,32,43,32,49,32,59,10,32,32,125,10,32,32,114,101,116,117,114,110,32,116,114,117,101,32,59,10,125,10,116,97,115,107,32,109,97,105,110,32,123,10,32,32,119,104,105,108,101,32,116,114,117,101,32,123,32,111,117,116,32,112,114,105,109,101,40,114,101,99,118,40,105,110,41,41,32,59,32,125,10,125,10]
def By:List UInt8:=[98,111,120,32,105,110,32,110,117,109,32,50,48,32,59,10,35,32,97,32,103,101,110,101,114,97,116,111,114,32,119,105,116,104,105,110,32,97,32,103,101,110,101,114,97,116,111,114,10,103,101,110,32,105,110,110,101,114,40,110,32,110,117,109,41,32,116,97,107,101,115,32,98,111,111,108,32,121,105,101,108,100,115,32,110,117,109,32,123,10,32,32,108,101,116,32,105,32,61,32,48,32,59,10,32,32,119,104,105,108,101,32,105,32,60,32,110,32,123,32,100,111,32,121,105,101,108,100,40,105,41,32,59,32,105,32,61,32,105,32,43,32,49,32,59,32,125,10,125,10,103,101,110,32,111,117,116,101,114,40,41,32,116,97,107,101,115,32,110,117,109,32,121,105,101,108,100,115,32,110,117,109,32,123,10,32,32,108,101,116,32,110,32,61,32,121,105,101,108,100,40,48,41,32,59,10,32,32,119,104,105,108,101,32,116,114,117,101,32,123,10,32,32,32,32,108,101,116,32,103,32,61,32,115,116,97,114,116,32,105,110,110,101,114,40,110,41,32,59,10,32,32,32,32,108,101,116,32,115,32,61,32,48,32,59,10,32,32,32,32,119,104,105,108,101,32,97,108,105,118,101,40,103,41,32,123,32,115,32,61,32,115,32,43,32,114,101,115,117,109,101,40,103,44,32,116,114,117,101,41,32,59,32,125,10,32,32,32,32,110,32,61,32,121,105,101,108,100,40,115,41,32,59,10,32,32,125,10,125,10,116,97,115,107,32,109,97,105,110,32,123,10,32,32,108,101,116,32,111,32,61,32,115,116,97,114,116,32,111,117,116,101,114,40,41,32,59,10,32,32,100,111,32,114,101,115,117,109,101,40,111,44,32,48,41,32,59,10,32,32,119,104,105,108,101,32,116,114,117,101,32,123,32,111,117,116,32,114,101,115,117,109,101,40,111,44,32,114,101,99,118,40,105,110,41,41,32,59,32,125,10,125,10]
def Cy:List UInt8:=[98,111,120,32,105,110,116,115,32,110,117,109,32,49,32,59,10,98,111,120,32,111,100,100,32,110,117,109,32,49,32,59,10,98,111,120,32,114,101,115,116,32,110,117,109,32,49,32,59,10,116,97,115,107,32,110,117,109,98,101,114,115,32,123,10,32,32,108,101,116,32,105,32,61,32,50,32,59,10,32,32,119,104,105,108,101,32,105,32,60,32,50,54,32,123,32,115,101,110,100,32,105,110,116,115,32,105,32,59,32,105,32,61,32,105,32,43,32,49,32,59,32,125,10,125,10,116,97,115,107,32,116,119,111,32,123,10,32,32,111,117,116,32,50,32,59,10,32,32,119,104,105,108,101,32,116,114,117,101,32,123,32,108,101,116,32,120,32,61,32,114,101,99,118,40,105,110,116,115,41,32,59,32,105,102,32,120,32,37,32,50,32,33,61,32,48,32,123,32,115,101,110,100,32,111,100,100,32,120,32,59,32,125,32,125,10,125,10,116,97,115,107,32,116,104,114,101,101,32,123,10,32,32,111,117,116,32,51,32,59,10,32,32,119,104,105,108,101,32,116,114,117,101,32,123,32,108,101,116,32,120,32,61,32,114,101,99,118,40,111,100,100,41,32,59,32,105,102,32,120,32,37,32,51,32,33,61,32,48,32,123,32,115,101,110,100,32,114,101,115,116,32,120,32,59,32,125,32,125,10,125,10,116,97,115,107,32,111,116,104,101,114,115,32,123,10,32,32,119,104,105,108,101,32,116,114,117,101,32,123,32,108,101,116,32,120,32,61,32,114,101,99,118,40,114,101,115,116,41,32,59,32,105,102,32,120,32,37,32,53,32,33,61,32,48,32,123,32,111,117,116,32,120,32,59,32,125,32,101,108,115,101,32,123,32,105,102,32,120,32,61,61,32,53,32,123,32,111,117,116,32,120,32,59,32,125,32,125,32,125,10,125,10]
def Dy:List UInt8:=[98,111,120,32,105,110,32,110,117,109,32,50,48,32,59,10,116,97,115,107,32,109,97,105,110,32,123,10,32,32,108,101,116,32,115,32,61,32,48,32,59,10,32,32,119,104,105,108,101,32,116,114,117,101,32,123,32,115,32,61,32,115,32,43,32,114,101,99,118,40,105,110,41,32,59,32,111,117,116,32,115,32,59,32,125,10,125,10]
def Ey:List UInt8:=[98,111,120,32,105,110,32,110,117,109,32,50,48,32,59,10,35,32,116,119,111,32,116,104,97,116,32,116,97,107,101,32,116,117,114,110,115,10,103,101,110,32,112,108,117,115,40,107,32,110,117,109,41,32,116,97,107,101,115,32,110,117,109,32,121,105,101,108,100,115,32,110,117,109,32,123,10,32,32,108,101,116,32,120,32,61,32,121,105,101,108,100,40,48,41,32,59,10,32,32,119,104,105,108,101,32,116,114,117,101,32,123,32,120,32,61,32,121,105,101,108,100,40,120,32,43,32,107,41,32,59,32,125,10,125,10,116,97,115,107,32,109,97,105,110,32,123,10,32,32,108,101,116,32,97,32,61,32,115,116,97,114,116,32,112,108,117,115,40,49,41,32,59,10,32,32,108,101,116,32,98,32,61,32,115,116,97,114,116,32,112,108,117,115,40,45,49,41,32,59,10,32,32,100,111,32,114,101,115,117,109,101,40,97,44,32,48,41,32,59,10,32,32,100,111,32,114,101,115,117,109,101,40,98,44,32,48,41,32,59,10,32,32,119,104,105,108,101,32,116,114,117,101,32,123,32,111,117,116,32,114,101,115,117,109,101,40,97,44,32,114,101,99,118,40,105,110,41,41,32,59,32,111,117,116,32,114,101,115,117,109,101,40,98,44,32,114,101,99,118,40,105,110,41,41,32,59,32,125,10,125,10]
def Fy:List UInt8:=[98,111,120,32,105,110,32,110,117,109,32,50,48,32,59,10,116,97,115,107,32,109,97,105,110,32,123,10,32,32,108,101,116,32,120,32,61,32,114,101,99,118,40,105,110,41,32,59,10,32,32,119,104,105,108,101,32,120,32,33,61,32,48,32,123,32,111,117,116,32,120,32,59,32,120,32,61,32,114,101,99,118,40,105,110,41,32,59,32,125,10,125,10]
def Gy:List UInt8:=[98,111,120,32,105,110,32,110,117,109,32,50,48,32,59,10,116,97,115,107,32,109,97,105,110,32,123,10,32,32,108,101,116,32,97,32,61,32,114,101,99,118,40,105,110,41,32,59,10,32,32,108,101,116,32,98,32,61,32,114,101,99,118,40,105,110,41,32,59,10,32,32,119,104,105,108,101,32,116,114,117,101,32,123,10,32,32,32,32,108,101,116,32,99,32,61,32,114,101,99,118,40,105,110,41,32,59,10,32,32,32,32,111,117,116,32,97,32,43,32,98,32,43,32,99,32,59,10,32,32,32,32,97,32,61,32,98,32,59,10,32,32,32,32,98,32,61,32,99,32,59,10,32,32,125,10,125,10]
def Hy:List UInt8:=[98,111,120,32,97,32,110,117,109,32,50,48,32,59,10,98,111,120,32,98,32,110,117,109,32,50,48,32,59,10,116,97,115,107,32,109,97,105,110,32,123,10,32,32,119,104,105,108,101,32,116,114,117,101,32,123,32,111,117,116,32,114,101,99,118,40,97,41,32,43,32,114,101,99,118,40,98,41,32,59,32,125,10,125,10]
structure Ac where
  name:List UInt8
  text:List UInt8
  deriving DecidableEq,Inhabited,Repr
instance:Va Ac where
  sz:=2
  pos:=by decide
  cs μ l x:=l=[S x.name,S x.text]
  fh h:=by obtain rfl:=h;rfl
  up le h:=by exact h
  sg h:=by obtain rfl:=h;rfl
def Yw  :Option (List Ac):=
  some [(Ac.mk [97,118,101,114,97,103,101] Zy),(Ac.mk [98,105,116,115] az),(Ac.mk [99,104,97,110,103,101,115] bz),(Ac.mk [99,111,108,108,97,116,122] cz),(Ac.mk [100,101,100,117,112,101] dz),(Ac.mk [100,105,103,105,116,115] ez),(Ac.mk [100,111,117,98,108,101] fz),(Ac.mk [101,118,101,110,115] gz),(Ac.mk [102,97,99,116] qy)]
def mw  :Option (List Ac):=
  some [(Ac.mk [102,105,98] ry),(Ac.mk [103,97,116,101] sy),(Ac.mk [103,99,100] uy),(Ac.mk [103,114,101,97,116,101,115,116] vy),(Ac.mk [109,101,114,103,101] wy),(Ac.mk [112,97,105,114,115] xy),(Ac.mk [112,105,110,103,112,111,110,103] yy),(Ac.mk [112,111,119,101,114] zy),(Ac.mk [112,114,105,109,101] Ay)]
def Ax  :Option (List Ac):=
  some [(Ac.mk [114,111,117,110,100,115] By),(Ac.mk [115,105,101,118,101] Cy),(Ac.mk [115,117,109,115] Dy),(Ac.mk [116,117,114,110,115] Ey),(Ac.mk [117,110,116,105,108] Fy),(Ac.mk [119,105,110,100,111,119] Gy),(Ac.mk [122,105,112] Hy)]
def Zw  (p_1:Ac) (p_2:List UInt8):Option Bool :=
  some (decide (p_1.name=p_2))
def Kq (p_1:List Ac) (p_2:Ac→Option Bool):Nat→Int→Option Int
  | 0,_=>none
  | n+1,i20 =>
    if i20<(p_1.length:Int) then
      (at_ p_1 i20).bind fun a =>
      (p_2 a).bind fun b =>
      if b=true then
        some i20
      else
        (i64 (i20+1)).bind fun i49 =>
        Kq p_1 p_2 n i49
    else
      none
def Lu  (p_1:List Ac) (p_2:Ac→Option Bool):Option Int :=
  Kq p_1 p_2 (p_1.length+1) 0
end Go.Y
namespace Go.Y
open Go.bc Go.Xc
def vv  (p_2:Int):Option (List Ac):=
  if p_2<0 then
    none
  else
    (i64 (0 - 0)).bind fun i5 =>
    (i64 (p_2 - i5)).bind fun i7 =>
    if (0:Int)<i7 then
      (uu i7).bind fun oa =>
      (cut (List.replicate oa ((Ac.mk [] []):Ac)) 0 0).bind fun a =>
      some a
    else
      none
def Lq (p_1:List (List Ac)):Nat→Int→(List Ac)→Option (List Ac)
  | 0,_,_=>none
  | n+1,i83,a =>
    if i83<(p_1.length:Int) then
      (at_ p_1 i83).bind fun b =>
      (app a b).bind fun c =>
      (i64 (i83+1)).bind fun i129 =>
      Lq p_1 n i129 c
    else
      some a
def Mq (p_1:List (List Ac)):Nat→Int→Int→Option (List Ac)
  | 0,_,_=>none
  | n+1,i22,i23 =>
    if i23<(p_1.length:Int) then
      (at_ p_1 i23).bind fun a =>
      (i64 (i22+(a.length:Int))).bind fun i52 =>
      if i52<0 then
        none
      else
        (i64 (i23+1)).bind fun i55 =>
        Mq p_1 n i52 i55
    else
      (vv i22).bind fun b =>
      Lq p_1 (p_1.length+1) 0 b
def Wu  (p_1:List (List Ac)):Option (List Ac):=
  Mq p_1 (p_1.length+1) 0 0
def Xx  :Option (List Ac):=
  (Yw ).bind fun a =>
  (mw ).bind fun b =>
  (Ax ).bind fun c =>
  (Wu [a,b,c]).bind fun d =>
  some d
def Bx  (p_1:List UInt8):Option (List UInt8×Int):=
  (Xx ).bind fun a =>
  (Lu a (fun c=>Zw c p_1)).bind fun b =>
  if b<0 then
    none
  else
    (at_ a b).bind fun d =>
    some (d.text,0)
def Zu (a:Hd×tf):Option (Hd×Int):=
  some (a.1,a.2.ih)
def nw (fu:Nat)  (p_1:List UInt8):Option (Hd×Int):=
  (Bx p_1).bind fun a =>
  if a.2≠0 then
    none
  else
    (Dw fu a.1).bind fun b =>
    if b.2.ih≠0 then
      none
    else
      (mv fu b.1).bind fun c =>
      Zu c
def Ut (fu:Nat)  (p_1:List UInt8):Option (ri×Int):=
  (nw fu p_1).bind fun a =>
  if a.2≠0 then
    none
  else
    (jw fu a.1 ([]:List qk) 100).bind fun b =>
    some (b.1,b.2)
end Go.Y
namespace Go.Y
open Go.bc Go.Xc
def Fs (p_1:List Int) (p_2:List Int):Nat→Int→Option Bool
  | 0,_=>none
  | n+1,i26 =>
    if i26<(p_1.length:Int) then
      (at_ p_1 i26).bind fun a =>
      (at_ p_2 i26).bind fun b =>
      if a≠b then
        some false
      else
        (i64 (i26+1)).bind fun i65 =>
        Fs p_1 p_2 n i65
    else
      some true
def Co  (p_1:List Int) (p_2:List Int):Option Bool :=
  if (p_1.length:Int)≠(p_2.length:Int) then
    some false
  else
    Fs p_1 p_2 (p_1.length+1) 0
def wm (fu:Nat) (ze:Bool):Option Bool :=
  if ze=true then
    some false
  else
    (Ut fu [112,105,110,103,112,111,110,103]).bind fun a =>
    if a.2=0 then
      if (a.1.xj.length:Int)=2 then
        (at_ a.1.xj 0).bind fun b =>
        if b.State=4 then
          (at_ a.1.xj 1).bind fun c =>
          if c.State=3 then
            (at_ a.1.xj 0).bind fun d =>
            (Co d.Out [2,4,8,16,32,64,128]).bind fun e =>
            some e
          else
            some false
        else
          some false
      else
        some false
    else
      some false
def dt (fu:Nat)  :Option Bool :=
  (Ut fu [115,105,101,118,101]).bind fun a =>
  if a.2≠0 then
    wm fu true
  else
    if (a.1.xj.length:Int)≠4 then
      wm fu true
    else
      (at_ a.1.xj 0).bind fun b =>
      if b.State≠4 then
        wm fu true
      else
        (at_ a.1.xj 1).bind fun c =>
        (Co c.Out [2]).bind fun d =>
        if d=true then
          (at_ a.1.xj 2).bind fun e =>
          (Co e.Out [3]).bind fun f =>
          if f=true then
            (at_ a.1.xj 3).bind fun g =>
            (Co g.Out [5,7,11,13,17,19,23]).bind fun h =>
            wm fu (!h)
          else
            wm fu true
        else
          wm fu true
end Go.Y
