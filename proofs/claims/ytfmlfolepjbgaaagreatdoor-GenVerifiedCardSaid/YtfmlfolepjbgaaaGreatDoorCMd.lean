/- Texts of Md. -/
import Derived.Test.YtfmlfolepjbgaaaGreatDoorCXu
set_option linter.unusedSimpArgs false
set_option linter.unusedVariables false
set_option linter.unusedSectionVars false
namespace Go.Y
open Go.oc Go.sd
structure sb where
  Kind:Int
  N:Int
  Name:List UInt8
  Kids:List sb
  deriving Inhabited,Repr
structure Ub where
  Kind:Int
  Name:List UInt8
  X:sb
  Body:List Ub
  mf:List Ub
  deriving Inhabited,Repr
def Wl {α:Type}(sz:Nat) (μ:M) (a:Option Addr) (c:Nat) (xs:List α) (g:Nat→List Value):Prop :=
  xs.length≤c∧c≤maxLen∧(xs=[]∨∃ b o,a=some ⟨b,o,none⟩∧∀ (i:Nat) (y:α),xs[i]?=some y→Ec μ b (o+i*sz) (g i))
inductive Fo (μ:M):List Value→sb→Prop where
  | mk (x:sb) (a:Option Addr) (c:Nat) (g:Nat→List Value) (h:Wl 4 μ a c x.Kids g) (k:∀ (i:Nat) (y:sb),x.Kids[i]?=some y→Fo μ (g i) y) :
    Fo μ [.int .i64 x.Kind,.int .i64 x.N,S x.Name,.slice a x.Kids.length c] x
theorem Wl.tt {α:Type}{sz:Nat}{μ:M}{a:Option Addr}{c:Nat}{xs:List α}{g:Nat→List Value}{R:List Value→α→Prop}(h:Wl sz μ a c xs g) (k:∀ (i:Nat) (y:α),xs[i]?=some y→R (g i) y):pd sz R μ a c xs:=by
  refine ⟨h.1,h.2.1,?_⟩;rcases h.2.2 with h | ⟨b,o,e,f⟩
  · exact .inl h
  · exact .inr ⟨b,o,e,g,fun i x d=>⟨f i x d,k i x d⟩⟩
theorem Wl.of {α:Type}{sz:Nat}{μ:M}{a:Option Addr}{c:Nat}{xs:List α}{R:List Value→α→Prop}(h:pd sz R μ a c xs):∃ g,Wl sz μ a c xs g∧∀ (i:Nat) (y:α),xs[i]?=some y→R (g i) y:=by
  rcases h.el with e | ⟨b,o,j,g,f⟩
  · exact ⟨fun _=>[],⟨h.le,h.cap,.inl e⟩,fun i y d=>by simp [e] at d⟩
  · exact ⟨g,⟨h.le,h.cap,.inr ⟨b,o,j,fun i y d=>(f i y d).1⟩⟩,fun i y d=>(f i y d).2⟩
theorem Wl.up {α:Type}{sz:Nat}{μ la:M}{a:Option Addr}{c:Nat}{xs:List α}{g:Nat→List Value}(h:Wl sz μ a c xs g) (l:ea μ la):Wl sz la a c xs g:=by
  refine ⟨h.1,h.2.1,?_⟩;rcases h.2.2 with h | ⟨b,o,d,e⟩
  · exact .inl h
  · exact .inr ⟨b,o,d,fun i y f=>(e i y f).up l⟩
theorem Fo.up {μ la:M}(l:ea μ la){cs:List Value}{x:sb}(h:Fo μ cs x):Fo la cs x:=by
  induction h with
  | mk x a c g h k b=>exact .mk x a c g (h.up l) b
instance:Sa sb where
  sz:=4
  pos:=by decide
  cs:=Fo
  vg h:=by cases h;rfl
  up l h:=Fo.up l h
  ei h:=by cases h;rfl
theorem sb.o {μ:M}{l:List Value}{x:sb}(h:Sa.cs μ l x):∃ a c,l=[.int .i64 x.Kind,.int .i64 x.N,S x.Name,.slice a x.Kids.length c]∧Ra μ a c x.Kids:=by
  have b:Fo μ l x:=h;cases b with
  | mk _ a c g d k1=>exact ⟨a,c,rfl,d.tt k1⟩
theorem sb.i {μ:M}{l:List Value}{x:sb}(h:∃ a c,l=[.int .i64 x.Kind,.int .i64 x.N,S x.Name,.slice a x.Kids.length c]∧Ra μ a c x.Kids):Sa.cs μ l x:=by
  obtain ⟨a,c,rfl,h⟩:=h;obtain ⟨g,h,k⟩:=Wl.of h;exact Fo.mk x a c g h k
inductive Hn (μ:M):List Value→Ub→Prop where
  | mk (x:Ub) (ta:Option Addr) (Wa:Nat) (a2:Option Addr) (c2:Nat) (a3:Option Addr) (c3:Nat) (g2 g3:Nat→List Value) (a:Ra μ ta Wa x.X.Kids)
      (b:Wl 8 μ a2 c2 x.Body g2) (c:∀ (i:Nat) (y:Ub),x.Body[i]?=some y→Hn μ (g2 i) y)
      (d:Wl 8 μ a3 c3 x.mf g3) (e:∀ (i:Nat) (y:Ub),x.mf[i]?=some y→Hn μ (g3 i) y) :
    Hn μ [.int .i64 x.Kind,S x.Name,.int .i64 x.X.Kind,.int .i64 x.X.N,S x.X.Name,.slice ta x.X.Kids.length Wa,.slice a2 x.Body.length c2,.slice a3 x.mf.length c3] x
theorem Hn.up {μ la:M}(l:ea μ la){cs:List Value}{x:Ub}(h:Hn μ cs x):Hn la cs x:=by
  induction h with
  | mk x ta Wa a2 c2 a3 c3 g2 g3 a b f c g d e=>exact .mk x ta Wa a2 c2 a3 c3 g2 g3 (a.up l) (b.up l) d (c.up l) e
instance:Sa Ub where
  sz:=8
  pos:=by decide
  cs:=Hn
  vg h:=by cases h;rfl
  up l h:=Hn.up l h
  ei h:=by cases h;rfl
theorem Ub.o {μ:M}{l:List Value}{x:Ub}(h:Sa.cs μ l x):∃ ta Wa a2 c2 a3 c3,l=[.int .i64 x.Kind,S x.Name,.int .i64 x.X.Kind,.int .i64 x.X.N,S x.X.Name,.slice ta x.X.Kids.length Wa,.slice a2 x.Body.length c2,.slice a3 x.mf.length c3]∧Ra μ ta Wa x.X.Kids∧Ra μ a2 c2 x.Body∧Ra μ a3 c3 x.mf:=by
  have a:Hn μ l x:=h;cases a with
  | mk _ ta Wa a2 c2 a3 c3 g2 g3 b c d e f=>exact ⟨ta,Wa,a2,c2,a3,c3,rfl,b,c.tt d,e.tt f⟩
theorem Ub.i {μ:M}{l:List Value}{x:Ub}(h:∃ ta Wa a2 c2 a3 c3,l=[.int .i64 x.Kind,S x.Name,.int .i64 x.X.Kind,.int .i64 x.X.N,S x.X.Name,.slice ta x.X.Kids.length Wa,.slice a2 x.Body.length c2,.slice a3 x.mf.length c3]∧Ra μ ta Wa x.X.Kids∧Ra μ a2 c2 x.Body∧Ra μ a3 c3 x.mf):Sa.cs μ l x:=by
  obtain ⟨ta,Wa,a2,c2,a3,c3,rfl,c,a,b⟩:=h;obtain ⟨g2,a,d⟩:=Wl.of a;obtain ⟨g3,b,e⟩:=Wl.of b;exact Hn.mk x ta Wa a2 c2 a3 c3 g2 g3 c a d b e
structure Gc where
  Kind:Int
  Text:List UInt8
  ED:Int
  Ec:Int
  deriving DecidableEq,Inhabited,Repr
instance:Sa Gc where
  sz:=4
  pos:=by decide
  cs μ l x:=l=[.int .i64 x.Kind,S x.Text,.int .i64 x.ED,.int .i64 x.Ec]
  vg h:=by obtain rfl:=h;rfl
  up le h:=by exact h
  ei h:=by obtain rfl:=h;rfl
structure fe where
  ve:Int
  Ec:Int
  deriving DecidableEq,Inhabited,Repr
structure Ya where
  Kind:Int
  yc:List UInt8
  deriving DecidableEq,Inhabited,Repr
instance:Sa Ya where
  sz:=2
  pos:=by decide
  cs μ l x:=l=[.int .i64 x.Kind,S x.yc]
  vg h:=by obtain rfl:=h;rfl
  up le h:=by exact h
  ei h:=by obtain rfl:=h;rfl
structure TParam where
  Name:List UInt8
  tb:Ya
  deriving DecidableEq,Inhabited,Repr
instance:Sa TParam where
  sz:=3
  pos:=by decide
  cs μ l x:=l=[S x.Name,.int .i64 x.tb.Kind,S x.tb.yc]
  vg h:=by obtain rfl:=h;rfl
  up le h:=by exact h
  ei h:=by obtain rfl:=h;rfl
structure va where
  Kind:Int
  Name:List UInt8
  tb:Ya
  fc:Ya
  Ue:Int
  Params:List TParam
  Body:List Ub
  deriving Inhabited,Repr
instance:Sa va where
  sz:=9
  pos:=by decide
  cs μ l x:=∃ ta Wa a2 c2,l=[.int .i64 x.Kind,S x.Name,.int .i64 x.tb.Kind,S x.tb.yc,.int .i64 x.fc.Kind,S x.fc.yc,.int .i64 x.Ue,.slice ta x.Params.length Wa,.slice a2 x.Body.length c2]∧Ra μ ta Wa x.Params∧Ra μ a2 c2 x.Body
  vg h:=by obtain ⟨ta,Wa,a2,c2,rfl,m1,m2⟩:=h;rfl
  up le h:=by obtain ⟨ta,Wa,a2,c2,rfl,m1,m2⟩:=h;exact ⟨ta,Wa,a2,c2,rfl,m1.up le,m2.up le⟩
  ei h:=by obtain ⟨ta,Wa,a2,c2,rfl,m1,m2⟩:=h;rfl
theorem va.i {μ:M}{l:List Value}{x:va}(h:∃ ta Wa a2 c2,l=[.int .i64 x.Kind,S x.Name,.int .i64 x.tb.Kind,S x.tb.yc,.int .i64 x.fc.Kind,S x.fc.yc,.int .i64 x.Ue,.slice ta x.Params.length Wa,.slice a2 x.Body.length c2]∧Ra μ ta Wa x.Params∧Ra μ a2 c2 x.Body):Sa.cs μ l x:=h
structure dh where
  vK:List UInt8
  Writer:List UInt8
  Reader:List UInt8
  deriving DecidableEq,Inhabited,Repr
instance:Sa dh where
  sz:=3
  pos:=by decide
  cs μ l x:=l=[S x.vK,S x.Writer,S x.Reader]
  vg h:=by obtain rfl:=h;rfl
  up le h:=by exact h
  ei h:=by obtain rfl:=h;rfl
instance:hh Ya:=⟨jr,jr.up⟩
instance:hh va:=⟨Zn,Zn.up⟩
structure Eb where
  defs:List va
  named:List (List UInt8×va)
  deriving Inhabited,Repr
structure Ze where
  calls:List (List UInt8)
  wj:List (List UInt8)
  Wi:List (List UInt8)
  deriving DecidableEq,Inhabited,Repr
instance:Sa Ze where
  sz:=3
  pos:=by decide
  cs μ l x:=∃ ta Wa a2 c2 a3 c3,l=[.slice ta x.calls.length Wa,.slice a2 x.wj.length c2,.slice a3 x.Wi.length c3]∧Ra μ ta Wa x.calls∧Ra μ a2 c2 x.wj∧Ra μ a3 c3 x.Wi
  vg h:=by obtain ⟨ta,Wa,a2,c2,a3,c3,rfl,m1,m2,m3⟩:=h;rfl
  up le h:=by obtain ⟨ta,Wa,a2,c2,a3,c3,rfl,m1,m2,m3⟩:=h;exact ⟨ta,Wa,a2,c2,a3,c3,rfl,m1.up le,m2.up le,m3.up le⟩
  ei h:=by obtain ⟨ta,Wa,a2,c2,a3,c3,rfl,m1,m2,m3⟩:=h;rfl
theorem Ze.i {μ:M}{l:List Value}{x:Ze}(h:∃ ta Wa a2 c2 a3 c3,l=[.slice ta x.calls.length Wa,.slice a2 x.wj.length c2,.slice a3 x.Wi.length c3]∧Ra μ ta Wa x.calls∧Ra μ a2 c2 x.wj∧Ra μ a3 c3 x.Wi):Sa.cs μ l x:=h
structure kh where
  bt:List (List UInt8×Int)
  once:Bool
  deriving DecidableEq,Inhabited,Repr
instance:Sa kh where
  sz:=2
  pos:=by decide
  cs μ l x:=∃ V,l=[.map (some V),.bool x.once]∧Mf μ V x.bt
  vg h:=by obtain ⟨V,rfl,m1⟩:=h;rfl
  up le h:=by obtain ⟨V,rfl,m1⟩:=h;exact ⟨V,rfl,m1.up le⟩
  ei h:=by obtain ⟨V,rfl,m1⟩:=h;rfl
theorem kh.i {μ:M}{l:List Value}{x:kh}(h:∃ V,l=[.map (some V),.bool x.once]∧Mf μ V x.bt):Sa.cs μ l x:=h
structure Fe where
  boxes:List (List UInt8×Int)
  Pg:List (List UInt8×Int)
  defs:List (List UInt8×va)
  deriving Inhabited,Repr
instance:hh Ze:=⟨jr,jr.up⟩
structure Bi where
  tb:Int
  Ue:Int
  deriving DecidableEq,Inhabited,Repr
instance:Sa Bi where
  sz:=2
  pos:=by decide
  cs μ l x:=l=[.int .i64 x.tb,.int .i64 x.Ue]
  vg h:=by obtain rfl:=h;rfl
  up le h:=by exact h
  ei h:=by obtain rfl:=h;rfl
structure fb where
  Op:Int
  A:Int
  N:Int
  deriving DecidableEq,Inhabited,Repr
instance:Sa fb where
  sz:=3
  pos:=by decide
  cs μ l x:=l=[.int .i64 x.Op,.int .i64 x.A,.int .i64 x.N]
  vg h:=by obtain rfl:=h;rfl
  up le h:=by exact h
  ei h:=by obtain rfl:=h;rfl
structure uc where
  Kind:Int
  Params:Int
  Wb:List Int
  Result:Int
  fc:Int
  Code:List fb
  deriving DecidableEq,Inhabited,Repr
instance:Sa uc where
  sz:=6
  pos:=by decide
  cs μ l x:=∃ ta Wa a2 c2,l=[.int .i64 x.Kind,.int .i64 x.Params,.slice ta x.Wb.length Wa,.int .i64 x.Result,.int .i64 x.fc,.slice a2 x.Code.length c2]∧Ra μ ta Wa x.Wb∧Ra μ a2 c2 x.Code
  vg h:=by obtain ⟨ta,Wa,a2,c2,rfl,m1,m2⟩:=h;rfl
  up le h:=by obtain ⟨ta,Wa,a2,c2,rfl,m1,m2⟩:=h;exact ⟨ta,Wa,a2,c2,rfl,m1.up le,m2.up le⟩
  ei h:=by obtain ⟨ta,Wa,a2,c2,rfl,m1,m2⟩:=h;rfl
theorem uc.i {μ:M}{l:List Value}{x:uc}(h:∃ ta Wa a2 c2,l=[.int .i64 x.Kind,.int .i64 x.Params,.slice ta x.Wb.length Wa,.int .i64 x.Result,.int .i64 x.fc,.slice a2 x.Code.length c2]∧Ra μ ta Wa x.Wb∧Ra μ a2 c2 x.Code):Sa.cs μ l x:=h
structure Pc where
  af:List Bi
  Jc:List uc
  deriving DecidableEq,Inhabited,Repr
instance:Sa Pc where
  sz:=2
  pos:=by decide
  cs μ l x:=∃ ta Wa a2 c2,l=[.slice ta x.af.length Wa,.slice a2 x.Jc.length c2]∧Ra μ ta Wa x.af∧Ra μ a2 c2 x.Jc
  vg h:=by obtain ⟨ta,Wa,a2,c2,rfl,m1,m2⟩:=h;rfl
  up le h:=by obtain ⟨ta,Wa,a2,c2,rfl,m1,m2⟩:=h;exact ⟨ta,Wa,a2,c2,rfl,m1.up le,m2.up le⟩
  ei h:=by obtain ⟨ta,Wa,a2,c2,rfl,m1,m2⟩:=h;rfl
theorem Pc.i {μ:M}{l:List Value}{x:Pc}(h:∃ ta Wa a2 c2,l=[.slice ta x.af.length Wa,.slice a2 x.Jc.length c2]∧Ra μ ta Wa x.af∧Ra μ a2 c2 x.Jc):Sa.cs μ l x:=h
structure eg where
  ve:Int
  Unit:Int
  Ec:Int
  deriving DecidableEq,Inhabited,Repr
structure vd where
  stack:List Int
  has:List Bool
  deriving DecidableEq,Inhabited,Repr
structure Ce where
  m:Option Pc
  deriving DecidableEq,Inhabited,Repr
instance:Sa Ce where
  sz:=1
  pos:=by decide
  cs μ l x:=∃ v1,l=[v1]∧we μ v1 x.m
  vg h:=by obtain ⟨v1,rfl,m1⟩:=h;rfl
  up le h:=by obtain ⟨v1,rfl,m1⟩:=h;exact ⟨v1,rfl,m1.up le⟩
  ei h:=by obtain ⟨v1,rfl,m1⟩:=h;simp [m1.Ae]
theorem Ce.i {μ:M}{l:List Value}{x:Ce}(h:∃ v1,l=[v1]∧we μ v1 x.m):Sa.cs μ l x:=h
end Go.Y
namespace Go.Y
def Tf (n : Int) : Prop := -9223372036854775808 ≤ n ∧ n ≤ 9223372036854775807
def FD (x : Bi) : Prop := Tf x.tb ∧ Tf x.Ue
end Go.Y
namespace Go.Y
open Go.oc Go.sd
def WJ:List UInt8:=[32,98,111,120,32,102,110,32,103,101,110,32,116,97,115,107,32,116,97,107,101,115,32,121,105,101,108,100,115,32,108,101,116,32,105,102,32,101,108,115,101,32,119,104,105,108,101,32,114,101,116,117,114,110,32,115,116,111,112,32,115,101,110,100,32,111,117,116,32,100,111,32,114,101,99,118,32,121,105,101,108,100,32,115,116,97,114,116,32,114,101,115,117,109,101,32,97,108,105,118,101,32,110,117,109,32,98,111,111,108,32,116,114,117,101,32,102,97,108,115,101,32,97,110,100,32,111,114,32,110,111,116,32]
def Dp  (p_1:UInt8):Option Bool :=
  if (97:Int)≤(p_1.toNat:Int) then
    if (p_1.toNat:Int)≤122 then
      some true
    else
      some (decide ((p_1.toNat:Int)=95))
  else
    some (decide ((p_1.toNat:Int)=95))
def Hp  (p_1:UInt8):Option Bool :=
  if (48:Int)≤(p_1.toNat:Int) then
    some (decide ((p_1.toNat:Int)≤57))
  else
    some false
def np (i13:Int) (a:Int→Option Int) (b:Bool):Option Int :=
  if b=true then
    (i64 (i13+1)).bind fun i33 =>
    a i33
  else
    some i13
def Fl (p_1:List UInt8) (a:UInt8→Option Bool):Nat→Int→Option Int
  | 0,_=>none
  | n+1,i13 =>
    if i13<(p_1.length:Int) then
      (at_ p_1 i13).bind fun b =>
      (a b).bind fun c =>
      np i13 (Fl p_1 a n) c
    else
      np i13 (Fl p_1 a n) false
def Cq (fu:Nat)  (p_1:List UInt8) (a:UInt8→Option Bool):Option Int :=
  Fl p_1 a fu 0
def oz  (p_1:UInt8):Option Bool :=
  (Dp p_1).bind fun a =>
  if a=true then
    some true
  else
    (Hp p_1).bind fun b =>
    some b
def Vp  (p_1:UInt8):Option Bool :=
  (Dp p_1).bind fun a =>
  if a=true then
    some true
  else
    (Hp p_1).bind fun b =>
    some b
def xm (fu:Nat) (p_1:List UInt8) (V:Bool):Option Bool :=
  if V=true then
    some false
  else
    (Cq fu p_1 Vp).bind fun a =>
    some (decide (a=(p_1.length:Int)))
def lh (fu:Nat)  (p_1:List UInt8):Option Bool :=
  if (p_1.length:Int)<1 then
    xm fu p_1 true
  else
    if (12:Int)<(p_1.length:Int) then
      xm fu p_1 true
    else
      (at_ p_1 0).bind fun a =>
      (Dp a).bind fun b =>
      if b=true then
        (cat [32] p_1).bind fun c =>
        (cat c [32]).bind fun d =>
        (Zw WJ d).bind fun e =>
        xm fu p_1 e
      else
        xm fu p_1 true
def Vy  (p_1:List UInt8) (a:List UInt8):Option Bool :=
  if (a.length:Int)≤(p_1.length:Int) then
    (cut p_1 0 (a.length:Int)).bind fun s2 =>
    some (decide (s2=a))
  else
    some false
def pz  (p_1:List UInt8) (a:List UInt8):Option Bool :=
  (Vy p_1 a).bind fun b =>
  some b
def aw (p_1:List UInt8):Nat→Int→Option (List UInt8)
  | 0,_=>none
  | n+1,i18 =>
    if i18<18 then
      (at_ [[61,61],[33,61],[60,61],[62,61],[60],[62],[61],[43],[45],[42],[47],[37],[40],[41],[123],[125],[44],[59]] i18).bind fun a =>
      (pz p_1 a).bind fun b =>
      if b=true then
        some a
      else
        (i64 (i18+1)).bind fun i46 =>
        aw p_1 n i46
    else
      none
def My  (p_1:List UInt8):Option (List UInt8):=
  aw p_1 19 0
def Nv (i6:Int) (a:UInt8) (b:Int→Option Int) (c:Bool):Option Int :=
  if c=true then
    (i64 (i6+1)).bind fun i21 =>
    b i21
  else
    if (a.toNat:Int)=35 then
      none
    else
      some i6
def Lr (p_1:List UInt8):Nat→Int→Option Int
  | 0,_=>none
  | n+1,i6 =>
    if i6<(p_1.length:Int) then
      (at_ p_1 i6).bind fun a =>
      if (a.toNat:Int)=32 then
        Nv i6 a (Lr p_1 n) (decide ((a.toNat:Int)=32))
      else
        if (a.toNat:Int)=9 then
          none
        else
          Nv i6 a (Lr p_1 n) (decide ((a.toNat:Int)=10))
    else
      some i6
def pw (fu:Nat)  (p_1:List UInt8):Option Int :=
  Lr p_1 fu 0
def Ft (fu:Nat) (p_1:List UInt8) (i58:Int) (b:List Gc) (c:Int→(List Gc)→Option (List Gc×fe)) (i118:Int) (a:List UInt8) (i120:Int):Option (List Gc×fe):=
  (app b [(Gc.mk i118 a i120 i58)]).bind fun d =>
  (i64 (i58+(a.length:Int))).bind fun i154 =>
  (cut p_1 i154 p_1.length).bind fun e =>
  (pw fu e).bind fun f =>
  (i64 (i154+f)).bind fun i161 =>
  c i161 d
def nq (fu:Nat) (p_1:List UInt8):Nat→Int→(List Gc)→Option (List Gc×fe)
  | 0,_,_=>none
  | n+1,i58,b =>
    if i58<(p_1.length:Int) then
      (cut p_1 i58 p_1.length).bind fun a =>
      (at_ a 0).bind fun d =>
      (Dp d).bind fun f =>
      if f=true then
        (Cq fu a oz).bind fun g =>
        (cut a 0 g).bind fun h =>
        Ft fu p_1 i58 b (nq fu p_1 n) 1 h 0
      else
        (Hp d).bind fun i =>
        if i=true then
          (Cq fu a Hp).bind fun j =>
          (cut a 0 j).bind fun c =>
          if (15:Int)<(c.length:Int) then
            none
          else
            (wz c).bind fun i140 =>
            Ft fu p_1 i58 b (nq fu p_1 n) 2 c i140
        else
          (My a).bind fun e =>
          if e=[] then
            none
          else
            Ft fu p_1 i58 b (nq fu p_1 n) 3 e 0
    else
      some (b,(fe.mk 0 0))
def Rx (fu:Nat)  (p_1:List UInt8):Option (List Gc×fe):=
  if (6000:Int)<(p_1.length:Int) then
    none
  else
    (pw fu p_1).bind fun a =>
    nq fu p_1 fu a []
end Go.Y
namespace Go.Y
open Go.oc Go.sd
def Ov  (yi:Bool):Option Int :=
  if yi=true then
    some 2
  else
    some (-1)
def Mr (p_1:Int) (Ef:Bool):Option Int :=
  if Ef=true then
    some 1
  else
    if p_1≤18 then
      Ov true
    else
      Ov (decide (p_1=23))
def Lt (p_1:Int) (V:Bool):Option Int :=
  if V=true then
    some 0
  else
    if p_1≤5 then
      Mr p_1 true
    else
      if p_1=21 then
        Mr p_1 true
      else
        Mr p_1 (decide (p_1=24))
def mu  (p_1:Int):Option Int :=
  if p_1≤3 then
    Lt p_1 true
  else
    Lt p_1 (decide (p_1=20))
def Pv (i3:Int) (Ef:Bool):Option (Int×Int):=
  if Ef=true then
    some (4,i3)
  else
    some (0,i3)
def Dq  (a:Int) (b:Int):Option (Int×Int):=
  (i64 (a+1)).bind fun i3 =>
  if (2000:Int)<i3 then
    Pv i3 true
  else
    Pv i3 (decide ((40:Int)<b))
def Rt  (zf:Bool):Option Int :=
  if zf=true then
    some 7
  else
    some 0
def xq (fu:Nat) (p_1:Ya) (Ta:Bool):Option Int :=
  if Ta=true then
    some 1
  else
    if p_1.Kind=3 then
      (lh fu p_1.yc).bind fun a =>
      Rt (!a)
    else
      Rt false
def Co (fu:Nat)  (p_1:Ya):Option Int :=
  if p_1.Kind<1 then
    xq fu p_1 true
  else
    xq fu p_1 (decide ((3:Int)<p_1.Kind))
structure jm where
  si:Int→sb→Int→Option (Int×Int)
def ik (self:jm) (b:sb) (p_3:Int):Nat→Int→Int→Option (Int×Int)
  | 0,_,_=>none
  | n+1,i72,i73 =>
    if i72<(b.Kids.length:Int) then
      (at_ b.Kids i72).bind fun c =>
      (i64 (p_3+1)).bind fun i105 =>
      (self.si i73 c i105).bind fun a =>
      if a.1≠0 then
        some (a.1,a.2)
      else
        (i64 (i72+1)).bind fun i111 =>
        ik self b p_3 n i111 a.2
    else
      some (0,i73)
def lo (self:jm) (a:sb) (p_3:Int) (b:Int×Int) (c:Bool):Option (Int×Int):=
  if c=true then
    some (5,b.2)
  else
    ik self a p_3 (a.Kids.length+1) 0 b.2
def mo (self:jm) (a:sb) (p_3:Int) (b:Int×Int) (d:Int) (c:Bool):Option (Int×Int):=
  if c=true then
    lo self a p_3 b c
  else
    if d<0 then
      lo self a p_3 b (decide ((6:Int)<(a.Kids.length:Int)))
    else
      lo self a p_3 b false
def zm (self:jm) (b:sb) (p_3:Int) (c:Int×Int) (a:Int) (d:Bool):Option (Int×Int):=
  if d=true then
    some (7,c.2)
  else
    if (0:Int)≤a then
      mo self b p_3 c a (decide ((b.Kids.length:Int)≠a))
    else
      mo self b p_3 c a false
def rn (fu:Nat) (self:jm) (a:sb) (p_3:Int) (b:Int×Int) (c:Int) (d:Bool):Option (Int×Int):=
  if d=true then
    some (3,b.2)
  else
    if a.Kind=3 then
      (lh fu a.Name).bind fun e =>
      zm self a p_3 b c (!e)
    else
      if a.Kind=20 then
        (lh fu a.Name).bind fun f =>
        zm self a p_3 b c (!f)
      else
        if c<0 then
          (lh fu a.Name).bind fun g =>
          zm self a p_3 b c (!g)
        else
          zm self a p_3 b c false
def oo (fu:Nat) (self:jm) (a:sb) (p_3:Int) (b:Int×Int) (c:Int) (d:Bool):Option (Int×Int):=
  if d=true then
    rn fu self a p_3 b c d
  else
    if a.Kind=2 then
      if a.N≠0 then
        rn fu self a p_3 b c (decide (a.N≠1))
      else
        rn fu self a p_3 b c false
    else
      rn fu self a p_3 b c false
def bm (fu:Nat) (self:jm) (a:sb) (p_3:Int) (b:Int×Int) (zi:Bool):Option (Int×Int):=
  if zi=true then
    some (1,b.2)
  else
    (mu a.Kind).bind fun c =>
    if a.Kind=1 then
      if a.N<0 then
        oo fu self a p_3 b c true
      else
        oo fu self a p_3 b c (decide ((999999999999999:Int)<a.N))
    else
      oo fu self a p_3 b c false
def si (fu:Nat) (self:jm) (c:Int) (b:sb) (p_3:Int):Option (Int×Int):=
  (Dq c p_3).bind fun a =>
  if a.1≠0 then
    some (a.1,a.2)
  else
    if b.Kind<1 then
      bm fu self b p_3 a true
    else
      bm fu self b p_3 a (decide ((24:Int)<b.Kind))
def ri:Nat→jm
  | 0=>⟨fun _ _ _=>none⟩
  | n+1=>⟨si n (ri n)⟩
structure km where
  Jg:Int→(List Ub)→Int→Option (Int×Int)
  Mj:Int→Ub→Int→Option (Int×Int)
def Zo (self:km) (b:List Ub) (p_3:Int):Nat→Int→Int→Option (Int×Int)
  | 0,_,_=>none
  | n+1,i29,i30 =>
    if i29<(b.length:Int) then
      (at_ b i29).bind fun c =>
      (self.Mj i30 c p_3).bind fun a =>
      if a.1≠0 then
        some (a.1,a.2)
      else
        (i64 (i29+1)).bind fun i76 =>
        Zo self b p_3 n i76 a.2
    else
      some (0,i30)
def Jg (self:km) (b:Int) (a:List Ub) (p_3:Int):Option (Int×Int):=
  if (50:Int)<(a.length:Int) then
    some (5,b)
  else
    Zo self a p_3 (a.length+1) 0 b
def qp (self:km) (a:Ub) (p_3:Int) (i48:Int):Option (Int×Int):=
  if a.Kind=3 then
    (i64 (p_3+1)).bind fun i58 =>
    (self.Jg i48 a.mf i58).bind fun b =>
    some (b.1,b.2)
  else
    some (0,i48)
def rp (self:km) (b:Ub) (p_3:Int) (c:Int×Int) (d:Bool):Option (Int×Int):=
  if d=true then
    (i64 (p_3+1)).bind fun i50 =>
    (self.Jg c.2 b.Body i50).bind fun a =>
    if a.1≠0 then
      some (a.1,a.2)
    else
      qp self b p_3 a.2
  else
    qp self b p_3 c.2
def Am (fu:Nat) (self:km) (a:Ub) (p_3:Int) (c:Int×Int) (d:Bool):Option (Int×Int):=
  if d=true then
    some (7,c.2)
  else
    if a.Kind=6 then
      some (0,c.2)
    else
      (i64 (p_3+1)).bind fun i39 =>
      ((ri fu).si c.2 a.X i39).bind fun b =>
      if b.1≠0 then
        some (b.1,b.2)
      else
        if a.Kind=3 then
          rp self a p_3 b true
        else
          rp self a p_3 b (decide (a.Kind=4))
def sn (fu:Nat) (self:km) (a:Ub) (p_3:Int) (b:Int×Int) (nd:Bool):Option (Int×Int):=
  if nd=true then
    some (1,b.2)
  else
    if a.Kind=1 then
      (lh fu a.Name).bind fun c =>
      Am fu self a p_3 b (!c)
    else
      if a.Kind=2 then
        (lh fu a.Name).bind fun d =>
        Am fu self a p_3 b (!d)
      else
        if a.Kind=7 then
          (lh fu a.Name).bind fun e =>
          Am fu self a p_3 b (!e)
        else
          Am fu self a p_3 b false
def Mj (fu:Nat) (self:km) (c:Int) (b:Ub) (p_3:Int):Option (Int×Int):=
  (Dq c p_3).bind fun a =>
  if a.1≠0 then
    some (a.1,a.2)
  else
    if b.Kind<1 then
      sn fu self b p_3 a true
    else
      sn fu self b p_3 a (decide ((9:Int)<b.Kind))
def gi:Nat→km
  | 0=>⟨fun _ _ _=>none,fun _ _ _=>none⟩
  | n+1=>⟨Jg (gi n),Mj n (gi n)⟩
def Zr (jf:Int×Int) (a:Bool):Option (Int×Int):=
  if a=true then
    some (3,jf.2)
  else
    some (0,jf.2)
def vp (fu:Nat) (a:va) (jf:Int×Int):Option (Int×Int):=
  if a.Kind≠1 then
    ((gi fu).Jg jf.2 a.Body 2).bind fun b =>
    some (b.1,b.2)
  else
    if a.Ue<1 then
      Zr jf true
    else
      Zr jf (decide ((20:Int)<a.Ue))
def xp (fu:Nat) (a:va) (jf:Int×Int):Option (Int×Int):=
  if a.Kind≠4 then
    (Co fu a.tb).bind fun b =>
    if b≠0 then
      some (b,jf.2)
    else
      vp fu a jf
  else
    vp fu a jf
def vn (fu:Nat) (a:va) (jf:Int×Int):Option (Int×Int):=
  if a.Kind=3 then
    (Co fu a.fc).bind fun b =>
    if b≠0 then
      some (b,jf.2)
    else
      xp fu a jf
  else
    xp fu a jf
def yp (fu:Nat) (a:va) (jf:Int×Int):Nat→Int→Option (Int×Int)
  | 0,_=>none
  | n+1,i47 =>
    if i47<(a.Params.length:Int) then
      (at_ a.Params i47).bind fun b =>
      (lh fu b.Name).bind fun d =>
      if d=true then
        (Co fu b.tb).bind fun c =>
        if c≠0 then
          some (c,jf.2)
        else
          (i64 (i47+1)).bind fun i87 =>
          yp fu a jf n i87
      else
        some (7,jf.2)
    else
      vn fu a jf
def zp (fu:Nat) (a:va) (jf:Int×Int) (b:Bool):Option (Int×Int):=
  if b=true then
    if (6:Int)<(a.Params.length:Int) then
      some (5,jf.2)
    else
      yp fu a jf (a.Params.length+1) 0
  else
    vn fu a jf
def xn (fu:Nat) (a:va) (jf:Int×Int) (b:Bool):Option (Int×Int):=
  if b=true then
    some (1,jf.2)
  else
    (lh fu a.Name).bind fun c =>
    if c=true then
      if a.Kind=2 then
        zp fu a jf true
      else
        zp fu a jf (decide (a.Kind=3))
    else
      some (7,jf.2)
def Hq (fu:Nat)  (b:Int) (a:va):Option (Int×Int):=
  (Dq b 1).bind fun jf =>
  if jf.1≠0 then
    some (jf.1,jf.2)
  else
    if a.Kind<1 then
      xn fu a jf true
    else
      xn fu a jf (decide ((4:Int)<a.Kind))
def bp (fu:Nat) (p_1:List va):Nat→Int→Int→Option fe
  | 0,_,_=>none
  | n+1,i28,i29 =>
    if i28<(p_1.length:Int) then
      (at_ p_1 i28).bind fun b =>
      (Hq fu i29 b).bind fun a =>
      if a.1≠0 then
        some (fe.mk a.1 i28)
      else
        (i64 (i28+1)).bind fun i69 =>
        bp fu p_1 n i69 a.2
    else
      some (fe.mk 0 0)
def Ep (fu:Nat)  (p_1:List va):Option fe :=
  if (30:Int)<(p_1.length:Int) then
    some (fe.mk 5 0)
  else
    bp fu p_1 (p_1.length+1) 0 0
end Go.Y
namespace Go.Y
open Go.oc Go.sd
def xz  (a:List Gc) (c:Int) (d:Int):Option Int :=
  if (a.length:Int)=0 then
    none
  else
    (at_ a 0).bind fun b =>
    some b.Ec
def Ho  (a:List Gc) (d:Int) (e:Int) (b:List UInt8):Option Bool :=
  if (0:Int)<(a.length:Int) then
    (at_ a 0).bind fun c =>
    some (decide (c.Text=b))
  else
    none
def Ch  (a:List Gc) (b:Int) (c:Int) (d:List UInt8):Option (Bool×List Gc×Int×Int):=
  (Ho a b c d).bind fun e =>
  if e=true then
    (cut a 1 a.length).bind fun f =>
    some (true,f,b,c)
  else
    some (false,a,b,c)
def iw (b:List (List UInt8)):Nat→Int→(List Gc)→Int→Int→Option (List Gc×Int×Int)
  | 0,_,_,_,_=>none
  | n+1,i30,c,i35,i36 =>
    if i30<(b.length:Int) then
      (at_ b i30).bind fun d =>
      (Ch c i35 i36 d).bind fun a =>
      if a.1=true then
        (i64 (i30+1)).bind fun i71 =>
        iw b n i71 a.2.1 a.2.2.1 a.2.2.2
      else
        none
    else
      some (c,i35,i36)
def Pw  (b:List Gc) (c:Int) (d:Int) (a:List (List UInt8)):Option (List Gc×Int×Int):=
  iw a (a.length+1) 0 b c d
def Wy (fu:Nat)  (a:List Gc) (c:Int) (d:Int):Option (List UInt8×List Gc×Int×Int):=
  if (a.length:Int)=0 then
    none
  else
    (at_ a 0).bind fun e =>
    if e.Kind≠1 then
      none
    else
      (at_ a 0).bind fun b =>
      (lh fu b.Text).bind fun f =>
      if f=true then
        (cut a 1 a.length).bind fun g =>
        some (b.Text,g,c,d)
      else
        none
def ry  (a:List Gc) (b:Int) (c:Int):Option (Int×List Gc×Int×Int):=
  if (a.length:Int)=0 then
    none
  else
    (at_ a 0).bind fun d =>
    if d.Kind≠2 then
      none
    else
      (at_ a 0).bind fun e =>
      (cut a 1 a.length).bind fun f =>
      some (e.ED,f,b,c)
def sy  :Option (List kh):=
  some [(kh.mk (Fc ([]:List (List UInt8×Int)) [111,114] 18) false),(kh.mk (Fc ([]:List (List UInt8×Int)) [97,110,100] 17) false),(kh.mk (Fc (Fc (Fc (Fc (Fc (Fc ([]:List (List UInt8×Int)) [61,61] 11) [33,61] 12) [60] 13) [60,61] 14) [62] 15) [62,61] 16) true),(kh.mk (Fc (Fc ([]:List (List UInt8×Int)) [43] 6) [45] 7) false),(kh.mk (Fc (Fc (Fc ([]:List (List UInt8×Int)) [42] 8) [47] 9) [37] 10) false)]
def Qw  (a:List Gc) (b:Int) (c:Int):Option (List Gc×Int×Int):=
  (i64 (c+1)).bind fun i14 =>
  if (200:Int)<i14 then
    none
  else
    some (a,b,i14)
def ax  (a:List Gc) (b:Int) (c:Int):Option (List Gc×Int×Int):=
  (i64 (c - 1)).bind fun i12 =>
  some (a,b,i12)
end Go.Y
namespace Go.Y
open Go.oc Go.sd
structure Pm where
  Pp:(List Gc)→Int→Int→Option (sb×List Gc×Int×Int)
  mm:(List Gc)→Int→Int→Int→Option (sb×List Gc×Int×Int)
  Mp:(List Gc)→Int→Int→Option (sb×List Gc×Int×Int)
  wo:(List Gc)→Int→Int→Option (sb×List Gc×Int×Int)
def Pp (self:Pm) (d:List Gc) (e:Int) (f:Int):Option (sb×List Gc×Int×Int):=
  (Qw d e f).bind fun b =>
  (self.mm b.1 b.2.1 b.2.2 0).bind fun a =>
  (ax a.2.1 a.2.2.1 a.2.2.2).bind fun c =>
  some (a.1,c.1,c.2.1,c.2.2)
def Sx (a:Int) (b:List kh) (c:kh) (d:Gc) (e:(List Gc)→Int→Int→Int→Int→(List UInt8)→(List sb)→Option (sb×List Gc×Int×Int)) (f:List Gc) (i204:Int) (i205:Int) (g:List sb):Option (sb×List Gc×Int×Int):=
  (at_ b a).bind fun h =>
  if h.once=true then
    none
  else
    e f i204 i205 ((Aa c.bt d.Text).getD 0) 0 [] g
def St (self:Pm) (b:Int) (d:List kh):Nat→(List Gc)→Int→Int→Int→Int→(List UInt8)→(List sb)→Option (sb×List Gc×Int×Int)
  | 0,_,_,_,_,_,_,_=>none
  | n+1,a,i103,i104,i105,i106,e,f =>
    if (0:Int)<(a.length:Int) then
      (at_ d b).bind fun g =>
      (at_ a 0).bind fun h =>
      if ((Aa g.bt h.Text).getD 0)=0 then
        some ((sb.mk i105 i106 e f),a,i103,i104)
      else
        (cut a 1 a.length).bind fun i =>
        (i64 (b+1)).bind fun i218 =>
        (self.mm i i103 i104 i218).bind fun c =>
        Sx b d g h (St self b d n) c.2.1 c.2.2.1 c.2.2.2 [(sb.mk i105 i106 e f),c.1]
    else
      none
def mm (fu:Nat) (self:Pm) (d:List Gc) (e:Int) (f:Int) (c:Int):Option (sb×List Gc×Int×Int):=
  (sy ).bind fun g =>
  if c=(g.length:Int) then
    (self.Mp d e f).bind fun b =>
    some (b.1,b.2.1,b.2.2.1,b.2.2.2)
  else
    (i64 (c+1)).bind fun i33 =>
    (self.mm d e f i33).bind fun a =>
    St self c g fu a.2.1 a.2.2.1 a.2.2.2 a.1.Kind a.1.N a.1.Name a.1.Kids
def Mp (self:Pm) (d:List Gc) (e:Int) (f:Int):Option (sb×List Gc×Int×Int):=
  (Ch d e f [45]).bind fun a =>
  if a.1=true then
    none
  else
    (Ch a.2.1 a.2.2.1 a.2.2.2 [110,111,116]).bind fun b =>
    if b.1=true then
      none
    else
      (self.wo b.2.1 b.2.2.1 b.2.2.2).bind fun c =>
      some (c.1,c.2.1,c.2.2.1,c.2.2.2)
def wo (self:Pm) (b:List Gc) (c:Int) (d:Int):Option (sb×List Gc×Int×Int):=
  if (0:Int)<(b.length:Int) then
    (at_ b 0).bind fun e =>
    if e.Kind=2 then
      (ry b c d).bind fun a =>
      some ((sb.mk 1 a.1 [] ([]:List sb)),a.2.1,a.2.2.1,a.2.2.2)
    else
      none
  else
    none
def Is:Nat→Pm
  | 0=>⟨fun _ _ _=>none,fun _ _ _ _=>none,fun _ _ _=>none,fun _ _ _=>none⟩
  | n+1=>⟨Pp (Is n),mm n (Is n),Mp (Is n),wo (Is n)⟩
structure Vq where
  Qp:(List Gc)→Int→Int→Option (List Ub×List Gc×Int×Int)
  Rp:(List Gc)→Int→Int→Option (Ub×List Gc×Int×Int)
def jw (self:Vq):Nat→(List Gc)→Int→Int→(List Ub)→Option (List Ub×List Gc×Int×Int)
  | 0,_,_,_,_=>none
  | n+1,e,i65,i66,c =>
    (Ch e i65 i66 [125]).bind fun a =>
    if a.1=true then
      (ax a.2.1 a.2.2.1 a.2.2.2).bind fun d =>
      some (c,d.1,d.2.1,d.2.2)
    else
      if (c.length:Int)=50 then
        none
      else
        (self.Rp a.2.1 a.2.2.1 a.2.2.2).bind fun b =>
        (app c [b.1]).bind fun f =>
        jw self n b.2.1 b.2.2.1 b.2.2.2 f
def Qp (fu:Nat) (self:Vq) (c:List Gc) (d:Int) (e:Int):Option (List Ub×List Gc×Int×Int):=
  (Qw c d e).bind fun a =>
  (Pw a.1 a.2.1 a.2.2 [[123]]).bind fun b =>
  jw self fu b.1 b.2.1 b.2.2 []
def Rp (fu:Nat) (self:Vq) (j:List Gc) (k:Int) (l:Int):Option (Ub×List Gc×Int×Int):=
  (Ch j k l [105,102]).bind fun b =>
  if b.1=true then
    none
  else
    (Ch b.2.1 b.2.2.1 b.2.2.2 [119,104,105,108,101]).bind fun c =>
    if c.1=true then
      none
    else
      (Ch c.2.1 c.2.2.1 c.2.2.2 [108,101,116]).bind fun d =>
      if d.1=true then
        none
      else
        (Ch d.2.1 d.2.2.1 d.2.2.2 [114,101,116,117,114,110]).bind fun e =>
        if e.1=true then
          none
        else
          (Ch e.2.1 e.2.2.1 e.2.2.2 [115,116,111,112]).bind fun f =>
          if f.1=true then
            none
          else
            (Ch f.2.1 f.2.2.1 f.2.2.2 [115,101,110,100]).bind fun g =>
            if g.1=true then
              none
            else
              (Ch g.2.1 g.2.2.1 g.2.2.2 [111,117,116]).bind fun h =>
              if h.1=true then
                ((Is fu).Pp h.2.1 h.2.2.1 h.2.2.2).bind fun a =>
                (Pw a.2.1 a.2.2.1 a.2.2.2 [[59]]).bind fun i =>
                some ((Ub.mk 8 [] (sb.mk a.1.Kind a.1.N a.1.Name a.1.Kids) ([]:List Ub) ([]:List Ub)),i.1,i.2.1,i.2.2)
              else
                none
def qw:Nat→Vq
  | 0=>⟨fun _ _ _=>none,fun _ _ _=>none⟩
  | n+1=>⟨Qp n (qw n),Rp n (qw n)⟩
def qz (fu:Nat)  (g:List Gc) (h:Int) (i:Int):Option (va×List Gc×Int×Int):=
  (xz g h i).bind fun j =>
  (Ch g h i [98,111,120]).bind fun a =>
  if a.1=true then
    none
  else
    (Ch a.2.1 a.2.2.1 a.2.2.2 [102,110]).bind fun b =>
    if b.1=true then
      none
    else
      (Ch b.2.1 b.2.2.1 b.2.2.2 [103,101,110]).bind fun c =>
      if c.1=true then
        none
      else
        (Ch c.2.1 c.2.2.1 c.2.2.2 [116,97,115,107]).bind fun d =>
        if d.1=true then
          (Wy fu d.2.1 d.2.2.1 d.2.2.2).bind fun e =>
          ((qw fu).Qp e.2.1 e.2.2.1 e.2.2.2).bind fun f =>
          some ((va.mk 4 e.1 (Ya.mk 0 []) (Ya.mk 0 []) 0 ([]:List TParam) f.1),f.2.1,f.2.2.1,f.2.2.2)
        else
          none
end Go.Y
namespace Go.Y
open Go.oc Go.sd
theorem iH {α:Type}{l:List Gc}{e d:Int}{k1 a:List UInt8}(i:¬ k1=a){A B C:Bool×List Gc×Int×Int→Option α}{r:α}
    (h:(Option.bind (Ch l e d k1) fun x=>if x.1=true then A x else Option.bind (Ch x.2.1 x.2.2.1 x.2.2.2 a) fun y=>if y.1=true then B y else C y)=some r) :
    (Option.bind (Ch l e d a) fun y=>if y.1=true then B y else Option.bind (Ch y.2.1 y.2.2.1 y.2.2.2 k1) fun x=>if x.1=true then A x else C x)=some r:=by
  have key:∀ k,(Ho l e d k=some false∧Ch l e d k=some (false,l,e,d))∨(∃ t Ha,l=t::Ha∧t.Text=k∧Ch l e d k=some (true,Ha,e,d)):=by
    intro k;cases l with
    | nil=>first | (left; simp [Ho,Ch]; done) | (exfalso; simp [Ho,Ch] at h)
    | cons t Ha =>
      by_cases b:t.Text=k
      · right;refine ⟨t,Ha,rfl,b,?_⟩;have c:(0:Int)<((Ha.length+1:Nat):Int):=by omega
        have j:(1:Int)≤((Ha.length+1:Nat):Int):=by omega
        have m:cut (t::Ha) 1 ((t::Ha).length)=some Ha:=by
          unfold cut;rw [if_pos ⟨by omega,by simpa using j,by simp⟩];simp
        have hs:Ho (t::Ha) e d k=some true:=by
          unfold Ho;rw [if_pos (by simp)];simp [at_,b]
        unfold Ch;rw [hs,Option.bind_some];simp only [if_true];rw [m];rfl
      · left;have c:(0:Int)<((Ha.length+1:Nat):Int):=by omega
        simp [Ch,Ho,at_,b,c]
  rcases key k1 with ⟨s1,i1⟩ | ⟨t,Ha,qa,f,i1⟩
  · rw [i1,Option.bind_some] at h;simp only [Bool.false_eq_true,if_false] at h;rcases key a with ⟨s2,i2⟩ | ⟨t,Ha,qa,f,i2⟩
    · rw [i2,Option.bind_some] at h ⊢;simp only [Bool.false_eq_true,if_false] at h ⊢;rw [i1,Option.bind_some];simpa using h
    · rw [i2,Option.bind_some] at h ⊢;simp only [if_true] at h ⊢;exact h
  · rw [i1,Option.bind_some] at h;simp only [if_true] at h;rcases key a with ⟨s2,i2⟩ | ⟨t2,o,g,n,i2⟩
    · rw [i2,Option.bind_some];simp only [Bool.false_eq_true,if_false];rw [i1,Option.bind_some];simpa using h
    · rw [qa] at g;obtain ⟨rfl,rfl⟩:=List.cons.inj g;exact absurd (f.symm.trans n) i
end Go.Y
namespace Go.Y
open Go.oc Go.sd
def zC:Option Unit:=some ()
def Ix (a:(List Gc)→Int→Int→(List va)→Option (List va×fe)) (b:List Gc) (i75:Int) (i76:Int) (c:List va):Option (List va×fe):=
  a b i75 i76 c
def Jx (a:List Gc×fe) (b:List va):Option (List va×fe):=
  (zC ).bind fun c =>
  some (b,a.2)
def Mt (fu:Nat) (c:List Gc×fe):Nat→(List Gc)→Int→Int→(List va)→Option (List va×fe)
  | 0,_,_,_,_=>none
  | n+1,d,i41,i42,a =>
    if (0:Int)<(d.length:Int) then
      if (a.length:Int)=30 then
        none
      else
        (qz fu d i41 i42).bind fun b =>
        (app a [b.1]).bind fun e =>
        Ix (Mt fu c n) b.2.1 b.2.2.1 b.2.2.2 e
    else
      (Ep fu a).bind fun f =>
      if f.ve≠0 then
        none
      else
        Jx c a
def uy (fu:Nat)  (p_1:List UInt8):Option (List va×fe):=
  (Rx fu p_1).bind fun a =>
  if a.2.ve≠0 then
    none
  else
    Mt fu a fu a.1 (p_1.length:Int) 0 []
end Go.Y
namespace Go.Y
open Go.oc Go.sd
def Cm  (p_1:Ya):Option Bool :=
  some (decide (p_1.Kind≠3))
def Fp  (p_1:Eb) (a:Int) (p_3:List UInt8):Option (Option va×Bool):=
  if (Aa p_1.named p_3).isSome=true then
    ((Aa p_1.named p_3)).bind fun b =>
    some ((Aa p_1.named p_3),decide (b.Kind=a))
  else
    some ((Aa p_1.named p_3),false)
def nu  (p_1:Eb) (a:Ya):Option Int :=
  (Cm a).bind fun b =>
  if b=true then
    some 0
  else
    (Fp p_1 3 a.yc).bind fun c =>
    if c.2=true then
      some 0
    else
      some 7
def Iv (p_1:Ya) (a:List UInt8):Option Ya :=
  some (Ya.mk p_1.Kind a)
def An  (p_1:Ya):Option Ya :=
  (Cm p_1).bind fun a =>
  if a=true then
    Iv p_1 []
  else
    Iv p_1 p_1.yc
def rk  :Option Ya :=
  some (Ya.mk 1 [])
def Di  :Option Ya :=
  some (Ya.mk 2 [])
def cp (a:List UInt8) (b:List (List (List UInt8×Ya))):Nat→Int→Option (Ya×Bool)
  | 0,_=>none
  | n+1,i48 =>
    if (0:Int)≤i48 then
      (at_ b i48).bind fun c =>
      if (Aa c a).isSome=true then
        some (((Aa c a).getD (Ya.mk 0 [])),true)
      else
        (i64 (i48 - 1)).bind fun i88 =>
        cp a b n i88
    else
      some ((Ya.mk 0 []),false)
def xo (fu:Nat)  (c:Eb) (d:va) (a:List (List (List UInt8×Ya))) (b:List UInt8):Option (Ya×Bool):=
  (i64 ((a.length:Int) - 1)).bind fun i27 =>
  cp b a fu i27
structure Vj where
  Tg:Eb→va→(List (List (List UInt8×Ya)))→sb→Ya→Option Int
  pk:Eb→va→(List (List (List UInt8×Ya)))→sb→Int→Option (Option va×Int)
  ml:Eb→va→(List (List (List UInt8×Ya)))→sb→Option (Ya×Int)
  jk:Eb→va→(List (List (List UInt8×Ya)))→sb→Option (Option va×Int)
  Hh:Eb→va→(List (List (List UInt8×Ya)))→sb→Option (Ya×Int)
def Bv  (i44:Int):Option Int :=
  some i44
def Gt (a:Ya×Int) (b:Bool):Option Int :=
  if b=true then
    Bv 9
  else
    Bv a.2
def Tg (self:Vj) (c:Eb) (d:va) (e:List (List (List UInt8×Ya))) (f:sb) (p_3:Ya):Option Int :=
  (self.Hh c d e f).bind fun a =>
  if a.2=0 then
    (An p_3).bind fun b =>
    Gt a (!(kj [(decide (a.1.Kind=b.Kind)),(decide (a.1.yc=b.yc))]))
  else
    Gt a false
def dp (self:Vj) (b:sb) (c:Eb) (d:va) (e:List (List (List UInt8×Ya))) (f:Option va×Bool) (a:va):Nat→Int→Option (Option va×Int)
  | 0,_=>none
  | n+1,i104 =>
    if i104<(a.Params.length:Int) then
      (at_ a.Params i104).bind fun h =>
      (at_ b.Kids i104).bind fun i =>
      (self.Tg c d e i h.tb).bind fun g =>
      if g≠0 then
        some (none,g)
      else
        (i64 (i104+1)).bind fun i158 =>
        dp self b c d e f a n i158
    else
      some (f.1,0)
def It (self:Vj) (c:sb) (d:Eb) (e:va) (f:List (List (List UInt8×Ya))) (a:Option va×Bool) (g:Bool):Option (Option va×Int):=
  if g=true then
    some (none,5)
  else
    (a.1).bind fun b =>
    dp self c d e f a b (b.Params.length+1) 0
def pk (self:Vj) (c:Eb) (d:va) (e:List (List (List UInt8×Ya))) (a:sb) (p_3:Int):Option (Option va×Int):=
  (Fp c p_3 a.Name).bind fun b =>
  if b.2=true then
    (b.1).bind fun f =>
    It self a c d e b (decide ((f.Params.length:Int)≠(a.Kids.length:Int)))
  else
    some (none,7)
def Jv (a:Ya×Int) (i73:Int):Option (Ya×Int):=
  some (a.1,i73)
def pq (a:Ya×Int) (b:Ya×Int) (c:Bool):Option (Ya×Int):=
  if c=true then
    Jv a 9
  else
    Jv a b.2
def ml (self:Vj) (c:Eb) (d:va) (e:List (List (List UInt8×Ya))) (f:sb):Option (Ya×Int):=
  (at_ f.Kids 0).bind fun g =>
  (self.Hh c d e g).bind fun a =>
  if a.2≠0 then
    some (a.1,a.2)
  else
    (at_ f.Kids 1).bind fun h =>
    (self.Hh c d e h).bind fun b =>
    if b.2=0 then
      if (kj [(decide (a.1.Kind=b.1.Kind)),(decide (a.1.yc=b.1.yc))])=true then
        (Cm a.1).bind fun i =>
        pq a b (!i)
      else
        pq a b true
    else
      pq a b false
def jk (self:Vj) (b:Eb) (c:va) (d:List (List (List UInt8×Ya))) (e:sb):Option (Option va×Int):=
  (self.Hh b c d e).bind fun a =>
  if a.2≠0 then
    some (none,a.2)
  else
    (Cm a.1).bind fun f =>
    if f=true then
      some (none,9)
    else
      some ((Aa b.named a.1.yc),0)
def Bx  (i52:Int) (i53:Int) (a:List UInt8):Option (Ya×Int):=
  some ((Ya.mk i53 a),i52)
def Cx  (i77:Int) (i78:Int) (a:List UInt8):Option (Ya×Int):=
  some ((Ya.mk i78 a),i77)
def Dx  (i170:Int) (i171:Int) (a:List UInt8):Option (Ya×Int):=
  some ((Ya.mk i171 a),i170)
def Ex  (i218:Int) (i219:Int) (a:List UInt8):Option (Ya×Int):=
  some ((Ya.mk i219 a),i218)
def ep (self:Vj) (a:sb) (e:Eb) (f:va) (g:List (List (List UInt8×Ya))) (h:Int) (i:List UInt8) (b:Int) (c:List UInt8):Nat→Int→Option (Ya×Int)
  | 0,_=>none
  | n+1,d =>
    if d<(a.Kids.length:Int) then
      (at_ a.Kids d).bind fun k =>
      (self.Tg e f g k (Ya.mk h i)).bind fun j =>
      if j≠0 then
        some ((Ya.mk b c),j)
      else
        (i64 (d+1)).bind fun l =>
        ep self a e f g h i b c n l
    else
      some ((Ya.mk b c),0)
def qq (self:Vj) (a:sb) (b:Eb) (c:va) (d:List (List (List UInt8×Ya))) (e:Int) (f:List UInt8) (g:Int) (h:List UInt8):Option (Ya×Int):=
  ep self a b c d e f g h (a.Kids.length+1) 0
def fp (self:Vj) (a:sb) (c:Eb) (b:va) (d:List (List (List UInt8×Ya))) (p:Bool):Option (Ya×Int):=
  if p=true then
    (self.ml c b d a).bind fun q =>
    (Di ).bind fun r =>
    some (r,q.2)
  else
    if a.Kind=19 then
      (self.pk c b d a 2).bind fun f =>
      if f.2≠0 then
        (rk ).bind fun s =>
        some (s,f.2)
      else
        (f.1).bind fun t =>
        (An t.tb).bind fun u =>
        some (u,0)
    else
      if a.Kind=20 then
        (Fp c 1 a.Name).bind fun h =>
        if h.2=true then
          (h.1).bind fun v =>
          (An v.tb).bind fun w =>
          some (w,0)
        else
          (rk ).bind fun x =>
          some (x,7)
      else
        if a.Kind=21 then
          if b.Kind≠3 then
            (rk ).bind fun y =>
            some (y,8)
          else
            (at_ a.Kids 0).bind fun z =>
            (An b.fc).bind fun i =>
            (self.Tg c b d z b.tb).bind fun A =>
            Dx A i.Kind i.yc
        else
          if a.Kind=22 then
            (self.pk c b d a 3).bind fun B =>
            some ((Ya.mk 3 a.Name),B.2)
          else
            if a.Kind=23 then
              (at_ a.Kids 0).bind fun C =>
              (self.jk c b d C).bind fun g =>
              if g.2≠0 then
                (rk ).bind fun D =>
                some (D,g.2)
              else
                (g.1).bind fun j =>
                (at_ a.Kids 1).bind fun E =>
                (An j.tb).bind fun k =>
                (self.Tg c b d E j.fc).bind fun F =>
                Ex F k.Kind k.yc
            else
              if a.Kind=24 then
                (at_ a.Kids 0).bind fun G =>
                (self.jk c b d G).bind fun H =>
                (Di ).bind fun K =>
                some (K,H.2)
              else
                (rk ).bind fun e =>
                (rk ).bind fun l =>
                if (17:Int)≤a.Kind then
                  (Di ).bind fun m =>
                  (Di ).bind fun n =>
                  qq self a c b d m.Kind m.yc n.Kind n.yc
                else
                  if (13:Int)≤a.Kind then
                    (Di ).bind fun o =>
                    qq self a c b d e.Kind e.yc o.Kind o.yc
                  else
                    qq self a c b d e.Kind e.yc l.Kind l.yc
def Hh (fu:Nat) (self:Vj) (b:Eb) (c:va) (d:List (List (List UInt8×Ya))) (a:sb):Option (Ya×Int):=
  if a.Kind=1 then
    (rk ).bind fun h =>
    some (h,0)
  else
    if a.Kind=2 then
      (Di ).bind fun i =>
      some (i,0)
    else
      if a.Kind=3 then
        (xo fu b c d a.Name).bind fun e =>
        if e.2=true then
          some (e.1,0)
        else
          (rk ).bind fun j =>
          some (j,7)
      else
        if a.Kind=4 then
          (at_ a.Kids 0).bind fun k =>
          (rk ).bind fun f =>
          (rk ).bind fun l =>
          (self.Tg b c d k l).bind fun m =>
          Bx m f.Kind f.yc
        else
          if a.Kind=5 then
            (at_ a.Kids 0).bind fun n =>
            (Di ).bind fun g =>
            (Di ).bind fun o =>
            (self.Tg b c d n o).bind fun p =>
            Cx p g.Kind g.yc
          else
            if a.Kind=11 then
              fp self a b c d (decide (a.Kind=11))
            else
              fp self a b c d (decide (a.Kind=12))
def gg:Nat→Vj
  | 0=>⟨fun _ _ _ _ _=>none,fun _ _ _ _ _=>none,fun _ _ _ _=>none,fun _ _ _ _=>none,fun _ _ _ _=>none⟩
  | n+1=>⟨Tg (gg n),pk (gg n),ml (gg n),jk (gg n),Hh n (gg n)⟩
end Go.Y
namespace Go.Y
open Go.oc Go.sd
def Qv  (a:List (List (List UInt8×Ya))):Option (List (List (List UInt8×Ya))):=
  some a
def Ip  (c:Eb) (d:va) (a:List (List (List UInt8×Ya))):Option (List (List (List UInt8×Ya))):=
  (i64 ((a.length:Int) - 1)).bind fun i33 =>
  (cut a 0 i33).bind fun b =>
  Qv b
structure Ln where
  rj:Eb→va→(List (List (List UInt8×Ya)))→(List Ub)→Option (Int×List (List (List UInt8×Ya)))
  ql:Eb→va→(List (List (List UInt8×Ya)))→Ub→Option (Int×List (List (List UInt8×Ya)))
def Xo (self:Ln) (d:List Ub) (a:Eb) (b:va):Nat→Int→(List (List (List UInt8×Ya)))→Option (Int×List (List (List UInt8×Ya)))
  | 0,_,_=>none
  | n+1,i74,e =>
    if i74<(d.length:Int) then
      (at_ d i74).bind fun f =>
      (self.ql a b e f).bind fun c =>
      if c.1≠0 then
        (Ip a b c.2).bind fun g =>
        some (c.1,g)
      else
        (i64 (i74+1)).bind fun i137 =>
        Xo self d a b n i137 c.2
    else
      (Ip a b e).bind fun h =>
      some (0,h)
def Ht (self:Ln) (a:List Ub) (b:Eb) (c:va) (d:List (List (List UInt8×Ya))):Option (Int×List (List (List UInt8×Ya))):=
  Xo self a b c (a.length+1) 0 d
def rj (self:Ln) (a:Eb) (b:va) (c:List (List (List UInt8×Ya))) (d:List Ub):Option (Int×List (List (List UInt8×Ya))):=
  (app c [[]]).bind fun e =>
  Ht self d a b e
def rq  (a:List (List (List UInt8×Ya))):Option (Int×List (List (List UInt8×Ya))):=
  some (0,a)
def Cr (self:Ln) (c:Ub) (d:Eb) (e:va) (a:Int×List (List (List UInt8×Ya))) (f:Bool):Option (Int×List (List (List UInt8×Ya))):=
  if f=true then
    some (a.1,a.2)
  else
    (self.rj d e a.2 c.mf).bind fun b =>
    some (b.1,b.2)
def Kv (a:List (List (List UInt8×Ya))) (i153:Int):Option (Int×List (List (List UInt8×Ya))):=
  some (i153,a)
def Jt (a:List (List (List UInt8×Ya))) (b:Ya×Int) (c:Bool):Option (Int×List (List (List UInt8×Ya))):=
  if c=true then
    Kv a 9
  else
    Kv a b.2
def gp (fu:Nat) (self:Ln) (b:Ub) (d:Eb) (c:va) (a:List (List (List UInt8×Ya))) (i:Bool):Option (Int×List (List (List UInt8×Ya))):=
  if i=true then
    (Di ).bind fun j =>
    ((gg fu).Tg d c a b.X j).bind fun g =>
    if g≠0 then
      some (g,a)
    else
      (self.rj d c a b.Body).bind fun f =>
      if f.1≠0 then
        Cr self b d c f true
      else
        Cr self b d c f (decide (b.Kind=4))
  else
    if b.Kind=5 then
      if c.Kind≠2 then
        some (8,a)
      else
        ((gg fu).Tg d c a b.X c.tb).bind fun k =>
        some (k,a)
    else
      if b.Kind=6 then
        if c.Kind=2 then
          some (8,a)
        else
          rq a
      else
        if b.Kind=7 then
          (Fp d 1 b.Name).bind fun h =>
          if h.2=true then
            (h.1).bind fun l =>
            ((gg fu).Tg d c a b.X l.tb).bind fun m =>
            some (m,a)
          else
            some (7,a)
        else
          if b.Kind=8 then
            ((gg fu).Hh d c a b.X).bind fun e =>
            if e.2=0 then
              (Cm e.1).bind fun n =>
              Jt a e (!n)
            else
              Jt a e false
          else
            if b.Kind=9 then
              ((gg fu).Hh d c a b.X).bind fun o =>
              some (o.2,a)
            else
              rq a
def ql (fu:Nat) (self:Ln) (c:Eb) (d:va) (a:List (List (List UInt8×Ya))) (b:Ub):Option (Int×List (List (List UInt8×Ya))):=
  if b.Kind=1 then
    ((gg fu).Hh c d a b.X).bind fun e =>
    if e.2≠0 then
      some (e.2,a)
    else
      (xo fu c d a b.Name).bind fun g =>
      if g.2=true then
        some (7,a)
      else
        (i64 ((a.length:Int) - 1)).bind fun i57 =>
        (at_ a i57).bind fun h =>
        rq (a.set i57.toNat (Fc h b.Name e.1))
  else
    if b.Kind=2 then
      (xo fu c d a b.Name).bind fun f =>
      if f.2=true then
        ((gg fu).Tg c d a b.X f.1).bind fun i =>
        some (i,a)
      else
        some (7,a)
    else
      if b.Kind=3 then
        gp fu self b c d a (decide (b.Kind=3))
      else
        gp fu self b c d a (decide (b.Kind=4))
def qk:Nat→Ln
  | 0=>⟨fun _ _ _ _=>none,fun _ _ _ _=>none⟩
  | n+1=>⟨rj (qk n),ql n (qk n)⟩
def hp  (a:Bool):Option Int :=
  if a=true then
    some 9
  else
    some 0
def Dr (a:va):Option Int :=
  if a.Kind=3 then
    (Cm a.fc).bind fun b =>
    if b=true then
      if a.Kind≠4 then
        (Cm a.tb).bind fun c =>
        hp (!c)
      else
        hp false
    else
      hp true
  else
    if a.Kind≠4 then
      (Cm a.tb).bind fun d =>
      hp (!d)
    else
      hp false
def Er (p_1:Eb) (b:va):Nat→Int→(List (List UInt8×Int))→Option Int
  | 0,_,_=>none
  | n+1,i48,c =>
    if i48<(b.Params.length:Int) then
      (at_ b.Params i48).bind fun a =>
      (i64 (((Aa c a.Name).getD 0)+1)).bind fun i92 =>
      if (1:Int)<((Aa (Fc c a.Name i92) a.Name).getD 0) then
        some 7
      else
        (nu p_1 a.tb).bind fun d =>
        if d≠0 then
          some d
        else
          (i64 (i48+1)).bind fun i104 =>
          Er p_1 b n i104 (Fc c a.Name i92)
    else
      Dr b
def Gr (p_1:Eb) (a:va) (b:Bool):Option Int :=
  if b=true then
    Er p_1 a (a.Params.length+1) 0 ([]:List (List UInt8×Int))
  else
    Dr a
def ss  (p_1:Eb) (a:va):Option Int :=
  if a.Kind=2 then
    Gr p_1 a true
  else
    Gr p_1 a (decide (a.Kind=3))
def kp (fu:Nat) (p_1:Eb) (a:va) (b:List (List (List UInt8×Ya))):Option Int :=
  ((qk fu).rj p_1 a b a.Body).bind fun c =>
  some c.1
def Kt (i63:Int) (a:Int→(List (List (List UInt8×Ya)))→Option Int) (b:List (List (List UInt8×Ya))):Option Int :=
  (i64 (i63+1)).bind fun i135 =>
  a i135 b
def ko (fu:Nat) (p_1:Eb) (a:va):Nat→Int→(List (List (List UInt8×Ya)))→Option Int
  | 0,_,_=>none
  | n+1,i63,b =>
    if i63<(a.Params.length:Int) then
      (at_ a.Params i63).bind fun c =>
      (at_ b 0).bind fun d =>
      (An c.tb).bind fun e =>
      Kt i63 (ko fu p_1 a n) (b.set (0:Int).toNat (Fc d c.Name e))
    else
      kp fu p_1 a b
def yo (fu:Nat)  (p_1:Eb) (a:va):Option Int :=
  if a.Kind=1 then
    some 0
  else
    if a.Kind≠4 then
      ko fu p_1 a (a.Params.length+1) 0 [([]:List (List UInt8×Ya))]
    else
      kp fu p_1 a [([]:List (List UInt8×Ya))]
def fo (fu:Nat) (p_1:List va) (a:List (List UInt8×va)):Nat→Int→Option (Eb×fe)
  | 0,_=>none
  | n+1,b =>
    if b<(p_1.length:Int) then
      (at_ p_1 b).bind fun d =>
      (yo fu (Eb.mk p_1 a) d).bind fun c =>
      if c≠0 then
        some ((Eb.mk p_1 a),(fe.mk c b))
      else
        (i64 (b+1)).bind fun e =>
        fo fu p_1 a n e
    else
      some ((Eb.mk p_1 a),(fe.mk 0 0))
def ho (fu:Nat) (p_1:List va) (a:List (List UInt8×va)):Nat→Int→Option (Eb×fe)
  | 0,_=>none
  | n+1,b =>
    if b<(p_1.length:Int) then
      (at_ p_1 b).bind fun d =>
      (ss (Eb.mk p_1 a) d).bind fun c =>
      if c≠0 then
        some ((Eb.mk p_1 a),(fe.mk c b))
      else
        (i64 (b+1)).bind fun e =>
        ho fu p_1 a n e
    else
      fo fu p_1 a (p_1.length+1) 0
def jo (fu:Nat) (p_1:List va):Nat→Int→Int→(List (List UInt8×va))→Option (Eb×fe)
  | 0,_,_,_=>none
  | n+1,i94,i95,a =>
    if i95<(p_1.length:Int) then
      (at_ p_1 i95).bind fun d =>
      if (Aa a d.Name).isSome=true then
        some ((Eb.mk p_1 a),(fe.mk 7 i95))
      else
        (at_ p_1 i95).bind fun b =>
        (at_ p_1 i95).bind fun c =>
        (at_ p_1 i95).bind fun e =>
        if e.Kind=4 then
          (i64 (i94+1)).bind fun i236 =>
          (i64 (i95+1)).bind fun i238 =>
          jo fu p_1 n i236 i238 (Fc a b.Name c)
        else
          (i64 (i95+1)).bind fun i240 =>
          jo fu p_1 n i94 i240 (Fc a b.Name c)
    else
      if i94=0 then
        some ((Eb.mk p_1 a),(fe.mk 6 (p_1.length:Int)))
      else
        ho fu p_1 a (p_1.length+1) 0
def Ap (fu:Nat)  (p_1:List va):Option (Eb×fe):=
  (Ep fu p_1).bind fun a =>
  if a.ve≠0 then
    some ((Eb.mk p_1 ([]:List (List UInt8×va))),a)
  else
    jo fu p_1 (p_1.length+1) 0 0 ([]:List (List UInt8×va))
end Go.Y
namespace Go.Y
open Go.oc Go.sd
structure Io where
  Hl:(List (List UInt8))→(List (List UInt8))→(List (List UInt8))→sb→Option (List (List UInt8)×List (List UInt8)×List (List UInt8))
def Hr (self:Io) (a:sb):Nat→Int→(List (List UInt8))→(List (List UInt8))→(List (List UInt8))→Option (List (List UInt8)×List (List UInt8)×List (List UInt8))
  | 0,_,_,_,_=>none
  | n+1,i96,c,d,e =>
    if i96<(a.Kids.length:Int) then
      (at_ a.Kids i96).bind fun f =>
      (self.Hl c d e f).bind fun b =>
      (i64 (i96+1)).bind fun i162 =>
      Hr self a n i162 b.1 b.2.1 b.2.2
    else
      some (c,d,e)
def sq (self:Io) (a:sb) (b:List (List UInt8)) (c:List (List UInt8)) (d:List (List UInt8)):Option (List (List UInt8)×List (List UInt8)×List (List UInt8)):=
  Hr self a (a.Kids.length+1) 0 c b d
def Lv (self:Io) (a:sb) (b:List (List UInt8)) (c:List (List UInt8)) (d:List (List UInt8)):Option (List (List UInt8)×List (List UInt8)×List (List UInt8)):=
  sq self a b d c
def Mv (self:Io) (a:List (List UInt8)) (b:sb) (c:List (List UInt8)) (d:List (List UInt8)):Option (List (List UInt8)×List (List UInt8)×List (List UInt8)):=
  sq self b c a d
def Ir (self:Io) (b:List (List UInt8)) (a:sb) (c:List (List UInt8)) (d:List (List UInt8)) (e:Bool):Option (List (List UInt8)×List (List UInt8)×List (List UInt8)):=
  if e=true then
    (app b [a.Name]).bind fun f =>
    Lv self a c d f
  else
    if a.Kind=20 then
      (app d [a.Name]).bind fun g =>
      Mv self b a c g
    else
      sq self a c b d
def Hl (self:Io) (b:List (List UInt8)) (c:List (List UInt8)) (d:List (List UInt8)) (a:sb):Option (List (List UInt8)×List (List UInt8)×List (List UInt8)):=
  if a.Kind=19 then
    Ir self b a c d (decide (a.Kind=19))
  else
    Ir self b a c d (decide (a.Kind=22))
def Gp:Nat→Io
  | 0=>⟨fun _ _ _ _=>none⟩
  | n+1=>⟨Hl (Gp n)⟩
structure Mn where
  nk:(List (List UInt8))→(List (List UInt8))→(List (List UInt8))→(List Ub)→Option (List (List UInt8)×List (List UInt8)×List (List UInt8))
def sr (self:Mn) (i130:Int) (b:Ub) (c:Int→(List (List UInt8))→(List (List UInt8))→(List (List UInt8))→Option (List (List UInt8)×List (List UInt8)×List (List UInt8))) (d:List (List UInt8)) (e:List (List UInt8)) (f:List (List UInt8)):Option (List (List UInt8)×List (List UInt8)×List (List UInt8)):=
  if b.Kind=3 then
    (self.nk d e f b.mf).bind fun a =>
    (i64 (i130+1)).bind fun g =>
    c g a.1 a.2.1 a.2.2
  else
    (i64 (i130+1)).bind fun h =>
    c h d e f
def tr (self:Mn) (i130:Int) (a:Ub) (c:List (List UInt8)) (d:List (List UInt8)) (e:List (List UInt8)) (f:Int→(List (List UInt8))→(List (List UInt8))→(List (List UInt8))→Option (List (List UInt8)×List (List UInt8)×List (List UInt8))) (g:Bool):Option (List (List UInt8)×List (List UInt8)×List (List UInt8)):=
  if g=true then
    (self.nk c d e a.Body).bind fun b =>
    sr self i130 a f b.1 b.2.1 b.2.2
  else
    sr self i130 a f c d e
def ur (self:Mn) (i130:Int) (a:Ub) (b:Int→(List (List UInt8))→(List (List UInt8))→(List (List UInt8))→Option (List (List UInt8)×List (List UInt8)×List (List UInt8))) (c:List (List UInt8)) (d:List (List UInt8)) (e:List (List UInt8)):Option (List (List UInt8)×List (List UInt8)×List (List UInt8)):=
  if a.Kind=3 then
    tr self i130 a c d e b true
  else
    tr self i130 a c d e b (decide (a.Kind=4))
def vr (fu:Nat) (self:Mn) (i130:Int) (c:List (List UInt8)) (d:List (List UInt8)) (a:Ub) (e:Int→(List (List UInt8))→(List (List UInt8))→(List (List UInt8))→Option (List (List UInt8)×List (List UInt8)×List (List UInt8))) (f:List (List UInt8)):Option (List (List UInt8)×List (List UInt8)×List (List UInt8)):=
  if a.Kind≠6 then
    ((Gp fu).Hl c f d a.X).bind fun b =>
    ur self i130 a e b.1 b.2.1 b.2.2
  else
    ur self i130 a e c f d
def Cv (fu:Nat) (self:Mn) (i130:Int) (a:List (List UInt8)) (b:List (List UInt8)) (c:Ub) (d:Int→(List (List UInt8))→(List (List UInt8))→(List (List UInt8))→Option (List (List UInt8)×List (List UInt8)×List (List UInt8))) (e:List (List UInt8)):Option (List (List UInt8)×List (List UInt8)×List (List UInt8)):=
  vr fu self i130 a b c d e
def hk (fu:Nat) (self:Mn) (a:List Ub):Nat→Int→(List (List UInt8))→(List (List UInt8))→(List (List UInt8))→Option (List (List UInt8)×List (List UInt8)×List (List UInt8))
  | 0,_,_,_,_=>none
  | n+1,i130,c,d,e =>
    if i130<(a.length:Int) then
      (at_ a i130).bind fun b =>
      if b.Kind=7 then
        (app d [b.Name]).bind fun f =>
        Cv fu self i130 c e b (hk fu self a n) f
      else
        vr fu self i130 c e b (hk fu self a n) d
    else
      some (c,d,e)
def nk (fu:Nat) (self:Mn) (b:List (List UInt8)) (c:List (List UInt8)) (d:List (List UInt8)) (a:List Ub):Option (List (List UInt8)×List (List UInt8)×List (List UInt8)):=
  hk fu self a (a.length+1) 0 b c d
def Jk:Nat→Mn
  | 0=>⟨fun _ _ _ _=>none⟩
  | n+1=>⟨nk n (Jk n)⟩
def oq (p_1:Eb) (a:List (List UInt8)×List (List UInt8)×List (List UInt8)) (d:List (List UInt8)) (e:List (List UInt8)) (f:(List (List UInt8))→(List (Option va))→(List (List UInt8))→(List (List UInt8))→Option Ze):Nat→Int→(List (List UInt8))→(List (Option va))→Option Ze
  | 0,_,_,_=>none
  | n+1,b,c,g =>
    if b<(a.1.length:Int) then
      (at_ a.1 b).bind fun h =>
      if c.contains h=true then
        (i64 (b+1)).bind fun i =>
        oq p_1 a d e f n i c g
      else
        (app c [h]).bind fun j =>
        (app g [(Aa p_1.named h)]).bind fun k =>
        (i64 (b+1)).bind fun l =>
        oq p_1 a d e f n l j k
    else
      f c g d e
def Dv (p_1:Eb) (b:List (List UInt8)) (c:List (Option va)) (a:List (List UInt8)×List (List UInt8)×List (List UInt8)) (d:(List (List UInt8))→(List (Option va))→(List (List UInt8))→(List (List UInt8))→Option Ze) (g:List (List UInt8)) (h:List (List UInt8)) (e:List (List UInt8)) (f:List (List UInt8)):Option Ze :=
  oq p_1 a e f d (a.1.length+1) 0 b c
def Yo (fu:Nat) (p_1:Eb):Nat→(List (List UInt8))→(List (Option va))→(List (List UInt8))→(List (List UInt8))→Option Ze
  | 0,_,_,_,_=>none
  | n+1,e,b,c,d =>
    if (0:Int)<(b.length:Int) then
      (at_ b 0).bind fun f =>
      (cut b 1 b.length).bind fun g =>
      (f).bind fun h =>
      ((Jk fu).nk ([]:List (List UInt8)) ([]:List (List UInt8)) ([]:List (List UInt8)) h.Body).bind fun a =>
      (app c a.2.1).bind fun i =>
      (app d a.2.2).bind fun j =>
      Dv p_1 e g a (Yo fu p_1 n) a.2.1 a.2.2 i j
    else
      some (Ze.mk ([]:List (List UInt8)) c d)
def bw (fu:Nat)  (p_1:Eb) (a:va):Option Ze :=
  Yo fu p_1 fu ([]:List (List UInt8)) ([(some a)]:List (Option va)) [] []
def wv (i88:Int) (a:Int→(List (List UInt8×Ze))→Option (List dh×fe)) (b:List (List UInt8×Ze)):Option (List dh×fe):=
  (i64 (i88+1)).bind fun i223 =>
  a i223 b
def nr (a:Int) (b:List UInt8) (c:Int→(List UInt8)→(List UInt8)→Option (List dh×fe)) (d:List UInt8):Option (List dh×fe):=
  (i64 (a+1)).bind fun e =>
  c e b d
def pr (f:List (List UInt8×Ze)) (g:Int) (h:va) (a:Int) (b:List UInt8) (c:va) (d:Int→(List UInt8)→(List UInt8)→Option (List dh×fe)) (e:List UInt8):Option (List dh×fe):=
  if (((Aa f c.Name).getD (Ze.mk ([]:List (List UInt8)) ([]:List (List UInt8)) ([]:List (List UInt8)))).Wi).contains h.Name=true then
    if b≠[] then
      some (([]:List dh),(fe.mk 8 g))
    else
      nr a e d c.Name
  else
    nr a e d b
def wm (p_1:List va) (c:List (List UInt8×Ze)) (a:Int) (f:List dh) (b:va) (g:Int→(List dh)→Option (List dh×fe)):Nat→Int→(List UInt8)→(List UInt8)→Option (List dh×fe)
  | 0,_,_,_=>none
  | n+1,d,h,i =>
    if d<(p_1.length:Int) then
      (at_ p_1 d).bind fun e =>
      if e.Kind≠4 then
        (i64 (d+1)).bind fun j =>
        wm p_1 c a f b g n j h i
      else
        if (((Aa c e.Name).getD (Ze.mk ([]:List (List UInt8)) ([]:List (List UInt8)) ([]:List (List UInt8)))).wj).contains b.Name=true then
          if h≠[] then
            some (([]:List dh),(fe.mk 8 a))
          else
            pr c a b d i e (wm p_1 c a f b g n) e.Name
        else
          pr c a b d i e (wm p_1 c a f b g n) h
    else
      (app f [(dh.mk b.Name h i)]).bind fun k =>
      (i64 (a+1)).bind fun l =>
      g l k
def nn (p_1:List va) (b:List (List UInt8×Ze)):Nat→Int→(List dh)→Option (List dh×fe)
  | 0,_,_=>none
  | n+1,a,c =>
    if a<(p_1.length:Int) then
      (at_ p_1 a).bind fun d =>
      if d.Kind≠1 then
        (i64 (a+1)).bind fun e =>
        nn p_1 b n e c
      else
        wm p_1 b a c d (nn p_1 b n) (p_1.length+1) 0 [] []
    else
      some (c,(fe.mk 0 0))
def Wo (fu:Nat) (p_1:List va) (a:Eb×fe):Nat→Int→(List (List UInt8×Ze))→Option (List dh×fe)
  | 0,_,_=>none
  | n+1,i88,b =>
    if i88<(p_1.length:Int) then
      (at_ p_1 i88).bind fun c =>
      if c.Kind=4 then
        (at_ p_1 i88).bind fun d =>
        (at_ p_1 i88).bind fun e =>
        (bw fu a.1 e).bind fun f =>
        wv i88 (Wo fu p_1 a n) (Fc b d.Name f)
      else
        (i64 (i88+1)).bind fun i225 =>
        Wo fu p_1 a n i225 b
    else
      nn p_1 b (p_1.length+1) 0 []
def Nr (fu:Nat)  (p_1:List va):Option (List dh×fe):=
  (Ap fu p_1).bind fun a =>
  if a.2.ve≠0 then
    some (([]:List dh),a.2)
  else
    Wo fu p_1 a (p_1.length+1) 0 ([]:List (List UInt8×Ze))
def Tt (fu:Nat)  (p_1:List va):Option fe :=
  (Nr fu p_1).bind fun a =>
  some a.2
end Go.Y
namespace Go.Y
open Go.oc Go.sd
def En  (p_1:Fe) (a:Ya):Option Int :=
  if a.Kind=3 then
    (i64 (10+((Aa p_1.Pg a.yc).getD 0))).bind fun i19 =>
    some i19
  else
    some a.Kind
def sw  (c:List (List UInt8×Int)) (b:List (List UInt8×Int)) (d:List (List UInt8×va)) (a:Ya):Option Int :=
  if a.Kind=3 then
    (i64 (10+((Aa b a.yc).getD 0))).bind fun i22 =>
    some i22
  else
    some a.Kind
def Xg  (k:Fe) (b:Int) (c:Int) (d:List Int) (e:Int) (f:Int) (g:List fb) (h:List (List (List UInt8×Int))) (i:Int) (p_3:Int) (j:Int):Option (Int×Int×Int×List Int×Int×Int×List fb×List (List (List UInt8×Int))):=
  (app g [(fb.mk i p_3 j)]).bind fun a =>
  (i64 ((a.length:Int) - 1)).bind fun i44 =>
  some (i44,b,c,d,e,f,a,h)
def Bn  (b:Fe) (c:Int) (d:Int) (e:List Int) (f:Int) (g:Int) (a:List fb) (h:List (List (List UInt8×Int))):Option Int :=
  some (a.length:Int)
def ts  (k:Fe) (c:Int) (d:Int) (e:List Int) (f:Int) (g:Int) (h:List fb) (a:List (List (List UInt8×Int))) (i:List UInt8) (p_3:Int):Option (Int×Int×Int×List Int×Int×Int×List fb×List (List (List UInt8×Int))):=
  (app e [p_3]).bind fun b =>
  (i64 ((b.length:Int) - 1)).bind fun i44 =>
  (i64 ((a.length:Int) - 1)).bind fun i46 =>
  (at_ a i46).bind fun j =>
  some (i44,c,d,b,f,g,h,(a.set i46.toNat (Fc j i i44)))
def Pr (a:List UInt8) (b:List (List (List UInt8×Int))):Nat→Int→Option Int
  | 0,_=>none
  | n+1,i45 =>
    if (0:Int)≤i45 then
      (at_ b i45).bind fun c =>
      if (Aa c a).isSome=true then
        some ((Aa c a).getD 0)
      else
        (i64 (i45 - 1)).bind fun i77 =>
        Pr a b n i77
    else
      some 0
def Js (fu:Nat)  (c:Fe) (d:Int) (e:Int) (f:List Int) (g:Int) (h:Int) (i:List fb) (a:List (List (List UInt8×Int))) (b:List UInt8):Option Int :=
  (i64 ((a.length:Int) - 1)).bind fun i28 =>
  Pr b a fu i28
structure av where
  gj:Fe→Int→Int→(List Int)→Int→Int→(List fb)→(List (List (List UInt8×Int)))→sb→Option (Int×Int×Int×List Int×Int×Int×List fb×List (List (List UInt8×Int)))
def Kx (a:Int×Int×Int×List Int×Int×Int×List fb×List (List (List UInt8×Int))) (b:Int):Option (Int×Int×Int×List Int×Int×Int×List fb×List (List (List UInt8×Int))):=
  some (b,a.2.1,a.2.2.1,a.2.2.2.1,a.2.2.2.2.1,a.2.2.2.2.2.1,a.2.2.2.2.2.2.1,a.2.2.2.2.2.2.2)
def Lx (a:Int×Int×Int×List Int×Int×Int×List fb×List (List (List UInt8×Int))) (b:Int):Option (Int×Int×Int×List Int×Int×Int×List fb×List (List (List UInt8×Int))):=
  some (b,a.2.1,a.2.2.1,a.2.2.2.1,a.2.2.2.2.1,a.2.2.2.2.2.1,a.2.2.2.2.2.2.1,a.2.2.2.2.2.2.2)
def Mx (a:Int×Int×Int×List Int×Int×Int×List fb×List (List (List UInt8×Int))) (b:Int):Option (Int×Int×Int×List Int×Int×Int×List fb×List (List (List UInt8×Int))):=
  some (b,a.2.1,a.2.2.1,a.2.2.2.1,a.2.2.2.2.1,a.2.2.2.2.2.1,a.2.2.2.2.2.2.1,a.2.2.2.2.2.2.2)
def Ik (c:sb) (a:Fe) (i77:Int) (i78:Int) (i79:Int) (i80:Int) (f:List Int) (g:List fb) (h:List (List (List UInt8×Int))) (l:List Int) (m:Bool):Option (Int×Int×Int×List Int×Int×Int×List fb×List (List (List UInt8×Int))):=
  if m=true then
    (i64 (8+c.Kind)).bind fun i253 =>
    (i64 (i253 - 6)).bind fun i255 =>
    (Xg a i77 i78 f i79 i80 g h i255 0 0).bind fun b =>
    if c.Kind≤10 then
      some (1,b.2.1,b.2.2.1,b.2.2.2.1,b.2.2.2.2.1,b.2.2.2.2.2.1,b.2.2.2.2.2.2.1,b.2.2.2.2.2.2.2)
    else
      some (2,b.2.1,b.2.2.1,b.2.2.2.1,b.2.2.2.2.1,b.2.2.2.2.2.1,b.2.2.2.2.2.2.1,b.2.2.2.2.2.2.2)
  else
    if c.Kind=19 then
      (Xg a i77 i78 f i79 i80 g h 23 ((Aa a.Pg c.Name).getD 0) 0).bind fun n =>
      ((Aa a.defs c.Name)).bind fun o =>
      (En a o.tb).bind fun p =>
      Kx n p
    else
      if c.Kind=20 then
        (Xg a i77 i78 f i79 i80 g h 27 ((Aa a.boxes c.Name).getD 0) 0).bind fun q =>
        ((Aa a.defs c.Name)).bind fun r =>
        (En a r.tb).bind fun s =>
        Lx q s
      else
        if c.Kind=22 then
          (Xg a i77 i78 f i79 i80 g h 29 ((Aa a.Pg c.Name).getD 0) 0).bind fun i =>
          (i64 (10+((Aa a.Pg c.Name).getD 0))).bind fun t =>
          some (t,i.2.1,i.2.2.1,i.2.2.2.1,i.2.2.2.2.1,i.2.2.2.2.2.1,i.2.2.2.2.2.2.1,i.2.2.2.2.2.2.2)
        else
          if c.Kind=21 then
            (Xg a i77 i78 f i79 i80 g h 31 0 0).bind fun d =>
            some (d.2.2.2.2.2.1,d.2.1,d.2.2.1,d.2.2.2.1,d.2.2.2.2.1,d.2.2.2.2.2.1,d.2.2.2.2.2.2.1,d.2.2.2.2.2.2.2)
          else
            if c.Kind=24 then
              (Xg a i77 i78 f i79 i80 g h 32 0 0).bind fun j =>
              some (2,j.2.1,j.2.2.1,j.2.2.2.1,j.2.2.2.2.1,j.2.2.2.2.2.1,j.2.2.2.2.2.2.1,j.2.2.2.2.2.2.2)
            else
              (Xg a i77 i78 f i79 i80 g h 30 0 0).bind fun e =>
              (at_ l 0).bind fun u =>
              (i64 (u - 10)).bind fun v =>
              (Km a.Pg v).bind fun k =>
              if k.isSome=true then
                ((Aa a.defs ((k.getD ([],0)).1))).bind fun w =>
                (En a w.tb).bind fun x =>
                Mx e x
              else
                some (0,e.2.1,e.2.2.1,e.2.2.2.1,e.2.2.2.2.1,e.2.2.2.2.2.1,e.2.2.2.2.2.2.1,e.2.2.2.2.2.2.2)
def lk (fu:Nat) (self:av) (a:sb) (b:Fe):Nat→Int→Int→Int→Int→Int→(List Int)→(List fb)→(List (List (List UInt8×Int)))→(List Int)→Option (Int×Int×Int×List Int×Int×Int×List fb×List (List (List UInt8×Int)))
  | 0,_,_,_,_,_,_,_,_,_=>none
  | n+1,i76,i77,i78,i79,i80,c,d,e,l =>
    if i76<(a.Kids.length:Int) then
      (at_ a.Kids i76).bind fun o =>
      (self.gj b i77 i78 c i79 i80 d e o).bind fun f =>
      (app l [f.1]).bind fun p =>
      (i64 (i76+1)).bind fun i165 =>
      lk fu self a b n i165 f.2.1 f.2.2.1 f.2.2.2.2.1 f.2.2.2.2.2.1 f.2.2.2.1 f.2.2.2.2.2.2.1 f.2.2.2.2.2.2.2 p
    else
      if a.Kind=1 then
        (Xg b i77 i78 c i79 i80 d e 1 0 a.N).bind fun h =>
        some (1,h.2.1,h.2.2.1,h.2.2.2.1,h.2.2.2.2.1,h.2.2.2.2.2.1,h.2.2.2.2.2.2.1,h.2.2.2.2.2.2.2)
      else
        if a.Kind=2 then
          (Xg b i77 i78 c i79 i80 d e 2 a.N 0).bind fun i =>
          some (2,i.2.1,i.2.2.1,i.2.2.2.1,i.2.2.2.2.1,i.2.2.2.2.2.1,i.2.2.2.2.2.2.1,i.2.2.2.2.2.2.2)
        else
          if a.Kind=3 then
            (Js fu b i77 i78 c i79 i80 d e a.Name).bind fun m =>
            (Xg b i77 i78 c i79 i80 d e 3 m 0).bind fun g =>
            (at_ g.2.2.2.1 m).bind fun q =>
            some (q,g.2.1,g.2.2.1,g.2.2.2.1,g.2.2.2.2.1,g.2.2.2.2.2.1,g.2.2.2.2.2.2.1,g.2.2.2.2.2.2.2)
          else
            if a.Kind=4 then
              (Xg b i77 i78 c i79 i80 d e 6 0 0).bind fun j =>
              some (1,j.2.1,j.2.2.1,j.2.2.2.1,j.2.2.2.2.1,j.2.2.2.2.2.1,j.2.2.2.2.2.2.1,j.2.2.2.2.2.2.2)
            else
              if a.Kind=5 then
                (Xg b i77 i78 c i79 i80 d e 7 0 0).bind fun k =>
                some (2,k.2.1,k.2.2.1,k.2.2.2.1,k.2.2.2.2.1,k.2.2.2.2.2.1,k.2.2.2.2.2.2.1,k.2.2.2.2.2.2.2)
              else
                if (6:Int)≤a.Kind then
                  Ik a b i77 i78 i79 i80 c d e l (decide (a.Kind≤18))
                else
                  Ik a b i77 i78 i79 i80 c d e l false
def gj (fu:Nat) (self:av) (b:Fe) (c:Int) (d:Int) (e:List Int) (f:Int) (g:Int) (h:List fb) (i:List (List (List UInt8×Int))) (a:sb):Option (Int×Int×Int×List Int×Int×Int×List fb×List (List (List UInt8×Int))):=
  lk fu self a b (a.Kids.length+1) 0 c d f g e h i []
def sl:Nat→av
  | 0=>⟨fun _ _ _ _ _ _ _ _ _=>none⟩
  | n+1=>⟨gj n (sl n)⟩
structure dq where
  Nj:Fe→Int→Int→(List Int)→Int→Int→(List fb)→(List (List (List UInt8×Int)))→(List Ub)→Option (Int×Int×List Int×Int×Int×List fb×List (List (List UInt8×Int)))
  Em:Fe→Int→Int→(List Int)→Int→Int→(List fb)→(List (List (List UInt8×Int)))→Ub→Option (Int×Int×List Int×Int×Int×List fb×List (List (List UInt8×Int)))
def Qr (self:dq) (b:List Ub) (d:Fe):Nat→Int→Int→Int→Int→Int→(List Int)→(List fb)→(List (List (List UInt8×Int)))→Option (Int×Int×List Int×Int×Int×List fb×List (List (List UInt8×Int)))
  | 0,_,_,_,_,_,_,_,_=>none
  | n+1,i81,i82,i83,i84,i85,e,f,c =>
    if i81<(b.length:Int) then
      (at_ b i81).bind fun g =>
      (self.Em d i82 i83 e i84 i85 f c g).bind fun a =>
      (i64 (i81+1)).bind fun i163 =>
      Qr self b d n i163 a.1 a.2.1 a.2.2.2.1 a.2.2.2.2.1 a.2.2.1 a.2.2.2.2.2.1 a.2.2.2.2.2.2
    else
      (i64 ((c.length:Int) - 1)).bind fun i165 =>
      (cut c 0 i165).bind fun h =>
      some (i82,i83,e,i84,i85,f,h)
def Nj (self:dq) (b:Fe) (c:Int) (d:Int) (e:List Int) (f:Int) (g:Int) (h:List fb) (i:List (List (List UInt8×Int))) (a:List Ub):Option (Int×Int×List Int×Int×Int×List fb×List (List (List UInt8×Int))):=
  (app i [[]]).bind fun j =>
  Qr self a b (a.length+1) 0 c d f g e h j
def Rv (a:Int×Int×List Int×Int×Int×List fb×List (List (List UInt8×Int))) (b:List fb):Option (Int×Int×List Int×Int×Int×List fb×List (List (List UInt8×Int))):=
  some (a.1,a.2.1,a.2.2.1,a.2.2.2.1,a.2.2.2.2.1,b,a.2.2.2.2.2.2)
def Sv (self:dq) (e:Ub) (c:Fe) (b:Int×Int×Int×List Int×Int×Int×List fb×List (List (List UInt8×Int))) (f:List fb):Option (Int×Int×List Int×Int×Int×List fb×List (List (List UInt8×Int))):=
  (self.Nj c b.2.1 b.2.2.1 b.2.2.2.1 b.2.2.2.2.1 b.2.2.2.2.2.1 f b.2.2.2.2.2.2.2 e.mf).bind fun a =>
  (Bn c a.1 a.2.1 a.2.2.1 a.2.2.2.1 a.2.2.2.2.1 a.2.2.2.2.2.1 a.2.2.2.2.2.2).bind fun g =>
  (at_ a.2.2.2.2.2.1 b.1).bind fun d =>
  Rv a (a.2.2.2.2.2.1.set b.1.toNat (fb.mk d.Op g d.N))
def Tv (a:Int×Int×Int×List Int×Int×Int×List fb×List (List (List UInt8×Int))) (b:List fb):Option (Int×Int×List Int×Int×Int×List fb×List (List (List UInt8×Int))):=
  some (a.2.1,a.2.2.1,a.2.2.2.1,a.2.2.2.2.1,a.2.2.2.2.2.1,b,a.2.2.2.2.2.2.2)
def Em (fu:Nat) (self:dq) (b:Fe) (t:Int) (u:Int) (v:List Int) (w:Int) (x:Int) (y:List fb) (z:List (List (List UInt8×Int))) (c:Ub):Option (Int×Int×List Int×Int×Int×List fb×List (List (List UInt8×Int))):=
  if c.Kind=3 then
    ((sl fu).gj b t u v w x y z c.X).bind fun i =>
    (Xg b i.2.1 i.2.2.1 i.2.2.2.1 i.2.2.2.2.1 i.2.2.2.2.2.1 i.2.2.2.2.2.2.1 i.2.2.2.2.2.2.2 22 0 0).bind fun f =>
    (self.Nj b f.2.1 f.2.2.1 f.2.2.2.1 f.2.2.2.2.1 f.2.2.2.2.2.1 f.2.2.2.2.2.2.1 f.2.2.2.2.2.2.2 c.Body).bind fun j =>
    (Xg b j.1 j.2.1 j.2.2.1 j.2.2.2.1 j.2.2.2.2.1 j.2.2.2.2.2.1 j.2.2.2.2.2.2 21 0 0).bind fun d =>
    (Bn b d.2.1 d.2.2.1 d.2.2.2.1 d.2.2.2.2.1 d.2.2.2.2.2.1 d.2.2.2.2.2.2.1 d.2.2.2.2.2.2.2).bind fun C =>
    (at_ d.2.2.2.2.2.2.1 f.1).bind fun A =>
    Sv self c b d (d.2.2.2.2.2.2.1.set f.1.toNat (fb.mk A.Op C A.N))
  else
    if c.Kind=4 then
      (Bn b t u v w x y z).bind fun D =>
      ((sl fu).gj b t u v w x y z c.X).bind fun k =>
      (Xg b k.2.1 k.2.2.1 k.2.2.2.1 k.2.2.2.2.1 k.2.2.2.2.2.1 k.2.2.2.2.2.2.1 k.2.2.2.2.2.2.2 22 0 0).bind fun g =>
      (self.Nj b g.2.1 g.2.2.1 g.2.2.2.1 g.2.2.2.2.1 g.2.2.2.2.2.1 g.2.2.2.2.2.2.1 g.2.2.2.2.2.2.2 c.Body).bind fun l =>
      (Xg b l.1 l.2.1 l.2.2.1 l.2.2.2.1 l.2.2.2.2.1 l.2.2.2.2.2.1 l.2.2.2.2.2.2 21 D 0).bind fun e =>
      (Bn b e.2.1 e.2.2.1 e.2.2.2.1 e.2.2.2.2.1 e.2.2.2.2.2.1 e.2.2.2.2.2.2.1 e.2.2.2.2.2.2.2).bind fun E =>
      (at_ e.2.2.2.2.2.2.1 g.1).bind fun B =>
      Tv e (e.2.2.2.2.2.2.1.set g.1.toNat (fb.mk B.Op E B.N))
    else
      if c.Kind=6 then
        (Xg b t u v w x y z 25 0 0).bind fun m =>
        some (m.2.1,m.2.2.1,m.2.2.2.1,m.2.2.2.2.1,m.2.2.2.2.2.1,m.2.2.2.2.2.2.1,m.2.2.2.2.2.2.2)
      else
        ((sl fu).gj b t u v w x y z c.X).bind fun a =>
        if c.Kind=1 then
          (ts b a.2.1 a.2.2.1 a.2.2.2.1 a.2.2.2.2.1 a.2.2.2.2.2.1 a.2.2.2.2.2.2.1 a.2.2.2.2.2.2.2 c.Name a.1).bind fun h =>
          (Xg b h.2.1 h.2.2.1 h.2.2.2.1 h.2.2.2.2.1 h.2.2.2.2.2.1 h.2.2.2.2.2.2.1 h.2.2.2.2.2.2.2 4 h.1 0).bind fun n =>
          some (n.2.1,n.2.2.1,n.2.2.2.1,n.2.2.2.2.1,n.2.2.2.2.2.1,n.2.2.2.2.2.2.1,n.2.2.2.2.2.2.2)
        else
          if c.Kind=2 then
            (Js fu b a.2.1 a.2.2.1 a.2.2.2.1 a.2.2.2.2.1 a.2.2.2.2.2.1 a.2.2.2.2.2.2.1 a.2.2.2.2.2.2.2 c.Name).bind fun F =>
            (Xg b a.2.1 a.2.2.1 a.2.2.2.1 a.2.2.2.2.1 a.2.2.2.2.2.1 a.2.2.2.2.2.2.1 a.2.2.2.2.2.2.2 4 F 0).bind fun o =>
            some (o.2.1,o.2.2.1,o.2.2.2.1,o.2.2.2.2.1,o.2.2.2.2.2.1,o.2.2.2.2.2.2.1,o.2.2.2.2.2.2.2)
          else
            if c.Kind=5 then
              (Xg b a.2.1 a.2.2.1 a.2.2.2.1 a.2.2.2.2.1 a.2.2.2.2.2.1 a.2.2.2.2.2.2.1 a.2.2.2.2.2.2.2 24 0 0).bind fun p =>
              some (p.2.1,p.2.2.1,p.2.2.2.1,p.2.2.2.2.1,p.2.2.2.2.2.1,p.2.2.2.2.2.2.1,p.2.2.2.2.2.2.2)
            else
              if c.Kind=7 then
                (Xg b a.2.1 a.2.2.1 a.2.2.2.1 a.2.2.2.2.1 a.2.2.2.2.2.1 a.2.2.2.2.2.2.1 a.2.2.2.2.2.2.2 26 ((Aa b.boxes c.Name).getD 0) 0).bind fun q =>
                some (q.2.1,q.2.2.1,q.2.2.2.1,q.2.2.2.2.1,q.2.2.2.2.2.1,q.2.2.2.2.2.2.1,q.2.2.2.2.2.2.2)
              else
                if c.Kind=8 then
                  (Xg b a.2.1 a.2.2.1 a.2.2.2.1 a.2.2.2.2.1 a.2.2.2.2.2.1 a.2.2.2.2.2.2.1 a.2.2.2.2.2.2.2 28 0 0).bind fun r =>
                  some (r.2.1,r.2.2.1,r.2.2.2.1,r.2.2.2.2.1,r.2.2.2.2.2.1,r.2.2.2.2.2.2.1,r.2.2.2.2.2.2.2)
                else
                  if c.Kind=9 then
                    (Xg b a.2.1 a.2.2.1 a.2.2.2.1 a.2.2.2.2.1 a.2.2.2.2.2.1 a.2.2.2.2.2.2.1 a.2.2.2.2.2.2.2 5 0 0).bind fun s =>
                    some (s.2.1,s.2.2.1,s.2.2.2.1,s.2.2.2.2.1,s.2.2.2.2.2.1,s.2.2.2.2.2.2.1,s.2.2.2.2.2.2.2)
                  else
                    some (a.2.1,a.2.2.1,a.2.2.2.1,a.2.2.2.2.1,a.2.2.2.2.2.1,a.2.2.2.2.2.2.1,a.2.2.2.2.2.2.2)
def zo:Nat→dq
  | 0=>⟨fun _ _ _ _ _ _ _ _ _=>none,fun _ _ _ _ _ _ _ _ _=>none⟩
  | n+1=>⟨Nj (zo n),Em n (zo n)⟩
def Rr (p_1:Fe) (b:List (List (List UInt8×Int))) (i232:Int) (i233:Int) (i234:Int) (i235:Int) (c:List Int) (d:List fb):Option uc :=
  (Xg p_1 i232 i233 c i234 i235 d b 24 0 0).bind fun a =>
  some (uc.mk a.2.1 a.2.2.1 a.2.2.2.1 a.2.2.2.2.1 a.2.2.2.2.2.1 a.2.2.2.2.2.2.1)
def Sr (fu:Nat) (p_1:Fe) (e:va) (f:List (List (List UInt8×Int))) (i40:Int) (i41:Int) (i42:Int) (g:List Int) (h:List fb) (i187:Int):Option uc :=
  ((zo fu).Nj p_1 i40 i41 g i42 i187 h f e.Body).bind fun a =>
  if e.Kind≠2 then
    (Xg p_1 a.1 a.2.1 a.2.2.1 a.2.2.2.1 a.2.2.2.2.1 a.2.2.2.2.2.1 a.2.2.2.2.2.2 25 0 0).bind fun d =>
    some (uc.mk d.2.1 d.2.2.1 d.2.2.2.1 d.2.2.2.2.1 d.2.2.2.2.2.1 d.2.2.2.2.2.2.1)
  else
    if a.2.2.2.1=2 then
      (Xg p_1 a.1 a.2.1 a.2.2.1 a.2.2.2.1 a.2.2.2.2.1 a.2.2.2.2.2.1 a.2.2.2.2.2.2 2 0 0).bind fun b =>
      Rr p_1 b.2.2.2.2.2.2.2 b.2.1 b.2.2.1 b.2.2.2.2.1 b.2.2.2.2.2.1 b.2.2.2.1 b.2.2.2.2.2.2.1
    else
      (Xg p_1 a.1 a.2.1 a.2.2.1 a.2.2.2.1 a.2.2.2.2.1 a.2.2.2.2.2.1 a.2.2.2.2.2.2 1 0 0).bind fun c =>
      Rr p_1 c.2.2.2.2.2.2.2 c.2.1 c.2.2.1 c.2.2.2.2.1 c.2.2.2.2.2.1 c.2.2.2.1 c.2.2.2.2.2.2.1
def Tr (fu:Nat) (p_1:Fe) (a:va) (b:List (List (List UInt8×Int))) (i40:Int) (i41:Int) (i42:Int) (i43:Int) (c:List Int) (d:List fb):Option uc :=
  if a.Kind=3 then
    (En p_1 a.fc).bind fun e =>
    Sr fu p_1 a b i40 i41 i42 c d e
  else
    Sr fu p_1 a b i40 i41 i42 c d i43
def Uv (i87:Int) (a:Int→(List (List (List UInt8×Int)))→Int→Int→Int→Int→(List Int)→(List fb)→Option uc) (b:List (List (List UInt8×Int))) (i150:Int) (i151:Int) (i152:Int) (i153:Int) (c:List Int) (d:List fb):Option uc :=
  (i64 (i87+1)).bind fun i181 =>
  a i181 b i150 i151 i152 i153 c d
def tq (fu:Nat) (p_1:Fe) (b:va):Nat→Int→(List (List (List UInt8×Int)))→Int→Int→Int→Int→(List Int)→(List fb)→Option uc
  | 0,_,_,_,_,_,_,_,_=>none
  | n+1,i87,c,i92,i93,i94,i95,d,e =>
    if i87<(b.Params.length:Int) then
      (at_ b.Params i87).bind fun f =>
      (En p_1 f.tb).bind fun g =>
      (ts p_1 i92 i93 d i94 i95 e c f.Name g).bind fun a =>
      Uv i87 (tq fu p_1 b n) a.2.2.2.2.2.2.2 a.2.1 a.2.2.1 a.2.2.2.2.1 a.2.2.2.2.2.1 a.2.2.2.1 a.2.2.2.2.2.2.1
    else
      Tr fu p_1 b c i92 i93 i94 i95 d e
def Vv (fu:Nat) (p_1:Fe) (a:va) (i53:Int):Option uc :=
  tq fu p_1 a (a.Params.length+1) 0 [([]:List (List UInt8×Int))] a.Kind (a.Params.length:Int) i53 0 [] []
def Ks (fu:Nat)  (p_1:Fe) (a:va):Option uc :=
  if a.Kind≠4 then
    (En p_1 a.tb).bind fun b =>
    Vv fu p_1 a b
  else
    Tr fu p_1 a [([]:List (List UInt8×Int))] a.Kind 0 0 0 [] []
def Ct (a:fe):Option (Pc×fe):=
  some ((Pc.mk ([]:List Bi) ([]:List uc)),a)
def xv (i163:Int) (a:List (List UInt8×Int)) (b:List (List UInt8×va)) (c:va) (d:va) (e:List (List UInt8×Int)) (f:Int→(List (List UInt8×Int))→(List (List UInt8×Int))→(List (List UInt8×va))→(List Bi)→Option (Pc×fe)) (g:List Bi):Option (Pc×fe):=
  (i64 (i163+1)).bind fun h =>
  f h e a (Fc b c.Name d) g
def yv (p_1:List va) (i163:Int) (a:List (List UInt8×Int)) (b:List (List UInt8×va)) (f:List Bi) (c:va) (d:va) (g:Int→(List (List UInt8×Int))→(List (List UInt8×Int))→(List (List UInt8×va))→(List Bi)→Option (Pc×fe)) (e:List (List UInt8×Int)):Option (Pc×fe):=
  (at_ p_1 i163).bind fun h =>
  (at_ p_1 i163).bind fun i =>
  (sw e a (Fc b c.Name d) h.tb).bind fun j =>
  (app f [(Bi.mk j i.Ue)]).bind fun k =>
  xv i163 a b c d e g k
def zv (i163:Int) (a:List (List UInt8×Int)) (b:List (List UInt8×va)) (c:List Bi) (d:va) (e:va) (f:Int→(List (List UInt8×Int))→(List (List UInt8×Int))→(List (List UInt8×va))→(List Bi)→Option (Pc×fe)) (g:List (List UInt8×Int)):Option (Pc×fe):=
  (i64 (i163+1)).bind fun h =>
  f h a g (Fc b d.Name e) c
def rr (a:Int) (b:List uc) (c:uc) (d:Int→(List uc)→Option (Pc×fe)) (e:Bool):Option (Pc×fe):=
  if e=true then
    some ((Pc.mk ([]:List Bi) ([]:List uc)),(fe.mk 5 a))
  else
    (app b [c]).bind fun f =>
    (i64 (a+1)).bind fun g =>
    d g f
def pn (fu:Nat) (p_1:List va) (b:List (List UInt8×Int)) (c:List (List UInt8×Int)) (d:List (List UInt8×va)) (e:List Bi):Nat→Int→(List uc)→Option (Pc×fe)
  | 0,_,_=>none
  | n+1,a,f =>
    if a<(p_1.length:Int) then
      (at_ p_1 a).bind fun h =>
      if h.Kind=1 then
        (i64 (a+1)).bind fun i =>
        pn fu p_1 b c d e n i f
      else
        (at_ p_1 a).bind fun j =>
        (Ks fu (Fe.mk b c d) j).bind fun g =>
        if (200:Int)<(g.Wb.length:Int) then
          rr a f g (pn fu p_1 b c d e n) true
        else
          rr a f g (pn fu p_1 b c d e n) (decide ((4000:Int)<(g.Code.length:Int)))
    else
      some ((Pc.mk e f),(fe.mk 0 0))
def qn (fu:Nat) (p_1:List va):Nat→Int→(List (List UInt8×Int))→(List (List UInt8×Int))→(List (List UInt8×va))→(List Bi)→Option (Pc×fe)
  | 0,_,_,_,_,_=>none
  | n+1,i163,a,b,c,d =>
    if i163<(p_1.length:Int) then
      (at_ p_1 i163).bind fun e =>
      (at_ p_1 i163).bind fun f =>
      (at_ p_1 i163).bind fun g =>
      if g.Kind=1 then
        (at_ p_1 i163).bind fun h =>
        yv p_1 i163 b c d e f (qn fu p_1 n) (Fc a h.Name (a.length:Int))
      else
        (at_ p_1 i163).bind fun i =>
        zv i163 a c d e f (qn fu p_1 n) (Fc b i.Name (b.length:Int))
    else
      pn fu p_1 a b c d (p_1.length+1) 0 []
def uq (fu:Nat)  (p_1:List va):Option (Pc×fe):=
  (Tt fu p_1).bind fun a =>
  if a.ve≠0 then
    Ct a
  else
    qn fu p_1 (p_1.length+1) 0 ([]:List (List UInt8×Int)) ([]:List (List UInt8×Int)) ([]:List (List UInt8×va)) []
end Go.Y
namespace Go.Y
open Go.oc Go.sd
structure cv where
  stack:List Int
  Ab:Value
instance:hh cv where
  Ni μ v x:=∃ a c,v=.agg ⟨[.slice a x.stack.length c,x.Ab]⟩∧Ra μ a c x.stack
  up l h:=by obtain ⟨a,c,b,d⟩:=h;exact ⟨a,c,b,d.up l⟩
abbrev Ak:=List (Value×List Bool)
def fj:Ak→List (Int×vd)→List (Int×cv)
  | b::Dd,e::m=>(e.1,⟨e.2.stack,b.1⟩)::fj Dd m
  | _,_=>[]
structure Wh (μ:M) (es:List MapEntry) (c:Nat) (Dd:Ak) (m:List (Int×vd)):Prop where
  xt:xe μ es c (fj Dd m)
  has:Dd.map (·.2)=m.map (·.2.has)
theorem Wh.up {μ la:M}{es:List MapEntry}{c:Nat}{Dd:Ak}{m:List (Int×vd)}(h:Wh μ es c Dd m) (l:ea μ la):Wh la es c Dd m:=⟨h.xt.up l,h.has⟩
theorem Wh.nil {μ:M}{c:Nat}:Wh μ [] c [] []:=⟨xe.nil,rfl⟩
def re (T:TypeId) (Dd:Ak):List dc:=Dd.map fun b=>.row b.1 T 1 b.2.length (b.2.map .bool)
theorem Xy:∀ (Dd:Ak) (m:List (Int×vd)) (k:Int) (x:vd),Dd.map (·.2)=m.map (·.2.has)→Aa m k=some x→∃ V v Ed,Dd=V++(v,x.has)::Ed∧Aa (fj Dd m) k=some ⟨x.stack,v⟩∧∀ c,fj (V++(v,c)::Ed) (Fc m k ⟨x.stack,c⟩)=fj Dd m∧(V++(v,c)::Ed).map (·.2)=(Fc m k ⟨x.stack,c⟩).map (·.2.has)
  | Dd,[],k,x,h,g=>by simp [Aa] at g
  | [],e::m,k,x,h,g=>by simp at h
  | b::Dd,(a,y)::m,k,x,h,g=>by
    simp only [List.map_cons,List.cons.injEq] at h;obtain ⟨d,f⟩:=h;by_cases e:a=k
    · subst e;rw [Aa,if_pos rfl] at g;obtain rfl:=Option.some.inj g;refine ⟨[],b.1,Dd,by rw [← d];rfl,by rw [fj,Aa,if_pos rfl],fun c=>?_⟩;rw [Fc,if_pos rfl];exact ⟨rfl,by simp [f]⟩
    · rw [Aa,if_neg e] at g;obtain ⟨V,v,Ed,na,i,j⟩:=Xy Dd m k x f g;refine ⟨b::V,v,Ed,by rw [na];rfl,by rw [fj,Aa,if_neg e,i],fun c=>?_⟩;obtain ⟨l,n⟩:=j c;rw [Fc,if_neg e];refine ⟨?_,?_⟩
      · show fj (b::(V++(v,c)::Ed)) _=_;rw [fj,fj,l]
      · show (b::(V++(v,c)::Ed)).map (·.2)=_;rw [List.map_cons,n,List.map_cons,d]
theorem cD:∀ (Dd:Ak) (m:List (Int×vd)) (k:Int),Aa m k=none→Aa (fj Dd m) k=none
  | Dd,[],k,g=>by cases Dd <;> rfl
  | [],e::m,k,g=>rfl
  | b::Dd,(a,y)::m,k,g=>by
    by_cases e:a=k
    · rw [Aa,if_pos e] at g;cases g
    · rw [Aa,if_neg e] at g;rw [fj,Aa,if_neg e,cD Dd m k g]
theorem BC:∀ (Dd:Ak) (m:List (Int×vd)) (k:Int) (st:List Int) (v:Value) (h:List Bool),Dd.map (·.2)=m.map (·.2.has)→Aa m k=none →
    Fc (fj Dd m) k ⟨st,v⟩=fj (Dd++[(v,h)]) (Fc m k ⟨st,h⟩)∧(Dd++[(v,h)]).map (·.2)=(Fc m k ⟨st,h⟩).map (·.2.has)
  | [],[],k,st,v,h,e,g=>⟨rfl,rfl⟩
  | b::Dd,[],k,st,v,h,e,g=>by simp at e
  | [],e::m,k,st,v,h,d,g=>by simp at d
  | b::Dd,(a,y)::m,k,st,v,h,e,g=>by
    simp only [List.map_cons,List.cons.injEq] at e;obtain ⟨f,i⟩:=e;by_cases c:a=k
    · rw [Aa,if_pos c] at g;cases g
    · rw [Aa,if_neg c] at g;obtain ⟨j,l⟩:=BC Dd m k st v h i g;rw [fj,Fc,if_neg c,Fc,if_neg c,j];refine ⟨?_,?_⟩
      · show _=fj (b::(Dd++[(v,h)])) _;rw [fj]
      · show (b::(Dd++[(v,h)])).map (·.2)=_;rw [List.map_cons,l,List.map_cons,f]
theorem jH {m:List (Int×vd)}{k:Int}(h:¬ (Aa m k).isSome=true):Aa m k=none:=by
  cases e:Aa m k with
  | none=>rfl
  | some x=>rw [e] at h; exact absurd rfl h
theorem Wh.new {μ:M}{es:List MapEntry}{c:Nat}{Dd:Ak}{m:List (Int×vd)}{k:Int}{st:List Int}{v:Value}{h:List Bool}{a:List MapEntry}{Db:Nat}{I:M}(p:Wh I es c Dd m) (g:Aa m k=none) (q:xe μ a Db (Fc (fj Dd m) k ⟨st,v⟩)):Wh μ a Db (Dd++[(v,h)]) (Fc m k ⟨st,h⟩):=by
  obtain ⟨na,b⟩:=BC Dd m k st v h p.has g;exact ⟨by rw [← na];exact q,b⟩
theorem Wh.set {μ:M}{es:List MapEntry}{c:Nat}{Dd V Ed:Ak}{v:Value}{m:List (Int×vd)}{k:Int}{x:vd}(p:Wh μ es c Dd m) (h:∀ a,fj (V++(v,a)::Ed) (Fc m k ⟨x.stack,a⟩)=fj Dd m∧(V++(v,a)::Ed).map (·.2)=(Fc m k ⟨x.stack,a⟩).map (·.2.has)) (a:List Bool):Wh μ es c (V++(v,a)::Ed) (Fc m k ⟨x.stack,a⟩):=by
  obtain ⟨na,b⟩:=h a;exact ⟨by rw [na];exact p.xt,b⟩
theorem kH {α:Type}[Sa α]{μ:M}{v:Value}{o:Option α}(h:we μ v o) (k:¬ o.isSome=true):v=.pointer none:=by
  cases o with
  | none=>exact h
  | some x=>exact absurd rfl k
theorem ou {μ:M}:∀ h:List Bool,ua μ (h.map Value.bool) h
  | []=>rfl
  | b::h=>ua.cons (cs:=[.bool b]) rfl (ou h)
theorem mA {μ:M}:∀ {h:List Bool}{cells:List Value},ua μ cells h→cells=h.map Value.bool
  | [],cells,r=>r
  | b::h,cells,r=>by
    obtain ⟨cs,t,rfl,a,c⟩:=r;rw [show cs=[.bool b] from a,mA c];rfl
section
variable {μ:M}{J w:World}{T:TypeId}{a p R:List dc}{V Ed Dd:Ak}{v:Value}{h:List Bool}
theorem gB (b:ka μ J w (a++(re T (V++(v,h)::Ed)++R))):ka μ J w (.row v T 1 h.length (h.map .bool)::(a++(re T (V++Ed)++R))):=
  b.perm (by
    unfold re;simp only [List.map_append,List.map_cons,List.append_assoc,List.cons_append];exact (List.perm_middle.append_left a).trans List.perm_middle)
theorem Ut {cells:List Value}(b:ka μ J w (.row v T 1 h.length cells::(a++(re T (V++Ed)++R)))) (c:ua μ cells h):ka μ J w (a++(re T (V++(v,h)::Ed)++R)):=by
  rw [mA c] at b;exact b.perm (by
    unfold re;simp only [List.map_append,List.map_cons,List.append_assoc,List.cons_append];exact ((List.perm_middle.append_left a).trans List.perm_middle).symm)
theorem oG {cells:List Value}(b:ka μ J w (.row v T 1 h.length cells::(a++(re T Dd++R)))) (c:ua μ cells h):ka μ J w (a++(re T (Dd++[(v,h)])++R)):=by
  have d:ka μ J w (.row v T 1 h.length cells::(a++(re T (Dd++[])++R))):=by rw [List.append_nil];exact b
  exact Ut d c
theorem hB (c:ka μ J w (a++(re T Dd++R))):ka μ J w (a++R):=by
  have b:ka μ J w (re T Dd++(a++R)):=c.perm (by rw [← List.append_assoc,← List.append_assoc];exact List.Perm.append_right R List.perm_append_comm);generalize re T Dd=l at b
  induction l with
  | nil=>exact b
  | cons r l d=>exact d (b.drop .z)
end
section
variable {P:Program}{Q:Exit→Act→World→Prop}{K:List Value→List Deferred→World→Prop}{fr Fa:List Value}{ds:List Deferred}{w:World}
variable {dst:Option Tmp}{ty:TypeId}{pos:String}{after:Array Edge}{g:Option (Nat×Bool)}{μ:M}{T:TypeId}
variable {x y:Operand}{Se aa:TypeId}{b c:Nat}{es:List MapEntry}{m:List (Int×cv)}{k:Int}
theorem pG {x:Operand}{t qd e:TypeId}{a:Addr}(hu:P.underlying t=some (.pointer e)) (b:zb fr x (.pointer (some a))):Of P (Oper.mk dst (.binOp .neq t x (.const (.pointer none)) qd) ty pos after g) fr (.bool true):=⟨fun ds w=>by
  have c:=b ds;have f:(F fr ds).eval (.const (.pointer none))=.pointer none:=rfl;have h:∀ d:Nat,(Op.equalIn (d+1) t (.pointer (some a)) (.pointer none)).run P w=.ok false w:=fun d=>by
    simp [Op.equalIn,run_underlying hu]
  have i:(Op.equalIn Op.maxDepth t (.pointer (some a)) (.pointer none)).run P w=.ok false w:=h 9999;simp [execOp,c,f,eqGuard,binOp,Op.equal,i]⟩
theorem qG {x:Operand}{t qd e:TypeId}{a:Addr}(hu:P.underlying t=some (.pointer e)) (b:zb fr x (.pointer (some a))) (c:Vf fr dst (.bool true) Fa) (h:K Fa ds w):De P (Oper.mk dst (.binOp .neq t x (.const (.pointer none)) qd) ty pos after g) fr ds w K Q:=Ea (pG hu b) c h
theorem JF {x:Operand}{t qd e:TypeId}(hu:P.underlying t=some (.pointer e)) (a:zb fr x (.pointer none)):Of P (Oper.mk dst (.binOp .neq t x (.const (.pointer none)) qd) ty pos after g) fr (.bool false):=⟨fun ds w=>by
  have b:=a ds;have c:(F fr ds).eval (.const (.pointer none))=.pointer none:=rfl;have f:∀ d:Nat,(Op.equalIn (d+1) t (.pointer none) (.pointer none)).run P w=.ok true w:=fun d=>by
    simp [Op.equalIn,run_underlying hu]
  have h:(Op.equalIn Op.maxDepth t (.pointer none) (.pointer none)).run P w=.ok true w:=f 9999;simp [execOp,b,c,eqGuard,binOp,Op.equal,h]⟩
theorem KF {x:Operand}{t qd e:TypeId}(hu:P.underlying t=some (.pointer e)) (a:zb fr x (.pointer none)) (b:Vf fr dst (.bool false) Fa) (h:K Fa ds w):De P (Oper.mk dst (.binOp .neq t x (.const (.pointer none)) qd) ty pos after g) fr ds w K Q:=Ea (JF hu a) b h
theorem CC {μ:M}:hh.Ni μ (.agg ⟨[.slice none 0 0,.slice none 0 0]⟩) (⟨[],.slice none 0 0⟩:cv):=⟨none,0,rfl,Ra.nil⟩
theorem lH {st:List Int}{Ab:Value}(e:P.underlying T=some (.map Se aa)) (f:P.underlying Se=some (mb.bg (κ:=Int))) (i:zb fr x (.map (some b))) (j:zb fr y (mb.key k))
    (l:∀ w,(zeroValue aa).run P w=.ok (.agg ⟨[.slice none 0 0,.slice none 0 0]⟩) w) (n:w.heap[b]?=some (.map ⟨es⟩ c)) (he:xe μ es c m) (yt:Aa m k=some ⟨st,Ab⟩)
    (h:∀ a c,Ra μ a c st→Mg fr dst (.agg ⟨[.slice a st.length c,Ab]⟩) fun Fa=>K Fa ds w):De P (Oper.mk dst (.lookup T x y false) ty pos after g) fr ds w K Q :=
  Kl e f i j l CC n he fun v d=>by
    rw [yt] at d;obtain ⟨a,c,rfl,m⟩:=d;exact h a c m
theorem mH {st:List Int}{Ab:Value}(e:P.underlying T=some (.map Se aa)) (f:P.underlying Se=some (mb.bg (κ:=Int))) (i:zb fr x (.map (some b))) (j:zb fr y (mb.key k))
    (l:∀ w,(zeroValue aa).run P w=.ok (.agg ⟨[.slice none 0 0,.slice none 0 0]⟩) w) (n:w.heap[b]?=some (.map ⟨es⟩ c)) (he:xe μ es c m) (yt:Aa m k=some ⟨st,Ab⟩)
    (h:∀ a c,Ra μ a c st→Mg fr dst (.tuple ⟨[.agg ⟨[.slice a st.length c,Ab]⟩,.bool true]⟩) fun Fa=>K Fa ds w):De P (Oper.mk dst (.lookup T x y true) ty pos after g) fr ds w K Q :=
  Jy e f i j l CC n he fun v d=>by
    rw [yt] at d ⊢;obtain ⟨a,c,rfl,m⟩:=d;exact h a c m
theorem rG (d:P.underlying T=some (.map Se aa)) (f:P.underlying Se=some (mb.bg (κ:=Int))) (i:zb fr x (.map (some b))) (j:zb fr y (mb.key k))
    (l:∀ w,(zeroValue aa).run P w=.ok (.agg ⟨[.slice none 0 0,.slice none 0 0]⟩) w) (n:w.heap[b]?=some (.map ⟨es⟩ c)) (he:xe μ es c m) (yt:Aa m k=none)
    (h:Mg fr dst (.tuple ⟨[.agg ⟨[.slice none 0 0,.slice none 0 0]⟩,.bool false]⟩) fun Fa=>K Fa ds w):De P (Oper.mk dst (.lookup T x y true) ty pos after g) fr ds w K Q:=by
  obtain ⟨Fa,ya⟩:=Ph fr dst (.tuple #[Tj es (mb.key k) (.agg ⟨[.slice none 0 0,.slice none 0 0]⟩),.bool (Up es (mb.key k))]);refine py d f i j (mb.Se k) l n he.vf.keys ya ?_;rw [he.vf.has k,yt] at ya;have qa:=he.vf.look k;have e:Tj es (mb.key k) (.agg ⟨[.slice none 0 0,.slice none 0 0]⟩)=.agg ⟨[.slice none 0 0,.slice none 0 0]⟩:=by
    unfold Tj;rw [du];cases o:Ek (mb.key k) es with
    | none=>rfl
    | some p=>rw [o] at qa; obtain ⟨x,a,q⟩:=qa; rw [yt] at a; cases a
  rw [e] at ya;exact h Fa ya
end
end Go.Y
namespace Go.Y
open Go.oc Go.sd
def Cn  (p_1:Int):Option Bool :=
  if p_1=1 then
    some true
  else
    some (decide (p_1=2))
def Iq  (p_1:Ce) (a:Int) (p_3:Int):Option Bool :=
  if (0:Int)≤a then
    (p_1.m).bind fun b =>
    if a<(b.Jc.length:Int) then
      (at_ b.Jc a).bind fun c =>
      some (decide (c.Kind=p_3))
    else
      some false
  else
    some false
def zs  (p_1:Ce) (a:Int):Option Bool :=
  if (10:Int)≤a then
    (i64 (a - 10)).bind fun i7 =>
    (Iq p_1 i7 3).bind fun b =>
    some b
  else
    some false
def il  (a:Bool):Option Int :=
  if a=true then
    some 0
  else
    some 3
def Nt  (a:Bool):Option Int :=
  if a=true then
    some 1
  else
    il true
def Ot (p_1:Ce) (p_3:fb) (a:Bool):Option Int :=
  if a=true then
    if (0:Int)≤p_3.A then
      (p_1.m).bind fun b =>
      il (decide (p_3.A<(b.af.length:Int)))
    else
      il false
  else
    if p_3.Op<1 then
      Nt true
    else
      Nt (decide ((32:Int)<p_3.Op))
def Pt (p_1:Ce) (a:uc) (p_3:fb) (b:Bool):Option Int :=
  if b=true then
    if (0:Int)≤p_3.A then
      il (decide (p_3.A<(a.Code.length:Int)))
    else
      il false
  else
    if p_3.Op=23 then
      (Iq p_1 p_3.A 2).bind fun c =>
      il c
    else
      if p_3.Op=29 then
        (Iq p_1 p_3.A 3).bind fun d =>
        il d
      else
        if p_3.Op=26 then
          Ot p_1 p_3 (decide (p_3.Op=26))
        else
          Ot p_1 p_3 (decide (p_3.Op=27))
def Qt (p_1:Ce) (a:uc) (p_3:fb) (b:Bool):Option Int :=
  if b=true then
    if (0:Int)≤p_3.A then
      il (decide (p_3.A<(a.Wb.length:Int)))
    else
      il false
  else
    if p_3.Op=21 then
      Pt p_1 a p_3 (decide (p_3.Op=21))
    else
      Pt p_1 a p_3 (decide (p_3.Op=22))
def qu  (p_1:Ce) (a:uc) (p_3:fb):Option Int :=
  if p_3.Op=2 then
    if p_3.A=0 then
      il true
    else
      il (decide (p_3.A=1))
  else
    if p_3.Op=3 then
      Qt p_1 a p_3 (decide (p_3.Op=3))
    else
      Qt p_1 a p_3 (decide (p_3.Op=4))
def As (p_1:List Int) (a:Int→Option Bool):Nat→Int→Option Int
  | 0,_=>none
  | n+1,i20 =>
    if i20<(p_1.length:Int) then
      (at_ p_1 i20).bind fun b =>
      (a b).bind fun c =>
      if c=true then
        some i20
      else
        (i64 (i20+1)).bind fun i49 =>
        As p_1 a n i49
    else
      some (-1)
def Rw  (p_1:List Int) (a:Int→Option Bool):Option Int :=
  As p_1 a (p_1.length+1) 0
def Nq  (p_1:List Int) (a:Int→Option Bool):Option Bool :=
  (Rw p_1 a).bind fun b =>
  some (decide ((0:Int)≤b))
def Bs (p_1:List fb) (a:fb→Option Bool):Nat→Int→Option Int
  | 0,_=>none
  | n+1,i20 =>
    if i20<(p_1.length:Int) then
      (at_ p_1 i20).bind fun b =>
      (a b).bind fun c =>
      if c=true then
        some i20
      else
        (i64 (i20+1)).bind fun i49 =>
        Bs p_1 a n i49
    else
      some (-1)
def Sw  (p_1:List fb) (a:fb→Option Bool):Option Int :=
  Bs p_1 a (p_1.length+1) 0
def Tw  (p_1:List fb) (a:fb→Option Bool):Option Bool :=
  (Sw p_1 a).bind fun b =>
  some (decide ((0:Int)≤b))
def ru  (p_1:Int) (a:Option Ce):Option Bool :=
  (Cn p_1).bind fun b =>
  if b=true then
    some false
  else
    (a).bind fun c =>
    (zs c p_1).bind fun d =>
    some (!d)
def uo (p_1:Ce) (a:uc) (b:Bool):Option Int :=
  if b=true then
    some 9
  else
    (Nq a.Wb (fun c=>ru c (some p_1))).bind fun d =>
    if d=true then
      some 9
    else
      some 0
def bs (p_1:Ce) (a:uc) (b:Bool):Option Int :=
  if b=true then
    some 5
  else
    if a.Kind≠4 then
      (Cn a.Result).bind fun c =>
      if c=true then
        if a.Kind=3 then
          (Cn a.fc).bind fun d =>
          uo p_1 a (!d)
        else
          uo p_1 a false
      else
        uo p_1 a true
    else
      if a.Kind=3 then
        (Cn a.fc).bind fun e =>
        uo p_1 a (!e)
      else
        uo p_1 a false
def yn (p_1:Ce) (a:uc) (b:Bool):Option Int :=
  if b=true then
    some 5
  else
    if (a.Code.length:Int)<1 then
      bs p_1 a true
    else
      bs p_1 a (decide ((4000:Int)<(a.Code.length:Int)))
def yq (p_1:Ce) (a:uc) (b:Bool):Option Int :=
  if b=true then
    some 1
  else
    if (200:Int)<(a.Wb.length:Int) then
      yn p_1 a true
    else
      if a.Params<0 then
        yn p_1 a true
      else
        if (6:Int)<a.Params then
          yn p_1 a true
        else
          if (a.Wb.length:Int)<a.Params then
            yn p_1 a true
          else
            if a.Kind=4 then
              yn p_1 a (decide ((0:Int)<a.Params))
            else
              yn p_1 a false
def yu  (p_1:Ce) (a:uc):Option Int :=
  if a.Kind≠2 then
    if a.Kind≠3 then
      yq p_1 a (decide (a.Kind≠4))
    else
      yq p_1 a false
  else
    yq p_1 a false
def Vt (i55:Int) (a:Int→Option eg) (b:Bool):Option eg :=
  if b=true then
    some (eg.mk 3 0 i55)
  else
    (i64 (i55+1)).bind fun i93 =>
    a i93
def fs (p_1:Ce) (i163:Int) (i164:Int) (a:uc) (c:Int→Int→Option eg):Nat→Int→Option eg
  | 0,_=>none
  | n+1,b =>
    if b<(a.Code.length:Int) then
      (at_ a.Code b).bind fun e =>
      (qu p_1 a e).bind fun d =>
      if d≠0 then
        some (eg.mk d i164 b)
      else
        (i64 (b+1)).bind fun f =>
        fs p_1 i163 i164 a c n f
    else
      if a.Kind=4 then
        (i64 (i163+1)).bind fun g =>
        (i64 (i164+1)).bind fun h =>
        c g h
      else
        (i64 (i164+1)).bind fun i =>
        c i163 i
def Bp (p_1:Ce) (a:Pc):Nat→Int→Int→Option eg
  | 0,_,_=>none
  | n+1,i163,i164 =>
    if i164<(a.Jc.length:Int) then
      (at_ a.Jc i164).bind fun b =>
      (yu p_1 b).bind fun c =>
      if c≠0 then
        some (eg.mk c i164 0)
      else
        fs p_1 i163 i164 b (Bp p_1 a n) (b.Code.length+1) 0
    else
      if i163=0 then
        some (eg.mk 6 0 0)
      else
        some (eg.mk 0 0 0)
def Cp (p_1:Ce) (a:Pc):Nat→Int→Option eg
  | 0,_=>none
  | n+1,i55 =>
    if i55<(a.af.length:Int) then
      (at_ a.af i55).bind fun b =>
      (Cn b.tb).bind fun c =>
      if c=true then
        if b.Ue<1 then
          Vt i55 (Cp p_1 a n) true
        else
          Vt i55 (Cp p_1 a n) (decide ((20:Int)<b.Ue))
      else
        some (eg.mk 9 0 i55)
    else
      Bp p_1 a (a.Jc.length+1) 0 0
def Wt (p_1:Ce) (ef:Bool):Option eg :=
  if ef=true then
    some (eg.mk 5 0 0)
  else
    (p_1.m).bind fun a =>
    Cp p_1 a (a.af.length+1) 0
def zu  (p_1:Ce):Option eg :=
  (p_1.m).bind fun a =>
  if (30:Int)<(a.af.length:Int) then
    Wt p_1 true
  else
    Wt p_1 (decide ((30:Int)<(a.Jc.length:Int)))
end Go.Y
namespace Go.Y
open Go.oc Go.sd
def Ev  (a:List Int) (b:List Bool):Option vd :=
  some (vd.mk a b)
def Xt  (p_1:vd):Option vd :=
  (small p_1.stack).bind fun a =>
  (small p_1.has).bind fun b =>
  Ev p_1.stack p_1.has
def Fv  (a:List Int) (b:List Bool):Option vd :=
  some (vd.mk a b)
def Yt  (p_1:vd):Option vd :=
  (small p_1.stack).bind fun a =>
  (small p_1.has).bind fun b =>
  Fv p_1.stack p_1.has
def Ur (p_1:List Int) (a:List Int):Nat→Int→Option Bool
  | 0,_=>none
  | n+1,i33 =>
    if i33<(p_1.length:Int) then
      (at_ p_1 i33).bind fun b =>
      (at_ a i33).bind fun c =>
      if b≠c then
        some false
      else
        (i64 (i33+1)).bind fun i83 =>
        Ur p_1 a n i83
    else
      some true
def su  (p_1:List Int) (a:List Int):Option Bool :=
  if (p_1.length:Int)≠(a.length:Int) then
    some false
  else
    Ur p_1 a (p_1.length+1) 0
def uj  (a:Int) (b:Int):Option Int :=
  if a=0 then
    some b
  else
    some a
def Fi  (c:List Int) (b:Int) (d:Int):Option (List Int×Int):=
  (app c [d]).bind fun a =>
  if (300:Int)<(a.length:Int) then
    (uj b 4).bind fun e =>
    some (a,e)
  else
    some (a,b)
def Hm  (a:List Int) (b:Int):Option (Int×List Int×Int):=
  if (a.length:Int)=0 then
    (uj b 12).bind fun c =>
    some (0,a,c)
  else
    (i64 ((a.length:Int) - 1)).bind fun i19 =>
    (at_ a i19).bind fun d =>
    (i64 ((a.length:Int) - 1)).bind fun i35 =>
    (cut a 0 i35).bind fun e =>
    some (d,e,b)
def zq (b:List Int):Nat→Int→Int→(List Int)→Option (List Int×Int)
  | 0,_,_,_=>none
  | n+1,i40,i41,c =>
    if (0:Int)≤i40 then
      (Hm c i41).bind fun a =>
      (at_ b i40).bind fun d =>
      if a.1≠d then
        (uj a.2.2 9).bind fun e =>
        (i64 (i40 - 1)).bind fun i88 =>
        zq b n i88 e a.2.1
      else
        (i64 (i40 - 1)).bind fun i90 =>
        zq b n i90 a.2.2 a.2.1
    else
      some (c,i41)
def tk (fu:Nat)  (b:List Int) (c:Int) (a:List Int):Option (List Int×Int):=
  (i64 ((a.length:Int) - 1)).bind fun i18 =>
  zq a fu i18 c b
def tw (a:Int) (b:List Int) (c:List Int) (d:List Bool) (e:Int) (f:List (Int×vd)):Option (List (Int×vd)×List Int×List Int×List Bool×Int):=
  (app b [a]).bind fun g =>
  some (f,g,c,d,e)
def Fq (c:Bool) (i129:Int) (a:List Bool) (b:Bool→Int→(List Bool)→Option (List (Int×vd)×List Int×List Int×List Bool×Int)) (d:Bool):Option (List (Int×vd)×List Int×List Int×List Bool×Int):=
  if d=true then
    (at_ a i129).bind fun e =>
    (i64 (i129+1)).bind fun i236 =>
    b true i236 (a.set i129.toNat false)
  else
    (i64 (i129+1)).bind fun i238 =>
    b c i238 a
def Ao (a:Int) (e:List (Int×vd)) (f:List Int) (g:List Int) (b:List Bool) (h:Int) (c:vd):Nat→Bool→Int→(List Bool)→Option (List (Int×vd)×List Int×List Int×List Bool×Int)
  | 0,_,_,_=>none
  | n+1,i,i129,d =>
    if i129<(c.has.length:Int) then
      (at_ d i129).bind fun j =>
      if j=true then
        (at_ b i129).bind fun k =>
        Fq i i129 d (Ao a e f g b h c n) (!k)
      else
        Fq i i129 d (Ao a e f g b h c n) false
    else
      if i=true then
        (app f [a]).bind fun l =>
        some ((Fc e a (vd.mk c.stack d)),l,g,b,h)
      else
        some ((Fc e a (vd.mk c.stack d)),f,g,b,h)
def Ql  (m:Ce) (i:uc) (a:List (Int×vd)) (f:List Int) (b:List Int) (c:List Bool) (d:Int) (e:Int):Option (List (Int×vd)×List Int×List Int×List Bool×Int):=
  if d≠0 then
    some (a,f,b,c,d)
  else
    if e=(i.Code.length:Int) then
      (uj d 3).bind fun j =>
      some (a,f,b,c,j)
    else
      if (Aa a e).isSome=true then
        (Aa a e).bind fun g =>
        (su g.stack b).bind fun k =>
        if k=true then
          Ao e a f b c d g (g.has.length+1) false 0 g.has
        else
          (uj d 8).bind fun l =>
          some (a,f,b,c,l)
      else
        (Xt (vd.mk b c)).bind fun h =>
        tw e f b c d (Fc a e (vd.mk h.stack h.has))
def Ns (fu:Nat)  (c:Ce) (d:List Int) (e:Int) (f:Int):Option (uc×List Int×Int):=
  (c.m).bind fun g =>
  (at_ g.Jc f).bind fun a =>
  (cut a.Wb 0 a.Params).bind fun h =>
  (tk fu d e h).bind fun b =>
  some (a,b.1,b.2)
def Vs  (b:Ce) (c:List Int) (d:Int):Option (Option uc×List Int×Int):=
  (Hm c d).bind fun a =>
  if a.2.2≠0 then
    some (none,a.2.1,a.2.2)
  else
    (zs b a.1).bind fun e =>
    if e=true then
      (b.m).bind fun f =>
      (i64 (a.1 - 10)).bind fun i49 =>
      (at_ f.Jc i49).bind fun g =>
      some ((some g),a.2.1,a.2.2)
    else
      (uj a.2.2 9).bind fun h =>
      some (none,a.2.1,h)
def Zt (a:List Int) (i15:Int):Option (Bool×List Int×Int):=
  some (false,a,i15)
def Ps  (a:List Int) (b:Int):Option (Bool×List Int×Int):=
  if (0:Int)<(a.length:Int) then
    (uj b 12).bind fun c =>
    Zt a c
  else
    Zt a b
def Kj (a:List (Int×vd)) (b:List Int) (c:List Bool) (i52:Int) (d:List Int):Option (Bool×List (Int×vd)×List Int×List Int×List Bool×Int):=
  some (true,a,b,d,c,i52)
def xr (fu:Nat) (c:uc) (d:List (Int×vd)) (e:List Int) (f:List Int) (g:List Bool) (i104:Int):Option (Bool×List (Int×vd)×List Int×List Int×List Bool×Int):=
  (tk fu f i104 [c.Result]).bind fun b =>
  (Ps b.1 b.2).bind fun a =>
  some (a.1,d,e,a.2.1,g,a.2.2)
def yr (b:List (Int×vd)) (c:List Int) (d:List Int) (e:List Bool) (i127:Int):Option (Bool×List (Int×vd)×List Int×List Int×List Bool×Int):=
  (Ps d i127).bind fun a =>
  some (a.1,b,c,a.2.1,e,a.2.2)
def zr (b:List (Int×vd)) (c:List Int) (d:List Bool) (a:Int×List Int×Int) (e:Bool):Option (Bool×List (Int×vd)×List Int×List Int×List Bool×Int):=
  if e=true then
    (uj a.2.2 9).bind fun f =>
    Kj b c d f a.2.1
  else
    Kj b c d a.2.2 a.2.1
def Ar (b:List (Int×vd)) (c:List Int) (d:List Bool) (e:Option uc×List Int×Int) (f:uc) (i245:Int):Option (Bool×List (Int×vd)×List Int×List Int×List Bool×Int):=
  (Fi e.2.1 i245 f.Result).bind fun a =>
  Kj b c d a.2 a.1
def Br (fu:Nat) (a:uc) (d:List (Int×vd)) (e:List Int) (f:List Int) (g:List Bool) (i258:Int):Option (Bool×List (Int×vd)×List Int×List Int×List Bool×Int):=
  (tk fu f i258 [a.Result]).bind fun b =>
  (Fi b.1 b.2 a.fc).bind fun c =>
  Kj d e g c.2 c.1
def au (fu:Nat)  (i:Ce) (h:uc) (a:List (Int×vd)) (b:List Int) (e:List Int) (c:List Bool) (f:Int) (d:fb):Option (Bool×List (Int×vd)×List Int×List Int×List Bool×Int):=
  if d.Op=23 then
    (Ns fu i e f d.A).bind fun k =>
    (Fi k.2.1 k.2.2 k.1.Result).bind fun o =>
    Kj a b c o.2 o.1
  else
    if d.Op=29 then
      (Ns fu i e f d.A).bind fun p =>
      (i64 (10+d.A)).bind fun i95 =>
      (Fi p.2.1 p.2.2 i95).bind fun q =>
      Kj a b c q.2 q.1
    else
      if d.Op=24 then
        if h.Kind≠2 then
          (uj f 8).bind fun v =>
          xr fu h a b e c v
        else
          xr fu h a b e c f
      else
        if d.Op=25 then
          if h.Kind=2 then
            (uj f 8).bind fun w =>
            yr a b e c w
          else
            yr a b e c f
        else
          if d.Op=26 then
            (i.m).bind fun x =>
            (at_ x.af d.A).bind fun y =>
            (tk fu e f [y.tb]).bind fun r =>
            Kj a b c r.2 r.1
          else
            if d.Op=27 then
              (i.m).bind fun z =>
              (at_ z.af d.A).bind fun B =>
              (Fi e f B.tb).bind fun s =>
              Kj a b c s.2 s.1
            else
              if d.Op=28 then
                (Hm e f).bind fun j =>
                if j.2.2=0 then
                  (Cn j.1).bind fun C =>
                  zr a b c j (!C)
                else
                  zr a b c j false
              else
                if d.Op=30 then
                  (Hm e f).bind fun l =>
                  (Vs i l.2.1 l.2.2).bind fun g =>
                  if g.1.isSome=true then
                    (g.1).bind fun n =>
                    if l.1≠n.fc then
                      (uj g.2.2 9).bind fun D =>
                      Ar a b c g n D
                    else
                      Ar a b c g n g.2.2
                  else
                    Kj a b c g.2.2 g.2.1
                else
                  if d.Op=31 then
                    if h.Kind≠3 then
                      (uj f 8).bind fun E =>
                      Br fu h a b e c E
                    else
                      Br fu h a b e c f
                  else
                    if d.Op=32 then
                      (Vs i e f).bind fun t =>
                      (Fi t.2.1 t.2.2 2).bind fun u =>
                      Kj a b c u.2 u.1
                    else
                      Kj a b c f e
def Ei  (i52:Int) (a:List Int) (b:List Int) (c:List Bool) (d:List (Int×vd)):Option (Bool×List (Int×vd)×List Int×List Int×List Bool×Int):=
  some (true,d,a,b,c,i52)
def js (b:fb) (c:uc) (d:List (Int×vd)) (e:List Int) (f:List Int) (g:List Bool) (i99:Int):Option (Bool×List (Int×vd)×List Int×List Int×List Bool×Int):=
  (at_ c.Wb b.A).bind fun h =>
  (Fi f i99 h).bind fun a =>
  Ei a.2 e a.1 g d
def Aq (fu:Nat) (d:List (Int×vd)) (e:List Int) (f:List Bool) (a:Int×List Int×Int) (i227:Int):Option (Bool×List (Int×vd)×List Int×List Int×List Bool×Int):=
  (tk fu a.2.1 i227 [a.1]).bind fun b =>
  (Fi b.1 b.2 2).bind fun c =>
  Ei c.2 e c.1 f d
def ks (fu:Nat) (b:List (Int×vd)) (c:List Int) (d:List Bool) (a:Int×List Int×Int) (e:Bool):Option (Bool×List (Int×vd)×List Int×List Int×List Bool×Int):=
  if e=true then
    (uj a.2.2 9).bind fun f =>
    Aq fu b c d a f
  else
    Aq fu b c d a a.2.2
def fm (fu:Nat) (j:Ce) (b:fb) (k:uc) (e:List (Int×vd)) (f:List Int) (g:List Int) (h:List Bool) (i:Int) (o:Bool):Option (Bool×List (Int×vd)×List Int×List Int×List Bool×Int):=
  if o=true then
    (tk fu g i [2,2]).bind fun l =>
    (Fi l.1 l.2 2).bind fun m =>
    Ei m.2 f m.1 h e
  else
    if b.Op=21 then
      (Ql j k e f g h i b.A).bind fun c =>
      some (false,c.1,c.2.1,c.2.2.1,c.2.2.2.1,c.2.2.2.2)
    else
      if b.Op=22 then
        (tk fu g i [2]).bind fun n =>
        (Ql j k e f n.1 h n.2 b.A).bind fun d =>
        Ei d.2.2.2.2 d.2.1 d.2.2.1 d.2.2.2.1 d.1
      else
        (au fu j k e f g h i b).bind fun a =>
        some (a.1,a.2.1,a.2.2.1,a.2.2.2.1,a.2.2.2.2.1,a.2.2.2.2.2)
def vo (fu:Nat) (g:Ce) (a:fb) (h:uc) (b:List (Int×vd)) (c:List Int) (d:List Int) (e:List Bool) (f:Int) (k:Bool):Option (Bool×List (Int×vd)×List Int×List Int×List Bool×Int):=
  if k=true then
    (tk fu d f [1,1]).bind fun i =>
    (Fi i.1 i.2 2).bind fun j =>
    Ei j.2 c j.1 e b
  else
    if a.Op=19 then
      fm fu g a h b c d e f true
    else
      fm fu g a h b c d e f (decide (a.Op=20))
def ll (fu:Nat) (h:Ce) (a:fb) (i:uc) (b:List (Int×vd)) (c:List Int) (f:List Int) (d:List Bool) (g:Int) (j:Bool):Option (Bool×List (Int×vd)×List Int×List Int×List Bool×Int):=
  if j=true then
    (Hm f g).bind fun e =>
    if e.1≠1 then
      ks fu b c d e (decide (e.1≠2))
    else
      ks fu b c d e false
  else
    if (15:Int)≤a.Op then
      vo fu h a i b c f d g (decide (a.Op≤18))
    else
      vo fu h a i b c f d g false
def Dm (fu:Nat) (g:Ce) (a:fb) (h:uc) (b:List (Int×vd)) (c:List Int) (d:List Int) (e:List Bool) (f:Int) (k:Bool):Option (Bool×List (Int×vd)×List Int×List Int×List Bool×Int):=
  if k=true then
    (tk fu d f [1,1]).bind fun i =>
    (Fi i.1 i.2 1).bind fun j =>
    Ei j.2 c j.1 e b
  else
    if a.Op=13 then
      ll fu g a h b c d e f true
    else
      ll fu g a h b c d e f (decide (a.Op=14))
def Fm (fu:Nat)  (h:Ce) (g:uc) (c:List (Int×vd)) (d:List Int) (e:List Int) (b:List Bool) (f:Int) (a:fb):Option (Bool×List (Int×vd)×List Int×List Int×List Bool×Int):=
  if a.Op=1 then
    (Fi e f 1).bind fun i =>
    Ei i.2 d i.1 b c
  else
    if a.Op=2 then
      (Fi e f 2).bind fun j =>
      Ei j.2 d j.1 b c
    else
      if a.Op=3 then
        (at_ b a.A).bind fun q =>
        if q=true then
          js a g c d e b f
        else
          (uj f 11).bind fun r =>
          js a g c d e b r
      else
        if a.Op=4 then
          (at_ g.Wb a.A).bind fun s =>
          (tk fu e f [s]).bind fun k =>
          (at_ b a.A).bind fun t =>
          Ei k.2 d k.1 (b.set a.A.toNat true) c
        else
          if a.Op=5 then
            (Hm e f).bind fun l =>
            Ei l.2.2 d l.2.1 b c
          else
            if a.Op=6 then
              (tk fu e f [1]).bind fun m =>
              (Fi m.1 m.2 1).bind fun n =>
              Ei n.2 d n.1 b c
            else
              if a.Op=7 then
                (tk fu e f [2]).bind fun o =>
                (Fi o.1 o.2 2).bind fun p =>
                Ei p.2 d p.1 b c
              else
                if (8:Int)≤a.Op then
                  Dm fu h a g c d e b f (decide (a.Op≤12))
                else
                  Dm fu h a g c d e b f false
def Bq (b:Int) (c:Int) (d:Int→(List Bool)→(List Int)→(List Int)→(List (Int×vd))→Option eg) (a:Int) (e:List Bool) (f:List Int) (g:List Int) (h:List (Int×vd)):Option eg :=
  if a≠0 then
    some (eg.mk a b c)
  else
    d a e f g h
def sj (fu:Nat) (p_1:Ce) (e:Int) (b:uc):Nat→Int→(List Bool)→(List Int)→(List Int)→(List (Int×vd))→Option eg
  | 0,_,_,_,_,_=>none
  | n+1,i223,m,f,o,g =>
    if (0:Int)<(f.length:Int) then
      (at_ f 0).bind fun c =>
      (cut f 1 f.length).bind fun i =>
      (Aa g c).bind fun j =>
      (Yt j).bind fun h =>
      (at_ b.Code c).bind fun k =>
      (Fm fu p_1 b g i h.stack h.has i223 k).bind fun a =>
      if a.1=true then
        (i64 (c+1)).bind fun l =>
        (Ql p_1 b a.2.1 a.2.2.1 a.2.2.2.1 a.2.2.2.2.1 a.2.2.2.2.2 l).bind fun d =>
        Bq e c (sj fu p_1 e b n) d.2.2.2.2 d.2.2.2.1 d.2.1 d.2.2.1 d.1
      else
        Bq e c (sj fu p_1 e b n) a.2.2.2.2.2 a.2.2.2.2.1 a.2.2.1 a.2.2.2.1 a.2.1
    else
      some (eg.mk 0 0 0)
def ns (fu:Nat) (p_1:Ce) (d:Int) (b:uc):Nat→Int→(List Bool)→Option eg
  | 0,_,_=>none
  | n+1,i60,c =>
    if i60<b.Params then
      (at_ c i60).bind fun e =>
      (i64 (i60+1)).bind fun i100 =>
      ns fu p_1 d b n i100 (c.set i60.toNat true)
    else
      (Ql p_1 b ([]:List (Int×vd)) ([]:List Int) ([]:List Int) c 0 0).bind fun a =>
      sj fu p_1 d b fu a.2.2.2.2 a.2.2.2.1 a.2.1 a.2.2.1 a.1
def Au (fu:Nat)  (p_1:Ce) (b:Int):Option eg :=
  (p_1.m).bind fun c =>
  (at_ c.Jc b).bind fun a =>
  (nv (a.Wb.length:Int)).bind fun d =>
  ns fu p_1 b a ((a.Params - 0).toNat+1) 0 (List.replicate d (false:Bool))
def po (a:Int) (b:List Int) (d:fb) (c:Int→(List Int)→Option (List Int)) (e:Bool):Option (List Int):=
  if e=true then
    (app b [d.A]).bind fun f =>
    (i64 (a+1)).bind fun g =>
    c g f
  else
    (i64 (a+1)).bind fun h =>
    c h b
def Bm (i144:Int) (c:uc) (e:Int→(List Int)→Option (List Int)):Nat→Int→(List Int)→Option (List Int)
  | 0,_,_=>none
  | n+1,d,b =>
    if d<(c.Code.length:Int) then
      (at_ c.Code d).bind fun a =>
      if a.Op=23 then
        po d b a (Bm i144 c e n) (!(b.contains a.A))
      else
        if a.Op=29 then
          po d b a (Bm i144 c e n) (!(b.contains a.A))
        else
          po d b a (Bm i144 c e n) false
    else
      (i64 (i144+1)).bind fun f =>
      e f b
def qo (p_1:Ce):Nat→Int→(List Int)→Option (List Int)
  | 0,_,_=>none
  | n+1,i144,a =>
    if i144<(a.length:Int) then
      (p_1.m).bind fun c =>
      (at_ a i144).bind fun d =>
      (at_ c.Jc d).bind fun b =>
      Bm i144 b (qo p_1 n) (b.Code.length+1) 0 a
    else
      some a
def tu (fu:Nat)  (p_1:Ce) (a:Int):Option (List Int):=
  qo p_1 fu 0 ([a]:List Int)
def bu  (p_1:fb) (a:Int) (p_3:Int):Option Bool :=
  if p_1.Op=a then
    some (decide (p_1.A=p_3))
  else
    some false
def eu  (p_1:Int) (a:Option Ce) (p_3:Int) (b:Int):Option Bool :=
  (a).bind fun c =>
  (c.m).bind fun d =>
  (at_ d.Jc p_1).bind fun e =>
  (Tw e.Code (fun f=>bu f p_3 b)).bind fun g =>
  some g
def Vr (a:Int) (b:Int) (c:Int→Int→Option eg) (d:Bool):Option eg :=
  if d=true then
    (i64 (a+1)).bind fun e =>
    (i64 (b+1)).bind fun f =>
    c e f
  else
    (i64 (b+1)).bind fun g =>
    c a g
def so (fu:Nat) (p_1:Ce) (b:Pc) (c:Int) (d:Int) (e:Int) (f:Int→Option eg):Nat→Int→Int→Option eg
  | 0,_,_=>none
  | n+1,g,a =>
    if a<(b.Jc.length:Int) then
      (at_ b.Jc a).bind fun h =>
      if h.Kind=4 then
        (tu fu p_1 a).bind fun i =>
        (Nq i (fun j=>eu j (some p_1) e c)).bind fun k =>
        Vr g a (so fu p_1 b c d e f n) k
      else
        Vr g a (so fu p_1 b c d e f n) false
    else
      if (1:Int)<g then
        some (eg.mk 8 0 c)
      else
        (i64 (d+1)).bind fun l =>
        f l
def jl (fu:Nat) (p_1:Ce) (a:Pc) (b:Int) (d:Int→Option eg):Nat→Int→Option eg
  | 0,_=>none
  | n+1,c =>
    if c<2 then
      (at_ [26,27] c).bind fun e =>
      so fu p_1 a b c e (jl fu p_1 a b d n) (a.Jc.length+1) 0 0
    else
      (i64 (b+1)).bind fun f =>
      d f
def kl (fu:Nat) (p_1:Ce) (a:Pc):Nat→Int→Option eg
  | 0,_=>none
  | n+1,b =>
    if b<(a.af.length:Int) then
      jl fu p_1 a b (kl fu p_1 a n) 3 0
    else
      some (eg.mk 0 0 0)
def uu (fu:Nat)  (p_1:Ce):Option eg :=
  (p_1.m).bind fun a =>
  kl fu p_1 a (a.af.length+1) 0
def Jr (fu:Nat) (p_1:Pc):Nat→Int→Option eg
  | 0,_=>none
  | n+1,i30 =>
    if i30<(p_1.Jc.length:Int) then
      (Au fu (Ce.mk (some p_1)) i30).bind fun a =>
      if a.ve≠0 then
        some a
      else
        (i64 (i30+1)).bind fun i46 =>
        Jr fu p_1 n i46
    else
      (uu fu (Ce.mk (some p_1))).bind fun b =>
      some b
def gu (fu:Nat)  (p_1:Pc):Option eg :=
  (zu (Ce.mk (some p_1))).bind fun a =>
  if a.ve≠0 then
    some a
  else
    Jr fu p_1 (p_1.Jc.length+1) 0
end Go.Y
namespace Go.Y
open Go.oc Go.sd
def uw (fu:Nat)  :Option Bool :=
  (uy fu [116,97,115,107,32,116,32,123,32,111,117,116,32,49,32,43,32,50,32,59,32,125]).bind fun b =>
  (uq fu b.1).bind fun a =>
  if b.2.ve=0 then
    if a.2.ve=0 then
      if (a.1.Jc.length:Int)=1 then
        (at_ a.1.Jc 0).bind fun c =>
        if (c.Code.length:Int)=5 then
          (at_ a.1.Jc 0).bind fun d =>
          (at_ d.Code 2).bind fun e =>
          some (decide (e.Op=8))
        else
          some false
      else
        some false
    else
      some false
  else
    some false
def vu (fu:Nat)  (p_1:List va):Option Bool :=
  (uw fu).bind fun c =>
  if c=true then
    (uq fu p_1).bind fun a =>
    if a.2.ve≠0 then
      some (decide ((a.1.Jc.length:Int)=0))
    else
      (gu fu a.1).bind fun b =>
      some (kj [(decide (b.ve=0)),(decide (b.Unit=0)),(decide (b.Ec=0))])
  else
    some false
end Go.Y
