/- Texts of Md. -/
import Derived.Test.YtbhncpgjmkcdcaaGreatDoorCXu
set_option linter.unusedSimpArgs false
set_option linter.unusedVariables false
set_option linter.unusedSectionVars false
namespace Go.Y
open Go.yb Go.kc
structure hf where
  Kind:Int
  N:Int
  Name:List UInt8
  Kids:List hf
  deriving Inhabited,Repr
structure Ge where
  Kind:Int
  Name:List UInt8
  X:hf
  Body:List Ge
  Dk:List Ge
  deriving Inhabited,Repr
def Xl {α:Type}(sz:Nat) (μ:M) (a:Option Addr) (c:Nat) (xs:List α) (g:Nat→List Value):Prop :=
  xs.length≤c∧c≤maxLen∧(xs=[]∨∃ b o,a=some ⟨b,o,none⟩∧∀ (i:Nat) (y:α),xs[i]?=some y→Ec μ b (o+i*sz) (g i))
inductive Sp (μ:M):List Value→hf→Prop where
  | mk (x:hf) (a:Option Addr) (c:Nat) (g:Nat→List Value) (h:Xl 4 μ a c x.Kids g) (k:∀ (i:Nat) (y:hf),x.Kids[i]?=some y→Sp μ (g i) y) :
    Sp μ [.int .i64 x.Kind,.int .i64 x.N,S x.Name,.slice a x.Kids.length c] x
theorem Xl.Eu {α:Type}{sz:Nat}{μ:M}{a:Option Addr}{c:Nat}{xs:List α}{g:Nat→List Value}{R:List Value→α→Prop}(h:Xl sz μ a c xs g) (k:∀ (i:Nat) (y:α),xs[i]?=some y→R (g i) y):Cd sz R μ a c xs:=by
  refine ⟨h.1,h.2.1,?_⟩;rcases h.2.2 with h | ⟨b,o,e,f⟩
  · exact .inl h
  · exact .inr ⟨b,o,e,g,fun i x d=>⟨f i x d,k i x d⟩⟩
theorem Xl.of {α:Type}{sz:Nat}{μ:M}{a:Option Addr}{c:Nat}{xs:List α}{R:List Value→α→Prop}(h:Cd sz R μ a c xs):∃ g,Xl sz μ a c xs g∧∀ (i:Nat) (y:α),xs[i]?=some y→R (g i) y:=by
  rcases h.el with e | ⟨b,o,j,g,f⟩
  · exact ⟨fun _=>[],⟨h.le,h.cap,.inl e⟩,fun i y d=>by simp [e] at d⟩
  · exact ⟨g,⟨h.le,h.cap,.inr ⟨b,o,j,fun i y d=>(f i y d).1⟩⟩,fun i y d=>(f i y d).2⟩
theorem Xl.up {α:Type}{sz:Nat}{μ I:M}{a:Option Addr}{c:Nat}{xs:List α}{g:Nat→List Value}(h:Xl sz μ a c xs g) (l:da μ I):Xl sz I a c xs g:=by
  refine ⟨h.1,h.2.1,?_⟩;rcases h.2.2 with h | ⟨b,o,d,e⟩
  · exact .inl h
  · exact .inr ⟨b,o,d,fun i y f=>(e i y f).up l⟩
theorem Sp.up {μ I:M}(l:da μ I){cs:List Value}{x:hf}(h:Sp μ cs x):Sp I cs x:=by
  induction h with
  | mk x a c g h k b=>exact .mk x a c g (h.up l) b
instance:Ha hf where
  sz:=4
  pos:=by decide
  cs:=Sp
  Dg h:=by cases h;rfl
  up l h:=Sp.up l h
  pg h:=by cases h;rfl
inductive Qm (μ:M):List Value→Ge→Prop where
  | mk (x:Ge) (pa:Option Addr) (c1:Nat) (a2:Option Addr) (c2:Nat) (a3:Option Addr) (c3:Nat) (g2 g3:Nat→List Value) (a:Ba μ pa c1 x.X.Kids)
      (b:Xl 8 μ a2 c2 x.Body g2) (c:∀ (i:Nat) (y:Ge),x.Body[i]?=some y→Qm μ (g2 i) y)
      (d:Xl 8 μ a3 c3 x.Dk g3) (e:∀ (i:Nat) (y:Ge),x.Dk[i]?=some y→Qm μ (g3 i) y) :
    Qm μ [.int .i64 x.Kind,S x.Name,.int .i64 x.X.Kind,.int .i64 x.X.N,S x.X.Name,.slice pa x.X.Kids.length c1,.slice a2 x.Body.length c2,.slice a3 x.Dk.length c3] x
theorem Qm.up {μ I:M}(l:da μ I){cs:List Value}{x:Ge}(h:Qm μ cs x):Qm I cs x:=by
  induction h with
  | mk x pa c1 a2 c2 a3 c3 g2 g3 a b f c g d e=>exact .mk x pa c1 a2 c2 a3 c3 g2 g3 (a.up l) (b.up l) d (c.up l) e
instance:Ha Ge where
  sz:=8
  pos:=by decide
  cs:=Qm
  Dg h:=by cases h;rfl
  up l h:=Qm.up l h
  pg h:=by cases h;rfl
theorem Ge.o {μ:M}{l:List Value}{x:Ge}(h:Ha.cs μ l x):∃ pa c1 a2 c2 a3 c3,l=[.int .i64 x.Kind,S x.Name,.int .i64 x.X.Kind,.int .i64 x.X.N,S x.X.Name,.slice pa x.X.Kids.length c1,.slice a2 x.Body.length c2,.slice a3 x.Dk.length c3]∧Ba μ pa c1 x.X.Kids∧Ba μ a2 c2 x.Body∧Ba μ a3 c3 x.Dk:=by
  have a:Qm μ l x:=h;cases a with
  | mk _ pa c1 a2 c2 a3 c3 g2 g3 b c d e f=>exact ⟨pa,c1,a2,c2,a3,c3,rfl,b,c.Eu d,e.Eu f⟩
theorem Ge.i {μ:M}{l:List Value}{x:Ge}(h:∃ pa c1 a2 c2 a3 c3,l=[.int .i64 x.Kind,S x.Name,.int .i64 x.X.Kind,.int .i64 x.X.N,S x.X.Name,.slice pa x.X.Kids.length c1,.slice a2 x.Body.length c2,.slice a3 x.Dk.length c3]∧Ba μ pa c1 x.X.Kids∧Ba μ a2 c2 x.Body∧Ba μ a3 c3 x.Dk):Ha.cs μ l x:=by
  obtain ⟨pa,c1,a2,c2,a3,c3,rfl,c,a,b⟩:=h;obtain ⟨g2,a,d⟩:=Xl.of a;obtain ⟨g3,b,e⟩:=Xl.of b;exact Qm.mk x pa c1 a2 c2 a3 c3 g2 g3 c a d b e
structure Fc where
  Kind:Int
  Text:List UInt8
  WD:Int
  Ec:Int
  deriving DecidableEq,Inhabited,Repr
instance:Ha Fc where
  sz:=4
  pos:=by decide
  cs μ l x:=l=[.int .i64 x.Kind,S x.Text,.int .i64 x.WD,.int .i64 x.Ec]
  Dg h:=by obtain rfl:=h;rfl
  up le h:=by exact h
  pg h:=by obtain rfl:=h;rfl
structure Lf where
  mf:Int
  Ec:Int
  deriving DecidableEq,Inhabited,Repr
structure Xd where
  Kind:Int
  xf:List UInt8
  deriving DecidableEq,Inhabited,Repr
instance:Ha Xd where
  sz:=2
  pos:=by decide
  cs μ l x:=l=[.int .i64 x.Kind,S x.xf]
  Dg h:=by obtain rfl:=h;rfl
  up le h:=by exact h
  pg h:=by obtain rfl:=h;rfl
structure TParam where
  Name:List UInt8
  De:Xd
  deriving DecidableEq,Inhabited,Repr
instance:Ha TParam where
  sz:=3
  pos:=by decide
  cs μ l x:=l=[S x.Name,.int .i64 x.De.Kind,S x.De.xf]
  Dg h:=by obtain rfl:=h;rfl
  up le h:=by exact h
  pg h:=by obtain rfl:=h;rfl
structure Qc where
  Kind:Int
  Name:List UInt8
  De:Xd
  Yd:Xd
  Zf:Int
  Params:List TParam
  Body:List Ge
  deriving Inhabited,Repr
instance:Ha Qc where
  sz:=9
  pos:=by decide
  cs μ l x:=∃ pa c1 a2 c2,l=[.int .i64 x.Kind,S x.Name,.int .i64 x.De.Kind,S x.De.xf,.int .i64 x.Yd.Kind,S x.Yd.xf,.int .i64 x.Zf,.slice pa x.Params.length c1,.slice a2 x.Body.length c2]∧Ba μ pa c1 x.Params∧Ba μ a2 c2 x.Body
  Dg h:=by obtain ⟨pa,c1,a2,c2,rfl,m1,m2⟩:=h;rfl
  up le h:=by obtain ⟨pa,c1,a2,c2,rfl,m1,m2⟩:=h;exact ⟨pa,c1,a2,c2,rfl,m1.up le,m2.up le⟩
  pg h:=by obtain ⟨pa,c1,a2,c2,rfl,m1,m2⟩:=h;rfl
theorem Qc.i {μ:M}{l:List Value}{x:Qc}(h:∃ pa c1 a2 c2,l=[.int .i64 x.Kind,S x.Name,.int .i64 x.De.Kind,S x.De.xf,.int .i64 x.Yd.Kind,S x.Yd.xf,.int .i64 x.Zf,.slice pa x.Params.length c1,.slice a2 x.Body.length c2]∧Ba μ pa c1 x.Params∧Ba μ a2 c2 x.Body):Ha.cs μ l x:=h
structure dj where
  yi:List UInt8
  Writer:List UInt8
  Reader:List UInt8
  deriving DecidableEq,Inhabited,Repr
instance:Ha dj where
  sz:=3
  pos:=by decide
  cs μ l x:=l=[S x.yi,S x.Writer,S x.Reader]
  Dg h:=by obtain rfl:=h;rfl
  up le h:=by exact h
  pg h:=by obtain rfl:=h;rfl
instance:Rh Xd:=⟨pq,pq.up⟩
instance:Rh Qc:=⟨Yn,Yn.up⟩
structure vg where
  defs:List Qc
  named:List (List UInt8×Qc)
  deriving Inhabited,Repr
structure Bg where
  calls:List (List UInt8)
  Sm:List (List UInt8)
  Tm:List (List UInt8)
  deriving DecidableEq,Inhabited,Repr
instance:Ha Bg where
  sz:=3
  pos:=by decide
  cs μ l x:=∃ pa c1 a2 c2 a3 c3,l=[.slice pa x.calls.length c1,.slice a2 x.Sm.length c2,.slice a3 x.Tm.length c3]∧Ba μ pa c1 x.calls∧Ba μ a2 c2 x.Sm∧Ba μ a3 c3 x.Tm
  Dg h:=by obtain ⟨pa,c1,a2,c2,a3,c3,rfl,m1,m2,m3⟩:=h;rfl
  up le h:=by obtain ⟨pa,c1,a2,c2,a3,c3,rfl,m1,m2,m3⟩:=h;exact ⟨pa,c1,a2,c2,a3,c3,rfl,m1.up le,m2.up le,m3.up le⟩
  pg h:=by obtain ⟨pa,c1,a2,c2,a3,c3,rfl,m1,m2,m3⟩:=h;rfl
theorem Bg.i {μ:M}{l:List Value}{x:Bg}(h:∃ pa c1 a2 c2 a3 c3,l=[.slice pa x.calls.length c1,.slice a2 x.Sm.length c2,.slice a3 x.Tm.length c3]∧Ba μ pa c1 x.calls∧Ba μ a2 c2 x.Sm∧Ba μ a3 c3 x.Tm):Ha.cs μ l x:=h
structure Jh where
  Uz:List (List UInt8×Int)
  once:Bool
  deriving DecidableEq,Inhabited,Repr
instance:Ha Jh where
  sz:=2
  pos:=by decide
  cs μ l x:=∃ V,l=[.map (some V),.bool x.once]∧sk μ V x.Uz
  Dg h:=by obtain ⟨V,rfl,m1⟩:=h;rfl
  up le h:=by obtain ⟨V,rfl,m1⟩:=h;exact ⟨V,rfl,m1.up le⟩
  pg h:=by obtain ⟨V,rfl,m1⟩:=h;rfl
theorem Jh.i {μ:M}{l:List Value}{x:Jh}(h:∃ V,l=[.map (some V),.bool x.once]∧sk μ V x.Uz):Ha.cs μ l x:=h
instance:Rh Bg:=⟨pq,pq.up⟩
structure cp where
  De:Int
  Zf:Int
  deriving DecidableEq,Inhabited,Repr
instance:Ha cp where
  sz:=2
  pos:=by decide
  cs μ l x:=l=[.int .i64 x.De,.int .i64 x.Zf]
  Dg h:=by obtain rfl:=h;rfl
  up le h:=by exact h
  pg h:=by obtain rfl:=h;rfl
structure vd where
  Op:Int
  A:Int
  N:Int
  deriving DecidableEq,Inhabited,Repr
instance:Ha vd where
  sz:=3
  pos:=by decide
  cs μ l x:=l=[.int .i64 x.Op,.int .i64 x.A,.int .i64 x.N]
  Dg h:=by obtain rfl:=h;rfl
  up le h:=by exact h
  pg h:=by obtain rfl:=h;rfl
structure Tc where
  Kind:Int
  Params:Int
  Cc:List Int
  Result:Int
  Yd:Int
  Code:List vd
  deriving DecidableEq,Inhabited,Repr
instance:Ha Tc where
  sz:=6
  pos:=by decide
  cs μ l x:=∃ pa c1 a2 c2,l=[.int .i64 x.Kind,.int .i64 x.Params,.slice pa x.Cc.length c1,.int .i64 x.Result,.int .i64 x.Yd,.slice a2 x.Code.length c2]∧Ba μ pa c1 x.Cc∧Ba μ a2 c2 x.Code
  Dg h:=by obtain ⟨pa,c1,a2,c2,rfl,m1,m2⟩:=h;rfl
  up le h:=by obtain ⟨pa,c1,a2,c2,rfl,m1,m2⟩:=h;exact ⟨pa,c1,a2,c2,rfl,m1.up le,m2.up le⟩
  pg h:=by obtain ⟨pa,c1,a2,c2,rfl,m1,m2⟩:=h;rfl
theorem Tc.i {μ:M}{l:List Value}{x:Tc}(h:∃ pa c1 a2 c2,l=[.int .i64 x.Kind,.int .i64 x.Params,.slice pa x.Cc.length c1,.int .i64 x.Result,.int .i64 x.Yd,.slice a2 x.Code.length c2]∧Ba μ pa c1 x.Cc∧Ba μ a2 c2 x.Code):Ha.cs μ l x:=h
structure ub where
  uc:List cp
  lb:List Tc
  deriving DecidableEq,Inhabited,Repr
instance:Ha ub where
  sz:=2
  pos:=by decide
  cs μ l x:=∃ pa c1 a2 c2,l=[.slice pa x.uc.length c1,.slice a2 x.lb.length c2]∧Ba μ pa c1 x.uc∧Ba μ a2 c2 x.lb
  Dg h:=by obtain ⟨pa,c1,a2,c2,rfl,m1,m2⟩:=h;rfl
  up le h:=by obtain ⟨pa,c1,a2,c2,rfl,m1,m2⟩:=h;exact ⟨pa,c1,a2,c2,rfl,m1.up le,m2.up le⟩
  pg h:=by obtain ⟨pa,c1,a2,c2,rfl,m1,m2⟩:=h;rfl
theorem ub.i {μ:M}{l:List Value}{x:ub}(h:∃ pa c1 a2 c2,l=[.slice pa x.uc.length c1,.slice a2 x.lb.length c2]∧Ba μ pa c1 x.uc∧Ba μ a2 c2 x.lb):Ha.cs μ l x:=h
structure cg where
  mf:Int
  Unit:Int
  Ec:Int
  deriving DecidableEq,Inhabited,Repr
structure nd where
  stack:List Int
  has:List Bool
  deriving DecidableEq,Inhabited,Repr
structure ze where
  m:Option ub
  deriving DecidableEq,Inhabited,Repr
instance:Ha ze where
  sz:=1
  pos:=by decide
  cs μ l x:=∃ v1,l=[v1]∧Re μ v1 x.m
  Dg h:=by obtain ⟨v1,rfl,m1⟩:=h;rfl
  up le h:=by obtain ⟨v1,rfl,m1⟩:=h;exact ⟨v1,rfl,m1.up le⟩
  pg h:=by obtain ⟨v1,rfl,m1⟩:=h;simp [m1.xe]
theorem ze.i {μ:M}{l:List Value}{x:ze}(h:∃ v1,l=[v1]∧Re μ v1 x.m):Ha.cs μ l x:=h
end Go.Y
namespace Go.Y
def wg (n : Int) : Prop := -9223372036854775808 ≤ n ∧ n ≤ 9223372036854775807
def Bu (x : cp) : Prop := wg x.De ∧ wg x.Zf
def CA (x : vd) : Prop := wg x.Op ∧ wg x.A ∧ wg x.N
def DA (x : Tc) : Prop := wg x.Kind ∧ wg x.Params ∧ wg x.Result ∧ wg x.Yd ∧ (x.Cc.length ≤ 17592186044416 ∧ ∀ y ∈ x.Cc, wg y) ∧ x.Code.length ≤ 17592186044416 ∧ ∀ y ∈ x.Code, CA y
def Dx (m : ub) : Prop := (m.uc.length ≤ 17592186044416 ∧ ∀ y ∈ m.uc, Bu y) ∧ m.lb.length ≤ 17592186044416 ∧ ∀ y ∈ m.lb, DA y
end Go.Y
namespace Go.Y
open Go.yb Go.kc
def WL:List UInt8:=[32,98,111,120,32,102,110,32,103,101,110,32,116,97,115,107,32,116,97,107,101,115,32,121,105,101,108,100,115,32,108,101,116,32,105,102,32,101,108,115,101,32,119,104,105,108,101,32,114,101,116,117,114,110,32,115,116,111,112,32,115,101,110,100,32,111,117,116,32,100,111,32,114,101,99,118,32,121,105,101,108,100,32,115,116,97,114,116,32,114,101,115,117,109,101,32,97,108,105,118,101,32,110,117,109,32,98,111,111,108,32,116,114,117,101,32,102,97,108,115,101,32,97,110,100,32,111,114,32,110,111,116,32]
def Wq  (p_1:UInt8):Option Bool :=
  if (97:Int)≤(p_1.toNat:Int) then
    if (p_1.toNat:Int)≤122 then
      some true
    else
      some (decide ((p_1.toNat:Int)=95))
  else
    some (decide ((p_1.toNat:Int)=95))
def lr  (p_1:UInt8):Option Bool :=
  if (48:Int)≤(p_1.toNat:Int) then
    some (decide ((p_1.toNat:Int)≤57))
  else
    some false
def Wu (i13:Int) (a:Int→Option Int) (Hf:Bool):Option Int :=
  if Hf=true then
    (i64 (i13+1)).bind fun i33 =>
    a i33
  else
    some i13
def Dq (p_1:List UInt8) (p_2:UInt8→Option Bool):Nat→Int→Option Int
  | 0,_=>none
  | n+1,i13 =>
    if i13<(p_1.length:Int) then
      (at_ p_1 i13).bind fun a =>
      (p_2 a).bind fun b =>
      Wu i13 (Dq p_1 p_2 n) b
    else
      Wu i13 (Dq p_1 p_2 n) false
def qt (fu:Nat)  (p_1:List UInt8) (p_2:UInt8→Option Bool):Option Int :=
  Dq p_1 p_2 fu 0
def Vz  (p_1:UInt8):Option Bool :=
  (Wq p_1).bind fun a =>
  if a=true then
    some true
  else
    (lr p_1).bind fun b =>
    some b
def Wz  (p_1:UInt8):Option Bool :=
  (Wq p_1).bind fun a =>
  if a=true then
    some true
  else
    (lr p_1).bind fun b =>
    some b
def yq (fu:Nat) (p_1:List UInt8) (V:Bool):Option Bool :=
  if V=true then
    some false
  else
    (qt fu p_1 Wz).bind fun a =>
    some (decide (a=(p_1.length:Int)))
def Xq (fu:Nat)  (p_1:List UInt8):Option Bool :=
  if (p_1.length:Int)<1 then
    yq fu p_1 true
  else
    if (12:Int)<(p_1.length:Int) then
      yq fu p_1 true
    else
      (at_ p_1 0).bind fun a =>
      (Wq a).bind fun b =>
      if b=true then
        (cat [32] p_1).bind fun c =>
        (cat c [32]).bind fun d =>
        (Tz WL d).bind fun e =>
        yq fu p_1 e
      else
        yq fu p_1 true
def yz  (p_1:List UInt8) (p_2:List UInt8):Option Bool :=
  if (p_2.length:Int)≤(p_1.length:Int) then
    (cut p_1 0 (p_2.length:Int)).bind fun s2 =>
    some (decide (s2=p_2))
  else
    some false
def Xz  (p_1:List UInt8) (p_2:List UInt8):Option Bool :=
  (yz p_1 p_2).bind fun a =>
  some a
def qv (p_1:List UInt8):Nat→Int→Option (List UInt8)
  | 0,_=>none
  | n+1,i18 =>
    if i18<18 then
      (at_ [[61,61],[33,61],[60,61],[62,61],[60],[62],[61],[43],[45],[42],[47],[37],[40],[41],[123],[125],[44],[59]] i18).bind fun a =>
      (Xz p_1 a).bind fun b =>
      if b=true then
        some a
      else
        (i64 (i18+1)).bind fun i46 =>
        qv p_1 n i46
    else
      none
def iz  (p_1:List UInt8):Option (List UInt8):=
  qv p_1 19 0
def Xu (i6:Int) (a:UInt8) (b:Int→Option Int) (c:Bool):Option Int :=
  if c=true then
    (i64 (i6+1)).bind fun i21 =>
    b i21
  else
    if (a.toNat:Int)=35 then
      none
    else
      some i6
def Fq (p_1:List UInt8):Nat→Int→Option Int
  | 0,_=>none
  | n+1,i6 =>
    if i6<(p_1.length:Int) then
      (at_ p_1 i6).bind fun a =>
      if (a.toNat:Int)=32 then
        Xu i6 a (Fq p_1 n) (decide ((a.toNat:Int)=32))
      else
        if (a.toNat:Int)=9 then
          none
        else
          Xu i6 a (Fq p_1 n) (decide ((a.toNat:Int)=10))
    else
      some i6
def Vv (fu:Nat)  (p_1:List UInt8):Option Int :=
  Fq p_1 fu 0
def Fs (fu:Nat) (p_1:List UInt8) (i58:Int) (b:List Fc) (c:Int→(List Fc)→Option (List Fc×Lf)) (i118:Int) (a:List UInt8) (i120:Int):Option (List Fc×Lf):=
  (app b [(Fc.mk i118 a i120 i58)]).bind fun d =>
  (i64 (i58+(a.length:Int))).bind fun i154 =>
  (cut p_1 i154 p_1.length).bind fun e =>
  (Vv fu e).bind fun f =>
  (i64 (i154+f)).bind fun i161 =>
  c i161 d
def gp (fu:Nat) (p_1:List UInt8):Nat→Int→(List Fc)→Option (List Fc×Lf)
  | 0,_,_=>none
  | n+1,i58,b =>
    if i58<(p_1.length:Int) then
      (cut p_1 i58 p_1.length).bind fun a =>
      (at_ a 0).bind fun d =>
      (Wq d).bind fun f =>
      if f=true then
        (qt fu a Vz).bind fun g =>
        (cut a 0 g).bind fun h =>
        Fs fu p_1 i58 b (gp fu p_1 n) 1 h 0
      else
        (lr d).bind fun i =>
        if i=true then
          (qt fu a lr).bind fun j =>
          (cut a 0 j).bind fun c =>
          if (15:Int)<(c.length:Int) then
            none
          else
            (rA c).bind fun i140 =>
            Fs fu p_1 i58 b (gp fu p_1 n) 2 c i140
        else
          (iz a).bind fun e =>
          if e=[] then
            none
          else
            Fs fu p_1 i58 b (gp fu p_1 n) 3 e 0
    else
      some (b,(Lf.mk 0 0))
def ny (fu:Nat)  (p_1:List UInt8):Option (List Fc×Lf):=
  if (6000:Int)<(p_1.length:Int) then
    none
  else
    (Vv fu p_1).bind fun a =>
    gp fu p_1 fu a []
end Go.Y
namespace Go.Y
open Go.yb Go.kc
def Yu  (V:Bool):Option Int :=
  if V=true then
    some 0
  else
    none
def Qy  (p_1:Int):Option Int :=
  if p_1≤3 then
    Yu true
  else
    Yu (decide (p_1=20))
def tt  (a:Int) (p_2:Int):Option (Int×Int):=
  (i64 (a+1)).bind fun i3 =>
  if (2000:Int)<i3 then
    none
  else
    if (40:Int)<p_2 then
      none
    else
      some (0,i3)
def jz  (p_1:Xd):Option Int :=
  if p_1.Kind<1 then
    none
  else
    if (3:Int)<p_1.Kind then
      none
    else
      if p_1.Kind=3 then
        none
      else
        some 0
structure Bw where
  xo:Int→hf→Int→Option (Int×Int)
def cy (p_2:hf) (a:Int×Int):Nat→Option (Int×Int)
  | 0=>none
  | n+1 =>
    if (0:Int)<(p_2.Kids.length:Int) then
      none
    else
      some (0,a.2)
def Zu (p_2:hf) (b:Int×Int) (a:Int) (Hf:Bool):Option (Int×Int):=
  if Hf=true then
    none
  else
    if (0:Int)≤a then
      if (p_2.Kids.length:Int)≠a then
        none
      else
        if a<0 then
          none
        else
          cy p_2 b (p_2.Kids.length+1)
    else
      none
def av (fu:Nat) (p_2:hf) (b:Int×Int) (a:Int) (Ig:Bool):Option (Int×Int):=
  if Ig=true then
    none
  else
    if p_2.Kind=2 then
      none
    else
      if p_2.Kind=3 then
        none
      else
        if p_2.Kind=20 then
          (Xq fu p_2.Name).bind fun c =>
          Zu p_2 b a (!c)
        else
          if a<0 then
            none
          else
            Zu p_2 b a false
def xo (fu:Nat) (self:Bw) (c:Int) (p_2:hf) (d:Int):Option (Int×Int):=
  (tt c d).bind fun a =>
  if a.1≠0 then
    none
  else
    if p_2.Kind<1 then
      none
    else
      if (24:Int)<p_2.Kind then
        none
      else
        (Qy p_2.Kind).bind fun b =>
        if p_2.Kind=1 then
          if p_2.N<0 then
            none
          else
            av fu p_2 a b (decide ((999999999999999:Int)<p_2.N))
        else
          av fu p_2 a b false
def dy:Nat→Bw
  | 0=>⟨fun _ _ _=>none⟩
  | n+1=>⟨xo n (dy n)⟩
structure Mp where
  uo:Int→(List Ge)→Int→Option (Int×Int)
  yo:Int→Ge→Int→Option (Int×Int)
def Su (self:Mp) (p_2:List Ge) (a:Int):Nat→Int→Int→Option (Int×Int)
  | 0,_,_=>none
  | n+1,i29,i30 =>
    if i29<(p_2.length:Int) then
      (at_ p_2 i29).bind fun c =>
      (self.yo i30 c a).bind fun b =>
      if b.1≠0 then
        none
      else
        (i64 (i29+1)).bind fun i76 =>
        Su self p_2 a n i76 b.2
    else
      some (0,i30)
def uo (self:Mp) (a:Int) (p_2:List Ge) (b:Int):Option (Int×Int):=
  if (50:Int)<(p_2.length:Int) then
    none
  else
    Su self p_2 b (p_2.length+1) 0 a
def cv (fu:Nat) (p_2:Ge) (b:Int) (c:Int×Int) (xi:Bool):Option (Int×Int):=
  if xi=true then
    none
  else
    if p_2.Kind=6 then
      none
    else
      (i64 (b+1)).bind fun i31 =>
      ((dy fu).xo c.2 p_2.X i31).bind fun a =>
      if a.1≠0 then
        none
      else
        if p_2.Kind=3 then
          none
        else
          if p_2.Kind=4 then
            none
          else
            if p_2.Kind=3 then
              none
            else
              some (0,a.2)
def yo (fu:Nat) (self:Mp) (c:Int) (p_2:Ge) (a:Int):Option (Int×Int):=
  (tt c a).bind fun b =>
  if b.1≠0 then
    none
  else
    if p_2.Kind<1 then
      none
    else
      if (9:Int)<p_2.Kind then
        none
      else
        if p_2.Kind=1 then
          none
        else
          if p_2.Kind=2 then
            none
          else
            if p_2.Kind=7 then
              (Xq fu p_2.Name).bind fun d =>
              cv fu p_2 a b (!d)
            else
              cv fu p_2 a b false
def dv:Nat→Mp
  | 0=>⟨fun _ _ _=>none,fun _ _ _=>none⟩
  | n+1=>⟨uo (dv n),yo n (dv n)⟩
def rv (fu:Nat) (p_2:Qc) (a:Int×Int):Option (Int×Int):=
  if p_2.Kind≠1 then
    ((dv fu).uo a.2 p_2.Body 2).bind fun b =>
    some (b.1,b.2)
  else
    if p_2.Zf<1 then
      none
    else
      if (20:Int)<p_2.Zf then
        none
      else
        some (0,a.2)
def kz (fu:Nat)  (b:Int) (p_2:Qc):Option (Int×Int):=
  (tt b 1).bind fun a =>
  if a.1≠0 then
    none
  else
    if p_2.Kind<1 then
      none
    else
      if (4:Int)<p_2.Kind then
        none
      else
        (Xq fu p_2.Name).bind fun c =>
        if c=true then
          if p_2.Kind=2 then
            none
          else
            if p_2.Kind=3 then
              none
            else
              if p_2.Kind=3 then
                none
              else
                if p_2.Kind≠4 then
                  (jz p_2.De).bind fun d =>
                  if d≠0 then
                    none
                  else
                    rv fu p_2 a
                else
                  rv fu p_2 a
        else
          none
def Tu (fu:Nat) (p_1:List Qc):Nat→Int→Int→Option Lf
  | 0,_,_=>none
  | n+1,i28,i29 =>
    if i28<(p_1.length:Int) then
      (at_ p_1 i28).bind fun b =>
      (kz fu i29 b).bind fun a =>
      if a.1≠0 then
        none
      else
        (i64 (i28+1)).bind fun i69 =>
        Tu fu p_1 n i69 a.2
    else
      some (Lf.mk 0 0)
def Cv (fu:Nat)  (p_1:List Qc):Option Lf :=
  if (30:Int)<(p_1.length:Int) then
    none
  else
    Tu fu p_1 (p_1.length+1) 0 0
end Go.Y
namespace Go.Y
open Go.yb Go.kc
def nx  (a:List Fc) (c:Int) (d:Int):Option Int :=
  if (a.length:Int)=0 then
    none
  else
    (at_ a 0).bind fun b =>
    some b.Ec
def zn  (a:List Fc) (c:Int) (d:Int) (p_2:List UInt8):Option Bool :=
  if (0:Int)<(a.length:Int) then
    (at_ a 0).bind fun b =>
    some (decide (b.Text=p_2))
  else
    none
def ih  (a:List Fc) (b:Int) (c:Int) (p_2:List UInt8):Option (Bool×List Fc×Int×Int):=
  (zn a b c p_2).bind fun d =>
  if d=true then
    (cut a 1 a.length).bind fun e =>
    some (true,e,b,c)
  else
    some (false,a,b,c)
def Dv (p_2:List (List UInt8)):Nat→Int→(List Fc)→Int→Int→Option (List Fc×Int×Int)
  | 0,_,_,_,_=>none
  | n+1,i30,b,i35,i36 =>
    if i30<(p_2.length:Int) then
      (at_ p_2 i30).bind fun c =>
      (ih b i35 i36 c).bind fun a =>
      if a.1=true then
        (i64 (i30+1)).bind fun i71 =>
        Dv p_2 n i71 a.2.1 a.2.2.1 a.2.2.2
      else
        none
    else
      some (b,i35,i36)
def Tp  (a:List Fc) (b:Int) (c:Int) (p_2:List (List UInt8)):Option (List Fc×Int×Int):=
  Dv p_2 (p_2.length+1) 0 a b c
def Er (fu:Nat)  (a:List Fc) (c:Int) (d:Int):Option (List UInt8×List Fc×Int×Int):=
  if (a.length:Int)=0 then
    none
  else
    (at_ a 0).bind fun e =>
    if e.Kind≠1 then
      none
    else
      (at_ a 0).bind fun b =>
      (Xq fu b.Text).bind fun f =>
      if f=true then
        (cut a 1 a.length).bind fun g =>
        some (b.Text,g,c,d)
      else
        none
def Wv  (a:List Fc) (b:Int) (c:Int):Option (Int×List Fc×Int×Int):=
  if (a.length:Int)=0 then
    none
  else
    (at_ a 0).bind fun d =>
    if d.Kind≠2 then
      none
    else
      (at_ a 0).bind fun e =>
      (cut a 1 a.length).bind fun f =>
      some (e.WD,f,b,c)
def Yz  (b:List Fc) (c:Int) (d:Int):Option (Xd×List Fc×Int×Int):=
  (ih b c d [110,117,109]).bind fun a =>
  if a.1=true then
    some ((Xd.mk 1 []),a.2.1,a.2.2.1,a.2.2.2)
  else
    none
def Ry  :Option (List Jh):=
  some [(Jh.mk (qe ([]:List (List UInt8×Int)) [111,114] 18) false),(Jh.mk (qe ([]:List (List UInt8×Int)) [97,110,100] 17) false),(Jh.mk (qe (qe (qe (qe (qe (qe ([]:List (List UInt8×Int)) [61,61] 11) [33,61] 12) [60] 13) [60,61] 14) [62] 15) [62,61] 16) true),(Jh.mk (qe (qe ([]:List (List UInt8×Int)) [43] 6) [45] 7) false),(Jh.mk (qe (qe (qe ([]:List (List UInt8×Int)) [42] 8) [47] 9) [37] 10) false)]
def Lw  (a:List Fc) (b:Int) (c:Int):Option (List Fc×Int×Int):=
  (i64 (c+1)).bind fun i14 =>
  if (200:Int)<i14 then
    none
  else
    some (a,b,i14)
def dx  (a:List Fc) (b:Int) (c:Int):Option (List Fc×Int×Int):=
  (i64 (c - 1)).bind fun i12 =>
  some (a,b,i12)
end Go.Y
namespace Go.Y
open Go.yb Go.kc
structure Ym where
  Rm:(List Fc)→Int→Int→Option (hf×List Fc×Int×Int)
  Mm:(List Fc)→Int→Int→Int→Option (hf×List Fc×Int×Int)
  Bo:(List Fc)→Int→Int→Option (hf×List Fc×Int×Int)
  pn:(List Fc)→Int→Int→Option (hf×List Fc×Int×Int)
def Rm (self:Ym) (d:List Fc) (e:Int) (f:Int):Option (hf×List Fc×Int×Int):=
  (Lw d e f).bind fun b =>
  (self.Mm b.1 b.2.1 b.2.2 0).bind fun a =>
  (dx a.2.1 a.2.2.1 a.2.2.2).bind fun c =>
  some (a.1,c.1,c.2.1,c.2.2)
def oy (p_2:Int) (b:List Jh) (a:hf×List Fc×Int×Int):Nat→Option (hf×List Fc×Int×Int)
  | 0=>none
  | n+1 =>
    if (0:Int)<(a.2.1.length:Int) then
      (at_ b p_2).bind fun c =>
      (at_ a.2.1 0).bind fun d =>
      if ((Nc c.Uz d.Text).getD 0)=0 then
        some (a.1,a.2.1,a.2.2.1,a.2.2.2)
      else
        none
    else
      none
def Mm (fu:Nat) (self:Ym) (b:List Fc) (c:Int) (d:Int) (p_2:Int):Option (hf×List Fc×Int×Int):=
  (Ry ).bind fun e =>
  if p_2=(e.length:Int) then
    (self.Bo b c d).bind fun a =>
    some (a.1,a.2.1,a.2.2.1,a.2.2.2)
  else
    (i64 (p_2+1)).bind fun i33 =>
    (self.Mm b c d i33).bind fun f =>
    oy p_2 e f fu
def Bo (self:Ym) (d:List Fc) (e:Int) (f:Int):Option (hf×List Fc×Int×Int):=
  (ih d e f [45]).bind fun a =>
  if a.1=true then
    none
  else
    (ih a.2.1 a.2.2.1 a.2.2.2 [110,111,116]).bind fun b =>
    if b.1=true then
      none
    else
      (self.pn b.2.1 b.2.2.1 b.2.2.2).bind fun c =>
      some (c.1,c.2.1,c.2.2.1,c.2.2.2)
def pn (fu:Nat) (self:Ym) (a:List Fc) (j:Int) (k:Int):Option (hf×List Fc×Int×Int):=
  if (0:Int)<(a.length:Int) then
    (at_ a 0).bind fun l =>
    if l.Kind=2 then
      (Wv a j k).bind fun b =>
      some ((hf.mk 1 b.1 [] ([]:List hf)),b.2.1,b.2.2.1,b.2.2.2)
    else
      (ih a j k [116,114,117,101]).bind fun c =>
      if c.1=true then
        none
      else
        (ih c.2.1 c.2.2.1 c.2.2.2 [102,97,108,115,101]).bind fun d =>
        if d.1=true then
          none
        else
          (ih d.2.1 d.2.2.1 d.2.2.2 [40]).bind fun e =>
          if e.1=true then
            none
          else
            (ih e.2.1 e.2.2.1 e.2.2.2 [114,101,99,118]).bind fun f =>
            if f.1=true then
              (Tp f.2.1 f.2.2.1 f.2.2.2 [[40]]).bind fun h =>
              (Er fu h.1 h.2.1 h.2.2).bind fun g =>
              (Tp g.2.1 g.2.2.1 g.2.2.2 [[41]]).bind fun i =>
              some ((hf.mk 20 0 g.1 ([]:List hf)),i.1,i.2.1,i.2.2)
            else
              none
  else
    none
def Ip:Nat→Ym
  | 0=>⟨fun _ _ _=>none,fun _ _ _ _=>none,fun _ _ _=>none,fun _ _ _=>none⟩
  | n+1=>⟨Rm (Ip n),Mm n (Ip n),Bo (Ip n),pn n (Ip n)⟩
structure dq where
  Jo:(List Fc)→Int→Int→Option (List Ge×List Fc×Int×Int)
  Ko:(List Fc)→Int→Int→Option (Ge×List Fc×Int×Int)
def Ev (self:dq):Nat→(List Fc)→Int→Int→(List Ge)→Option (List Ge×List Fc×Int×Int)
  | 0,_,_,_,_=>none
  | n+1,e,i65,i66,c =>
    (ih e i65 i66 [125]).bind fun a =>
    if a.1=true then
      (dx a.2.1 a.2.2.1 a.2.2.2).bind fun d =>
      some (c,d.1,d.2.1,d.2.2)
    else
      if (c.length:Int)=50 then
        none
      else
        (self.Ko a.2.1 a.2.2.1 a.2.2.2).bind fun b =>
        (app c [b.1]).bind fun f =>
        Ev self n b.2.1 b.2.2.1 b.2.2.2 f
def Jo (fu:Nat) (self:dq) (c:List Fc) (d:Int) (e:Int):Option (List Ge×List Fc×Int×Int):=
  (Lw c d e).bind fun a =>
  (Tp a.1 a.2.1 a.2.2 [[123]]).bind fun b =>
  Ev self fu b.1 b.2.1 b.2.2 []
def Fv  (b:List Fc) (i28:Int) (i29:Int) (i30:Int) (c:List UInt8) (i33:Int) (i34:Int) (d:List UInt8) (e:List hf):Option (Ge×List Fc×Int×Int):=
  (Tp b i28 i29 [[59]]).bind fun a =>
  some ((Ge.mk i30 c (hf.mk i33 i34 d e) ([]:List Ge) ([]:List Ge)),a.1,a.2.1,a.2.2)
def Ko (fu:Nat) (self:dq) (k:List Fc) (l:Int) (m:Int):Option (Ge×List Fc×Int×Int):=
  (ih k l m [105,102]).bind fun d =>
  if d.1=true then
    none
  else
    (ih d.2.1 d.2.2.1 d.2.2.2 [119,104,105,108,101]).bind fun e =>
    if e.1=true then
      none
    else
      (ih e.2.1 e.2.2.1 e.2.2.2 [108,101,116]).bind fun f =>
      if f.1=true then
        none
      else
        (ih f.2.1 f.2.2.1 f.2.2.2 [114,101,116,117,114,110]).bind fun g =>
        if g.1=true then
          none
        else
          (ih g.2.1 g.2.2.1 g.2.2.2 [115,116,111,112]).bind fun h =>
          if h.1=true then
            none
          else
            (ih h.2.1 h.2.2.1 h.2.2.2 [115,101,110,100]).bind fun a =>
            if a.1=true then
              (Er fu a.2.1 a.2.2.1 a.2.2.2).bind fun i =>
              ((Ip fu).Rm i.2.1 i.2.2.1 i.2.2.2).bind fun b =>
              Fv b.2.1 b.2.2.1 b.2.2.2 7 i.1 b.1.Kind b.1.N b.1.Name b.1.Kids
            else
              (ih a.2.1 a.2.2.1 a.2.2.2 [111,117,116]).bind fun j =>
              if j.1=true then
                ((Ip fu).Rm j.2.1 j.2.2.1 j.2.2.2).bind fun c =>
                Fv c.2.1 c.2.2.1 c.2.2.2 8 [] c.1.Kind c.1.N c.1.Name c.1.Kids
              else
                none
def Xv:Nat→dq
  | 0=>⟨fun _ _ _=>none,fun _ _ _=>none⟩
  | n+1=>⟨Jo n (Xv n),Ko n (Xv n)⟩
def Zz (fu:Nat)  (k:List Fc) (l:Int) (m:Int):Option (Qc×List Fc×Int×Int):=
  (nx k l m).bind fun n =>
  (ih k l m [98,111,120]).bind fun b =>
  if b.1=true then
    (Er fu b.2.1 b.2.2.1 b.2.2.2).bind fun d =>
    (Yz d.2.1 d.2.2.1 d.2.2.2).bind fun a =>
    (nx a.2.1 a.2.2.1 a.2.2.2).bind fun o =>
    (Wv a.2.1 a.2.2.1 a.2.2.2).bind fun c =>
    if c.1<1 then
      none
    else
      if (20:Int)<c.1 then
        none
      else
        (Tp c.2.1 c.2.2.1 c.2.2.2 [[59]]).bind fun j =>
        some ((Qc.mk 1 d.1 (Xd.mk a.1.Kind a.1.xf) (Xd.mk 0 []) c.1 ([]:List TParam) ([]:List Ge)),j.1,j.2.1,j.2.2)
  else
    (ih b.2.1 b.2.2.1 b.2.2.2 [102,110]).bind fun e =>
    if e.1=true then
      none
    else
      (ih e.2.1 e.2.2.1 e.2.2.2 [103,101,110]).bind fun f =>
      if f.1=true then
        none
      else
        (ih f.2.1 f.2.2.1 f.2.2.2 [116,97,115,107]).bind fun g =>
        if g.1=true then
          (Er fu g.2.1 g.2.2.1 g.2.2.2).bind fun h =>
          ((Xv fu).Jo h.2.1 h.2.2.1 h.2.2.2).bind fun i =>
          some ((Qc.mk 4 h.1 (Xd.mk 0 []) (Xd.mk 0 []) 0 ([]:List TParam) i.1),i.2.1,i.2.2.1,i.2.2.2)
        else
          none
end Go.Y
namespace Go.Y
open Go.yb Go.kc
theorem TH {α:Type}{l:List Fc}{e d:Int}{k1 b:List UInt8}(m:¬ k1=b){A B C:Bool×List Fc×Int×Int→Option α}{r:α}
    (h:(Option.bind (ih l e d k1) fun x=>if x.1=true then A x else Option.bind (ih x.2.1 x.2.2.1 x.2.2.2 b) fun y=>if y.1=true then B y else C y)=some r) :
    (Option.bind (ih l e d b) fun y=>if y.1=true then B y else Option.bind (ih y.2.1 y.2.2.1 y.2.2.2 k1) fun x=>if x.1=true then A x else C x)=some r:=by
  have key:∀ k,(zn l e d k=some false∧ih l e d k=some (false,l,e,d))∨(∃ t a,l=t::a∧t.Text=k∧ih l e d k=some (true,a,e,d)):=by
    intro k;cases l with
    | nil=>first | (left; simp [zn,ih]; done) | (exfalso; simp [zn,ih] at h)
    | cons t a =>
      by_cases c:t.Text=k
      · right;refine ⟨t,a,rfl,c,?_⟩;have f:(0:Int)<((a.length+1:Nat):Int):=by omega
        have n:(1:Int)≤((a.length+1:Nat):Int):=by omega
        have hc:cut (t::a) 1 ((t::a).length)=some a:=by
          unfold cut;rw [if_pos ⟨by omega,by simpa using n,by simp⟩];simp
        have hs:zn (t::a) e d k=some true:=by
          unfold zn;rw [if_pos (by simp)];simp [at_,c]
        unfold ih;rw [hs,Option.bind_some];simp only [if_true];rw [hc];rfl
      · left;have f:(0:Int)<((a.length+1:Nat):Int):=by omega
        simp [ih,zn,at_,c,f]
  rcases key k1 with ⟨s1,i1⟩ | ⟨t,a,g,i,i1⟩
  · rw [i1,Option.bind_some] at h;simp only [Bool.false_eq_true,if_false] at h;rcases key b with ⟨s2,i2⟩ | ⟨t,a,g,i,i2⟩
    · rw [i2,Option.bind_some] at h ⊢;simp only [Bool.false_eq_true,if_false] at h ⊢;rw [i1,Option.bind_some];simpa using h
    · rw [i2,Option.bind_some] at h ⊢;simp only [if_true] at h ⊢;exact h
  · rw [i1,Option.bind_some] at h;simp only [if_true] at h;rcases key b with ⟨s2,i2⟩ | ⟨t2,p,j,o,i2⟩
    · rw [i2,Option.bind_some];simp only [Bool.false_eq_true,if_false];rw [i1,Option.bind_some];simpa using h
    · rw [g] at j;obtain ⟨rfl,rfl⟩:=List.cons.inj j;exact absurd (i.symm.trans o) m
end Go.Y
namespace Go.Y
open Go.yb Go.kc
def RC:Option Unit:=some ()
def ey (a:(List Fc)→Int→Int→(List Qc)→Option (List Qc×Lf)) (b:List Fc) (i75:Int) (i76:Int) (c:List Qc):Option (List Qc×Lf):=
  a b i75 i76 c
def fy (a:List Fc×Lf) (b:List Qc):Option (List Qc×Lf):=
  (RC ).bind fun c =>
  some (b,a.2)
def Hs (fu:Nat) (c:List Fc×Lf):Nat→(List Fc)→Int→Int→(List Qc)→Option (List Qc×Lf)
  | 0,_,_,_,_=>none
  | n+1,d,i41,i42,a =>
    if (0:Int)<(d.length:Int) then
      if (a.length:Int)=30 then
        none
      else
        (Zz fu d i41 i42).bind fun b =>
        (app a [b.1]).bind fun e =>
        ey (Hs fu c n) b.2.1 b.2.2.1 b.2.2.2 e
    else
      (Cv fu a).bind fun f =>
      if f.mf≠0 then
        none
      else
        fy c a
def Sy (fu:Nat)  (p_1:List UInt8):Option (List Qc×Lf):=
  (ny fu p_1).bind fun a =>
  if a.2.mf≠0 then
    none
  else
    Hs fu a fu a.1 (p_1.length:Int) 0 []
end Go.Y
namespace Go.Y
open Go.yb Go.kc
def Ps  (p_1:Xd):Option Bool :=
  some (decide (p_1.Kind≠3))
def Gv  (p_1:vg) (p_2:Int) (a:List UInt8):Option (Option Qc×Bool):=
  if (Nc p_1.named a).isSome=true then
    ((Nc p_1.named a)).bind fun b =>
    some ((Nc p_1.named a),decide (b.Kind=p_2))
  else
    none
def Hv  (p_1:Xd):Option Xd :=
  (Ps p_1).bind fun a =>
  if a=true then
    some (Xd.mk p_1.Kind [])
  else
    none
def Ty  :Option Xd :=
  some (Xd.mk 1 [])
structure Rr where
  ko:vg→Qc→(List (List (List UInt8×Xd)))→hf→Xd→Option Int
  Hm:vg→Qc→(List (List (List UInt8×Xd)))→hf→Option (Xd×Int)
def ko (self:Rr) (c:vg) (d:Qc) (e:List (List (List UInt8×Xd))) (p_2:hf) (f:Xd):Option Int :=
  (self.Hm c d e p_2).bind fun a =>
  if a.2=0 then
    (Hv f).bind fun b =>
    if (Wm [(decide (a.1.Kind=b.Kind)),(decide (a.1.xf=b.xf))])=true then
      some a.2
    else
      none
  else
    none
def Hm (self:Rr) (b:vg) (f:Qc) (g:List (List (List UInt8×Xd))) (p_2:hf):Option (Xd×Int):=
  if p_2.Kind=1 then
    (Ty ).bind fun c =>
    some (c,0)
  else
    if p_2.Kind=2 then
      none
    else
      if p_2.Kind=3 then
        none
      else
        if p_2.Kind=4 then
          none
        else
          if p_2.Kind=5 then
            none
          else
            if p_2.Kind=11 then
              none
            else
              if p_2.Kind=12 then
                none
              else
                if p_2.Kind=19 then
                  none
                else
                  if p_2.Kind=20 then
                    (Gv b 1 p_2.Name).bind fun a =>
                    if a.2=true then
                      (a.1).bind fun d =>
                      (Hv d.De).bind fun e =>
                      some (e,0)
                    else
                      none
                  else
                    none
def bt:Nat→Rr
  | 0=>⟨fun _ _ _ _ _=>none,fun _ _ _ _=>none⟩
  | n+1=>⟨ko (bt n),Hm (bt n)⟩
end Go.Y
namespace Go.Y
open Go.yb Go.kc
def gy  (a:List (List (List UInt8×Xd))):Option (List (List (List UInt8×Xd))):=
  some a
def Uy  (c:vg) (d:Qc) (a:List (List (List UInt8×Xd))):Option (List (List (List UInt8×Xd))):=
  (i64 ((a.length:Int) - 1)).bind fun i33 =>
  (cut a 0 i33).bind fun b =>
  gy b
structure Oo where
  lo:vg→Qc→(List (List (List UInt8×Xd)))→(List Ge)→Option (Int×List (List (List UInt8×Xd)))
  vo:vg→Qc→(List (List (List UInt8×Xd)))→Ge→Option (Int×List (List (List UInt8×Xd)))
def Ku (self:Oo) (p_2:List Ge) (a:vg) (b:Qc):Nat→Int→(List (List (List UInt8×Xd)))→Option (Int×List (List (List UInt8×Xd)))
  | 0,_,_=>none
  | n+1,i74,c =>
    if i74<(p_2.length:Int) then
      (at_ p_2 i74).bind fun e =>
      (self.vo a b c e).bind fun d =>
      if d.1≠0 then
        none
      else
        (i64 (i74+1)).bind fun i131 =>
        Ku self p_2 a b n i131 d.2
    else
      (Uy a b c).bind fun f =>
      some (0,f)
def Qx (self:Oo) (p_2:List Ge) (a:vg) (b:Qc) (c:List (List (List UInt8×Xd))):Option (Int×List (List (List UInt8×Xd))):=
  Ku self p_2 a b (p_2.length+1) 0 c
def lo (self:Oo) (a:vg) (b:Qc) (c:List (List (List UInt8×Xd))) (p_2:List Ge):Option (Int×List (List (List UInt8×Xd))):=
  (app c [[]]).bind fun d =>
  Qx self p_2 a b d
def vo (fu:Nat) (self:Oo) (b:vg) (d:Qc) (a:List (List (List UInt8×Xd))) (p_2:Ge):Option (Int×List (List (List UInt8×Xd))):=
  if p_2.Kind=1 then
    none
  else
    if p_2.Kind=2 then
      none
    else
      if p_2.Kind=3 then
        none
      else
        if p_2.Kind=4 then
          none
        else
          if p_2.Kind=5 then
            none
          else
            if p_2.Kind=6 then
              none
            else
              if p_2.Kind=7 then
                (Gv b 1 p_2.Name).bind fun e =>
                if e.2=true then
                  (e.1).bind fun f =>
                  ((bt fu).ko b d a p_2.X f.De).bind fun g =>
                  some (g,a)
                else
                  none
              else
                if p_2.Kind=8 then
                  ((bt fu).Hm b d a p_2.X).bind fun c =>
                  if c.2=0 then
                    (Ps c.1).bind fun h =>
                    if h=true then
                      some (c.2,a)
                    else
                      none
                  else
                    none
                else
                  none
def Iv:Nat→Oo
  | 0=>⟨fun _ _ _ _=>none,fun _ _ _ _=>none⟩
  | n+1=>⟨lo (Iv n),vo n (Iv n)⟩
def Uu  (a:Bool):Option Int :=
  if a=true then
    none
  else
    some 0
def Ay  (p_1:vg) (p_2:Qc):Option Int :=
  if p_2.Kind=2 then
    none
  else
    if p_2.Kind=3 then
      none
    else
      if p_2.Kind=3 then
        none
      else
        if p_2.Kind≠4 then
          (Ps p_2.De).bind fun a =>
          Uu (!a)
        else
          Uu false
def By (fu:Nat)  (p_1:vg) (p_2:Qc):Option Int :=
  if p_2.Kind=1 then
    some 0
  else
    if p_2.Kind≠4 then
      none
    else
      ((Iv fu).lo p_1 p_2 [([]:List (List UInt8×Xd))] p_2.Body).bind fun a =>
      some a.1
def Lu (fu:Nat) (p_1:List Qc) (a:List (List UInt8×Qc)):Nat→Int→Option (vg×Lf)
  | 0,_=>none
  | n+1,i317 =>
    if i317<(p_1.length:Int) then
      (at_ p_1 i317).bind fun b =>
      (By fu (vg.mk p_1 a) b).bind fun c =>
      if c≠0 then
        none
      else
        (i64 (i317+1)).bind fun d =>
        Lu fu p_1 a n d
    else
      some ((vg.mk p_1 a),(Lf.mk 0 0))
def Mu (fu:Nat) (p_1:List Qc) (a:List (List UInt8×Qc)):Nat→Int→Option (vg×Lf)
  | 0,_=>none
  | n+1,i258 =>
    if i258<(p_1.length:Int) then
      (at_ p_1 i258).bind fun b =>
      (Ay (vg.mk p_1 a) b).bind fun c =>
      if c≠0 then
        none
      else
        (i64 (i258+1)).bind fun i298 =>
        Mu fu p_1 a n i298
    else
      Lu fu p_1 a (p_1.length+1) 0
def Gs (fu:Nat) (p_1:List Qc):Nat→Int→Int→(List (List UInt8×Qc))→Option (vg×Lf)
  | 0,_,_,_=>none
  | n+1,i90,i91,a =>
    if i91<(p_1.length:Int) then
      (at_ p_1 i91).bind fun d =>
      if (Nc a d.Name).isSome=true then
        none
      else
        (at_ p_1 i91).bind fun b =>
        (at_ p_1 i91).bind fun c =>
        (at_ p_1 i91).bind fun e =>
        if e.Kind=4 then
          (i64 (i90+1)).bind fun i228 =>
          (i64 (i91+1)).bind fun i230 =>
          Gs fu p_1 n i228 i230 (qe a b.Name c)
        else
          (i64 (i91+1)).bind fun i232 =>
          Gs fu p_1 n i90 i232 (qe a b.Name c)
    else
      if i90=0 then
        none
      else
        Mu fu p_1 a (p_1.length+1) 0
def py (fu:Nat)  (p_1:List Qc):Option (vg×Lf):=
  (Cv fu p_1).bind fun a =>
  if a.mf≠0 then
    none
  else
    Gs fu p_1 (p_1.length+1) 0 0 ([]:List (List UInt8×Qc))
end Go.Y
namespace Go.Y
open Go.yb Go.kc
structure fx where
  wo:(List (List UInt8))→(List (List UInt8))→(List (List UInt8))→hf→Option (List (List UInt8)×List (List UInt8)×List (List UInt8))
def Vx (a:List (List UInt8)) (p_2:hf) (b:List (List UInt8)) (c:List (List UInt8)):Nat→Option (List (List UInt8)×List (List UInt8)×List (List UInt8))
  | 0=>none
  | n+1 =>
    if (0:Int)<(p_2.Kids.length:Int) then
      none
    else
      some (a,b,c)
def Vu (a:List (List UInt8)) (p_2:hf) (b:List (List UInt8)) (c:List (List UInt8)):Option (List (List UInt8)×List (List UInt8)×List (List UInt8)):=
  Vx a p_2 b c (p_2.Kids.length+1)
def Wx (a:List (List UInt8)) (p_2:hf) (b:List (List UInt8)) (c:List (List UInt8)):Option (List (List UInt8)×List (List UInt8)×List (List UInt8)):=
  Vu a p_2 b c
def wo (self:fx) (a:List (List UInt8)) (b:List (List UInt8)) (c:List (List UInt8)) (p_2:hf):Option (List (List UInt8)×List (List UInt8)×List (List UInt8)):=
  if p_2.Kind=19 then
    none
  else
    if p_2.Kind=22 then
      none
    else
      if p_2.Kind=20 then
        (app c [p_2.Name]).bind fun d =>
        Wx a p_2 b d
      else
        Vu a p_2 b c
def Cy:Nat→fx
  | 0=>⟨fun _ _ _ _=>none⟩
  | n+1=>⟨wo (Cy n)⟩
structure gx where
  mo:(List (List UInt8))→(List (List UInt8))→(List (List UInt8))→(List Ge)→Option (List (List UInt8)×List (List UInt8)×List (List UInt8))
def Nu (fu:Nat) (i69:Int) (c:List (List UInt8)) (d:List (List UInt8)) (a:Ge) (e:Int→(List (List UInt8))→(List (List UInt8))→(List (List UInt8))→Option (List (List UInt8)×List (List UInt8)×List (List UInt8))) (f:List (List UInt8)):Option (List (List UInt8)×List (List UInt8)×List (List UInt8)):=
  if a.Kind≠6 then
    ((Cy fu).wo c f d a.X).bind fun b =>
    if a.Kind=3 then
      none
    else
      if a.Kind=4 then
        none
      else
        if a.Kind=3 then
          none
        else
          (i64 (i69+1)).bind fun i183 =>
          e i183 b.1 b.2.1 b.2.2
  else
    none
def Rx (fu:Nat) (i69:Int) (a:List (List UInt8)) (b:List (List UInt8)) (c:Ge) (d:Int→(List (List UInt8))→(List (List UInt8))→(List (List UInt8))→Option (List (List UInt8)×List (List UInt8)×List (List UInt8))) (e:List (List UInt8)):Option (List (List UInt8)×List (List UInt8)×List (List UInt8)):=
  Nu fu i69 a b c d e
def hp (fu:Nat) (p_2:List Ge):Nat→Int→(List (List UInt8))→(List (List UInt8))→(List (List UInt8))→Option (List (List UInt8)×List (List UInt8)×List (List UInt8))
  | 0,_,_,_,_=>none
  | n+1,i69,b,c,d =>
    if i69<(p_2.length:Int) then
      (at_ p_2 i69).bind fun a =>
      if a.Kind=7 then
        (app c [a.Name]).bind fun e =>
        Rx fu i69 b d a (hp fu p_2 n) e
      else
        Nu fu i69 b d a (hp fu p_2 n) c
    else
      some (b,c,d)
def mo (fu:Nat) (self:gx) (a:List (List UInt8)) (b:List (List UInt8)) (c:List (List UInt8)) (p_2:List Ge):Option (List (List UInt8)×List (List UInt8)×List (List UInt8)):=
  hp fu p_2 (p_2.length+1) 0 a b c
def Dy:Nat→gx
  | 0=>⟨fun _ _ _ _=>none⟩
  | n+1=>⟨mo n (Dy n)⟩
def Sx (a:List (Option Qc)) (b:List (List UInt8)×List (List UInt8)×List (List UInt8)) (c:List (List UInt8)) (d:List (List UInt8)) (e:(List (Option Qc))→(List (List UInt8))→(List (List UInt8))→Option Bg):Nat→Option Bg
  | 0=>none
  | n+1 =>
    if (0:Int)<(b.1.length:Int) then
      none
    else
      e a c d
def Tx (b:List (Option Qc)) (a:List (List UInt8)×List (List UInt8)×List (List UInt8)) (c:(List (Option Qc))→(List (List UInt8))→(List (List UInt8))→Option Bg) (f:List (List UInt8)) (g:List (List UInt8)) (d:List (List UInt8)) (e:List (List UInt8)):Option Bg :=
  Sx b a d e c (a.1.length+1)
def sq (fu:Nat):Nat→(List (Option Qc))→(List (List UInt8))→(List (List UInt8))→Option Bg
  | 0,_,_,_=>none
  | n+1,b,c,d =>
    if (0:Int)<(b.length:Int) then
      (at_ b 0).bind fun e =>
      (cut b 1 b.length).bind fun f =>
      (e).bind fun g =>
      ((Dy fu).mo ([]:List (List UInt8)) ([]:List (List UInt8)) ([]:List (List UInt8)) g.Body).bind fun a =>
      (app c a.2.1).bind fun h =>
      (app d a.2.2).bind fun i =>
      Tx f a (sq fu n) a.2.1 a.2.2 h i
    else
      some (Bg.mk ([]:List (List UInt8)) c d)
def qy (fu:Nat)  (p_1:vg) (p_2:Qc):Option Bg :=
  sq fu fu ([(some p_2)]:List (Option Qc)) [] []
def Px (i88:Int) (a:Int→(List (List UInt8×Bg))→Option (List dj×Lf)) (b:List (List UInt8×Bg)):Option (List dj×Lf):=
  (i64 (i88+1)).bind fun i223 =>
  a i223 b
def Iu (a:Int) (b:List UInt8) (c:Int→(List UInt8)→(List UInt8)→Option (List dj×Lf)) (d:List UInt8):Option (List dj×Lf):=
  (i64 (a+1)).bind fun e =>
  c e b d
def Ju (f:List (List UInt8×Bg)) (g:Qc) (a:Int) (b:List UInt8) (c:Qc) (d:Int→(List UInt8)→(List UInt8)→Option (List dj×Lf)) (e:List UInt8):Option (List dj×Lf):=
  if (((Nc f c.Name).getD (Bg.mk ([]:List (List UInt8)) ([]:List (List UInt8)) ([]:List (List UInt8)))).Tm).contains g.Name=true then
    if b≠[] then
      none
    else
      Iu a e d c.Name
  else
    Iu a e d b
def bo (p_1:List Qc) (b:List (List UInt8×Bg)) (e:Int) (f:List dj) (a:Qc) (g:Int→(List dj)→Option (List dj×Lf)):Nat→Int→(List UInt8)→(List UInt8)→Option (List dj×Lf)
  | 0,_,_,_=>none
  | n+1,c,h,i =>
    if c<(p_1.length:Int) then
      (at_ p_1 c).bind fun d =>
      if d.Kind≠4 then
        (i64 (c+1)).bind fun j =>
        bo p_1 b e f a g n j h i
      else
        if (((Nc b d.Name).getD (Bg.mk ([]:List (List UInt8)) ([]:List (List UInt8)) ([]:List (List UInt8)))).Sm).contains a.Name=true then
          if h≠[] then
            none
          else
            Ju b a c i d (bo p_1 b e f a g n) d.Name
        else
          Ju b a c i d (bo p_1 b e f a g n) h
    else
      (app f [(dj.mk a.Name h i)]).bind fun k =>
      (i64 (e+1)).bind fun l =>
      g l k
def eo (p_1:List Qc) (b:List (List UInt8×Bg)):Nat→Int→(List dj)→Option (List dj×Lf)
  | 0,_,_=>none
  | n+1,a,c =>
    if a<(p_1.length:Int) then
      (at_ p_1 a).bind fun d =>
      if d.Kind≠1 then
        (i64 (a+1)).bind fun e =>
        eo p_1 b n e c
      else
        bo p_1 b a c d (eo p_1 b n) (p_1.length+1) 0 [] []
    else
      some (c,(Lf.mk 0 0))
def rq (fu:Nat) (p_1:List Qc) (a:vg×Lf):Nat→Int→(List (List UInt8×Bg))→Option (List dj×Lf)
  | 0,_,_=>none
  | n+1,i88,b =>
    if i88<(p_1.length:Int) then
      (at_ p_1 i88).bind fun c =>
      if c.Kind=4 then
        (at_ p_1 i88).bind fun d =>
        (at_ p_1 i88).bind fun e =>
        (qy fu a.1 e).bind fun f =>
        Px i88 (rq fu p_1 a n) (qe b d.Name f)
      else
        (i64 (i88+1)).bind fun i225 =>
        rq fu p_1 a n i225 b
    else
      eo p_1 b (p_1.length+1) 0 []
def hy (fu:Nat)  (p_1:List Qc):Option (List dj×Lf):=
  (py fu p_1).bind fun a =>
  if a.2.mf≠0 then
    none
  else
    rq fu p_1 a (p_1.length+1) 0 ([]:List (List UInt8×Bg))
end Go.Y
namespace Go.Y
open Go.yb Go.kc
def XL:List UInt8:=[98,111,120,32,98,32,110,117,109,32,49,32,59,32,116,97,115,107,32,99,32,123,32,111,117,116,32,114,101,99,118,32,40,32,98,32,41,32,59,32,125,32,116,97,115,107,32,97,32,123,32,115,101,110,100,32,98,32,55,32,59,32,125]
structure ei where
  yi:List UInt8
  ox:List UInt8
  Ox:List UInt8
  deriving DecidableEq,Inhabited,Repr
instance:Ha ei where
  sz:=3
  pos:=by decide
  cs μ l x:=l=[S x.yi,S x.ox,S x.Ox]
  Dg h:=by obtain rfl:=h;rfl
  up le h:=by exact h
  pg h:=by obtain rfl:=h;rfl
def Is (p_1:List Qc):Nat→Int→(List (List UInt8))→Option (List (List UInt8))
  | 0,_,_=>none
  | n+1,i37,a =>
    if i37<(p_1.length:Int) then
      (at_ p_1 i37).bind fun b =>
      if b.Kind=4 then
        (app a [b.Name]).bind fun c =>
        (i64 (i37+1)).bind fun i98 =>
        Is p_1 n i98 c
      else
        (i64 (i37+1)).bind fun i100 =>
        Is p_1 n i100 a
    else
      some a
def Vy  (p_1:List Qc):Option (List (List UInt8)):=
  Is p_1 (p_1.length+1) 0 []
def ev (b:List dj×Lf):Nat→Int→(List ei)→Option (List ei×Lf)
  | 0,_,_=>none
  | n+1,i39,c =>
    if i39<(b.1.length:Int) then
      (at_ b.1 i39).bind fun a =>
      if a.Writer≠[] then
        if a.Reader≠[] then
          (app c [(ei.mk a.yi a.Writer a.Reader)]).bind fun d =>
          (i64 (i39+1)).bind fun i86 =>
          ev b n i86 d
        else
          none
      else
        none
    else
      some (c,b.2)
def Wy (fu:Nat)  (p_1:List Qc):Option (List ei×Lf):=
  (hy fu p_1).bind fun a =>
  if a.2.mf≠0 then
    none
  else
    ev a (a.1.length+1) 0 []
def Jv (p_1:List ei) (p_2:ei→Option Bool):Nat→Int→Option Int
  | 0,_=>none
  | n+1,i20 =>
    if i20<(p_1.length:Int) then
      (at_ p_1 i20).bind fun a =>
      (p_2 a).bind fun b =>
      if b=true then
        some i20
      else
        (i64 (i20+1)).bind fun i49 =>
        Jv p_1 p_2 n i49
    else
      some (-1)
def zz  (p_1:List ei) (p_2:ei→Option Bool):Option Int :=
  Jv p_1 p_2 (p_1.length+1) 0
def Az  (p_1:List ei) (p_2:ei→Option Bool):Option Bool :=
  (zz p_1 p_2).bind fun a =>
  some (decide ((0:Int)≤a))
def Kv (p_1:List (List UInt8)) (p_2:(List UInt8)→Option Bool):Nat→Int→Option Int
  | 0,_=>none
  | n+1,i20 =>
    if i20<(p_1.length:Int) then
      (at_ p_1 i20).bind fun a =>
      (p_2 a).bind fun b =>
      if b=true then
        some i20
      else
        (i64 (i20+1)).bind fun i49 =>
        Kv p_1 p_2 n i49
    else
      some (-1)
def Bz  (p_1:List (List UInt8)) (p_2:(List UInt8)→Option Bool):Option Int :=
  Kv p_1 p_2 (p_1.length+1) 0
def Cz  (p_1:ei) (p_2:List UInt8) (a:List (List UInt8)):Option Bool :=
  if p_1.Ox=p_2 then
    some (a.contains p_1.ox)
  else
    some false
def aA  (p_1:List UInt8) (p_2:List ei) (a:List (List UInt8)):Option Bool :=
  (Az p_2 (fun b=>Cz b p_1 a)).bind fun c =>
  some (!c)
def iy (a:List ei×Lf) (b:List (List UInt8)) (c:List (List UInt8)):Option (List (List UInt8)×List (List UInt8)×Lf):=
  some (c,b,a.2)
def fv (c:List ei×Lf):Nat→(List (List UInt8))→(List (List UInt8))→Option (List (List UInt8)×List (List UInt8)×Lf)
  | 0,_,_=>none
  | n+1,a,d =>
    (Bz a (fun e=>aA e c.1 a)).bind fun b =>
    if b<0 then
      iy c a d
    else
      (at_ a b).bind fun f =>
      (app d [f]).bind fun g =>
      (i64 (b+1)).bind fun i166 =>
      (mx a b i166).bind fun h =>
      fv c n h g
def Xy (fu:Nat)  (p_1:List Qc):Option (List (List UInt8)×List (List UInt8)×Lf):=
  (Wy fu p_1).bind fun a =>
  if a.2.mf≠0 then
    none
  else
    (Vy p_1).bind fun b =>
    fv a fu b []
def Lv (fu:Nat)  :Option Bool :=
  (Sy fu XL).bind fun b =>
  (Xy fu b.1).bind fun a =>
  if b.2.mf=0 then
    if a.2.2.mf=0 then
      if (a.1.length:Int)=2 then
        (at_ a.1 0).bind fun c =>
        if c=[97] then
          (at_ a.1 1).bind fun d =>
          if d=[99] then
            some (decide ((a.2.1.length:Int)=0))
          else
            none
        else
          none
      else
        none
    else
      none
  else
    none
end Go.Y
namespace Go.Y
open Go.yb Go.kc
structure ru where
  stack:List Int
  Wa:Value
instance:Rh ru where
  Fj μ v x:=∃ a c,v=.agg ⟨[.slice a x.stack.length c,x.Wa]⟩∧Ba μ a c x.stack
  up l h:=by obtain ⟨a,c,b,d⟩:=h;exact ⟨a,c,b,d.up l⟩
abbrev gk:=List (Value×List Bool)
def tj:gk→List (Int×nd)→List (Int×ru)
  | b::Ic,e::m=>(e.1,⟨e.2.stack,b.1⟩)::tj Ic m
  | _,_=>[]
structure mi (μ:M) (es:List MapEntry) (c:Nat) (Ic:gk) (m:List (Int×nd)):Prop where
  Cs:lg μ es c (tj Ic m)
  has:Ic.map (·.2)=m.map (·.2.has)
theorem mi.up {μ I:M}{es:List MapEntry}{c:Nat}{Ic:gk}{m:List (Int×nd)}(h:mi μ es c Ic m) (l:da μ I):mi I es c Ic m:=⟨h.Cs.up l,h.has⟩
theorem mi.nil {μ:M}{c:Nat}:mi μ [] c [] []:=⟨lg.nil,rfl⟩
def fe (T:TypeId) (Ic:gk):List kb:=Ic.map fun b=>.row b.1 T 1 b.2.length (b.2.map .bool)
theorem Dz:∀ (Ic:gk) (m:List (Int×nd)) (k:Int) (x:nd),Ic.map (·.2)=m.map (·.2.has)→Nc m k=some x→∃ V v Fe,Ic=V++(v,x.has)::Fe∧Nc (tj Ic m) k=some ⟨x.stack,v⟩∧∀ c,tj (V++(v,c)::Fe) (qe m k ⟨x.stack,c⟩)=tj Ic m∧(V++(v,c)::Fe).map (·.2)=(qe m k ⟨x.stack,c⟩).map (·.2.has)
  | Ic,[],k,x,h,g=>by simp [Nc] at g
  | [],e::m,k,x,h,g=>by simp at h
  | b::Ic,(a,y)::m,k,x,h,g=>by
    simp only [List.map_cons,List.cons.injEq] at h;obtain ⟨d,f⟩:=h;by_cases e:a=k
    · subst e;rw [Nc,if_pos rfl] at g;obtain rfl:=Option.some.inj g;refine ⟨[],b.1,Ic,by rw [← d];rfl,by rw [tj,Nc,if_pos rfl],fun c=>?_⟩;rw [qe,if_pos rfl];exact ⟨rfl,by simp [f]⟩
    · rw [Nc,if_neg e] at g;obtain ⟨V,v,Fe,qa,i,j⟩:=Dz Ic m k x f g;refine ⟨b::V,v,Fe,by rw [qa];rfl,by rw [tj,Nc,if_neg e,i],fun c=>?_⟩;obtain ⟨l,n⟩:=j c;rw [qe,if_neg e];refine ⟨?_,?_⟩
      · show tj (b::(V++(v,c)::Fe)) _=_;rw [tj,tj,l]
      · show (b::(V++(v,c)::Fe)).map (·.2)=_;rw [List.map_cons,n,List.map_cons,d]
theorem tD:∀ (Ic:gk) (m:List (Int×nd)) (k:Int),Nc m k=none→Nc (tj Ic m) k=none
  | Ic,[],k,g=>by cases Ic <;> rfl
  | [],e::m,k,g=>rfl
  | b::Ic,(a,y)::m,k,g=>by
    by_cases e:a=k
    · rw [Nc,if_pos e] at g;cases g
    · rw [Nc,if_neg e] at g;rw [tj,Nc,if_neg e,tD Ic m k g]
theorem SC:∀ (Ic:gk) (m:List (Int×nd)) (k:Int) (st:List Int) (v:Value) (h:List Bool),Ic.map (·.2)=m.map (·.2.has)→Nc m k=none →
    qe (tj Ic m) k ⟨st,v⟩=tj (Ic++[(v,h)]) (qe m k ⟨st,h⟩)∧(Ic++[(v,h)]).map (·.2)=(qe m k ⟨st,h⟩).map (·.2.has)
  | [],[],k,st,v,h,e,g=>⟨rfl,rfl⟩
  | b::Ic,[],k,st,v,h,e,g=>by simp at e
  | [],e::m,k,st,v,h,d,g=>by simp at d
  | b::Ic,(a,y)::m,k,st,v,h,e,g=>by
    simp only [List.map_cons,List.cons.injEq] at e;obtain ⟨f,i⟩:=e;by_cases c:a=k
    · rw [Nc,if_pos c] at g;cases g
    · rw [Nc,if_neg c] at g;obtain ⟨j,l⟩:=SC Ic m k st v h i g;rw [tj,qe,if_neg c,qe,if_neg c,j];refine ⟨?_,?_⟩
      · show _=tj (b::(Ic++[(v,h)])) _;rw [tj]
      · show (b::(Ic++[(v,h)])).map (·.2)=_;rw [List.map_cons,l,List.map_cons,f]
theorem UH {m:List (Int×nd)}{k:Int}(h:¬ (Nc m k).isSome=true):Nc m k=none:=by
  cases e:Nc m k with
  | none=>rfl
  | some x=>rw [e] at h; exact absurd rfl h
theorem mi.new {μ:M}{es:List MapEntry}{c:Nat}{Ic:gk}{m:List (Int×nd)}{k:Int}{st:List Int}{v:Value}{h:List Bool}{a:List MapEntry}{c':Nat}{E:M}(p:mi E es c Ic m) (g:Nc m k=none) (q:lg μ a c' (qe (tj Ic m) k ⟨st,v⟩)):mi μ a c' (Ic++[(v,h)]) (qe m k ⟨st,h⟩):=by
  obtain ⟨qa,b⟩:=SC Ic m k st v h p.has g;exact ⟨by rw [← qa];exact q,b⟩
theorem mi.set {μ:M}{es:List MapEntry}{c:Nat}{Ic V Fe:gk}{v:Value}{m:List (Int×nd)}{k:Int}{x:nd}(p:mi μ es c Ic m) (h:∀ a,tj (V++(v,a)::Fe) (qe m k ⟨x.stack,a⟩)=tj Ic m∧(V++(v,a)::Fe).map (·.2)=(qe m k ⟨x.stack,a⟩).map (·.2.has)) (a:List Bool):mi μ es c (V++(v,a)::Fe) (qe m k ⟨x.stack,a⟩):=by
  obtain ⟨qa,b⟩:=h a;exact ⟨by rw [qa];exact p.Cs,b⟩
theorem VH {α:Type}[Ha α]{μ:M}{v:Value}{o:Option α}(h:Re μ v o) (k:¬ o.isSome=true):v=.pointer none:=by
  cases o with
  | none=>exact h
  | some x=>exact absurd rfl k
theorem vt {μ:M}:∀ h:List Bool,na μ (h.map Value.bool) h
  | []=>rfl
  | b::h=>na.cons (cs:=[.bool b]) rfl (vt h)
theorem UA {μ:M}:∀ {h:List Bool}{cells:List Value},na μ cells h→cells=h.map Value.bool
  | [],cells,r=>r
  | b::h,cells,r=>by
    obtain ⟨cs,t,rfl,a,c⟩:=r;rw [show cs=[.bool b] from a,UA c];rfl
section
variable {μ:M}{w0 w:World}{T:TypeId}{a p R:List kb}{V Fe Ic:gk}{v:Value}{h:List Bool}
theorem xB (b:ha μ w0 w (a++(fe T (V++(v,h)::Fe)++R))):ha μ w0 w (.row v T 1 h.length (h.map .bool)::(a++(fe T (V++Fe)++R))):=
  b.perm (by
    unfold fe;simp only [List.map_append,List.map_cons,List.append_assoc,List.cons_append];exact (List.perm_middle.append_left a).trans List.perm_middle)
theorem Qs {cells:List Value}(b:ha μ w0 w (.row v T 1 h.length cells::(a++(fe T (V++Fe)++R)))) (c:na μ cells h):ha μ w0 w (a++(fe T (V++(v,h)::Fe)++R)):=by
  rw [UA c] at b;exact b.perm (by
    unfold fe;simp only [List.map_append,List.map_cons,List.append_assoc,List.cons_append];exact ((List.perm_middle.append_left a).trans List.perm_middle).symm)
theorem BG {cells:List Value}(b:ha μ w0 w (.row v T 1 h.length cells::(a++(fe T Ic++R)))) (c:na μ cells h):ha μ w0 w (a++(fe T (Ic++[(v,h)])++R)):=by
  have d:ha μ w0 w (.row v T 1 h.length cells::(a++(fe T (Ic++[])++R))):=by rw [List.append_nil];exact b
  exact Qs d c
theorem yB (c:ha μ w0 w (a++(fe T Ic++R))):ha μ w0 w (a++R):=by
  have b:ha μ w0 w (fe T Ic++(a++R)):=c.perm (by rw [← List.append_assoc,← List.append_assoc];exact List.Perm.append_right R List.perm_append_comm);generalize fe T Ic=l at b
  induction l with
  | nil=>exact b
  | cons r l d=>exact d (b.drop .z)
end
section
variable {P:Program}{Q:Exit→Act→World→Prop}{K:List Value→List Deferred→World→Prop}{fr sa:List Value}{ds:List Deferred}{w:World}
variable {dst:Option Tmp}{ty:TypeId}{pos:String}{after:Array Edge}{g:Option (Nat×Bool)}{μ:M}{T:TypeId}
variable {x y:Operand}{Qe aa:TypeId}{b c:Nat}{es:List MapEntry}{m:List (Int×ru)}{k:Int}
theorem CG {x:Operand}{t Lb e:TypeId}{a:Addr}(hu:P.underlying t=some (.pointer e)) (b:Ya fr x (.pointer (some a))):Ke P (Oper.mk dst (.binOp .neq t x (.const (.pointer none)) Lb) ty pos after g) fr (.bool true):=⟨fun ds w=>by
  have c:=b ds;have f:(F fr ds).eval (.const (.pointer none))=.pointer none:=rfl;have h:∀ d:Nat,(Op.equalIn (d+1) t (.pointer (some a)) (.pointer none)).run P w=.ok false w:=fun d=>by
    simp [Op.equalIn,run_underlying hu]
  have i:(Op.equalIn Op.maxDepth t (.pointer (some a)) (.pointer none)).run P w=.ok false w:=h 9999;simp [execOp,c,f,eqGuard,binOp,Op.equal,i]⟩
theorem DG {x:Operand}{t Lb e:TypeId}{a:Addr}(hu:P.underlying t=some (.pointer e)) (b:Ya fr x (.pointer (some a))) (c:Xe fr dst (.bool true) sa) (h:K sa ds w):Gd P (Oper.mk dst (.binOp .neq t x (.const (.pointer none)) Lb) ty pos after g) fr ds w K Q:=va (CG hu b) c h
theorem KF {x:Operand}{t Lb e:TypeId}(hu:P.underlying t=some (.pointer e)) (a:Ya fr x (.pointer none)):Ke P (Oper.mk dst (.binOp .neq t x (.const (.pointer none)) Lb) ty pos after g) fr (.bool false):=⟨fun ds w=>by
  have b:=a ds;have c:(F fr ds).eval (.const (.pointer none))=.pointer none:=rfl;have f:∀ d:Nat,(Op.equalIn (d+1) t (.pointer none) (.pointer none)).run P w=.ok true w:=fun d=>by
    simp [Op.equalIn,run_underlying hu]
  have h:(Op.equalIn Op.maxDepth t (.pointer none) (.pointer none)).run P w=.ok true w:=f 9999;simp [execOp,b,c,eqGuard,binOp,Op.equal,h]⟩
theorem LF {x:Operand}{t Lb e:TypeId}(hu:P.underlying t=some (.pointer e)) (a:Ya fr x (.pointer none)) (b:Xe fr dst (.bool false) sa) (h:K sa ds w):Gd P (Oper.mk dst (.binOp .neq t x (.const (.pointer none)) Lb) ty pos after g) fr ds w K Q:=va (KF hu a) b h
theorem TC {μ:M}:Rh.Fj μ (.agg ⟨[.slice none 0 0,.slice none 0 0]⟩) (⟨[],.slice none 0 0⟩:ru):=⟨none,0,rfl,Ba.nil⟩
theorem WH {st:List Int}{Wa:Value}(e:P.underlying T=some (.map Qe aa)) (f:P.underlying Qe=some (ob.bm (κ:=Int))) (i:Ya fr x (.map (some b))) (j:Ya fr y (ob.key k))
    (l:∀ w,(zeroValue aa).run P w=.ok (.agg ⟨[.slice none 0 0,.slice none 0 0]⟩) w) (n:w.heap[b]?=some (.map ⟨es⟩ c)) (he:lg μ es c m) (uj:Nc m k=some ⟨st,Wa⟩)
    (h:∀ a c,Ba μ a c st→bh fr dst (.agg ⟨[.slice a st.length c,Wa]⟩) fun sa=>K sa ds w):Gd P (Oper.mk dst (.lookup T x y false) ty pos after g) fr ds w K Q :=
  tw e f i j l TC n he fun v d=>by
    rw [uj] at d;obtain ⟨a,c,rfl,m⟩:=d;exact h a c m
theorem XH {st:List Int}{Wa:Value}(e:P.underlying T=some (.map Qe aa)) (f:P.underlying Qe=some (ob.bm (κ:=Int))) (i:Ya fr x (.map (some b))) (j:Ya fr y (ob.key k))
    (l:∀ w,(zeroValue aa).run P w=.ok (.agg ⟨[.slice none 0 0,.slice none 0 0]⟩) w) (n:w.heap[b]?=some (.map ⟨es⟩ c)) (he:lg μ es c m) (uj:Nc m k=some ⟨st,Wa⟩)
    (h:∀ a c,Ba μ a c st→bh fr dst (.tuple ⟨[.agg ⟨[.slice a st.length c,Wa]⟩,.bool true]⟩) fun sa=>K sa ds w):Gd P (Oper.mk dst (.lookup T x y true) ty pos after g) fr ds w K Q :=
  MH e f i j l TC n he fun v d=>by
    rw [uj] at d ⊢;obtain ⟨a,c,rfl,m⟩:=d;exact h a c m
theorem EG (f:P.underlying T=some (.map Qe aa)) (i:P.underlying Qe=some (ob.bm (κ:=Int))) (j:Ya fr x (.map (some b))) (l:Ya fr y (ob.key k))
    (n:∀ w,(zeroValue aa).run P w=.ok (.agg ⟨[.slice none 0 0,.slice none 0 0]⟩) w) (o:w.heap[b]?=some (.map ⟨es⟩ c)) (he:lg μ es c m) (uj:Nc m k=none)
    (h:bh fr dst (.tuple ⟨[.agg ⟨[.slice none 0 0,.slice none 0 0]⟩,.bool false]⟩) fun sa=>K sa ds w):Gd P (Oper.mk dst (.lookup T x y true) ty pos after g) fr ds w K Q:=by
  obtain ⟨sa,Na⟩:=Ei fr dst (.tuple #[dk es (ob.key k) (.agg ⟨[.slice none 0 0,.slice none 0 0]⟩),.bool (No es (ob.key k))]);refine Py f i j l (ob.Qe k) n o he.Of.keys Na ?_;rw [he.Of.has k,uj] at Na;have a:=he.Of.look k;have e:dk es (ob.key k) (.agg ⟨[.slice none 0 0,.slice none 0 0]⟩)=.agg ⟨[.slice none 0 0,.slice none 0 0]⟩:=by
    unfold dk;rw [Zs];cases q:nk (ob.key k) es with
    | none=>rfl
    | some p=>rw [q] at a; obtain ⟨x,d,r⟩:=a; rw [uj] at d; cases d
  rw [e] at Na;exact h sa Na
end
end Go.Y
namespace Go.Y
open Go.yb Go.kc
def Lm  (p_1:Int):Option Bool :=
  if p_1=1 then
    some true
  else
    some (decide (p_1=2))
def Np  (p_1:ze) (p_2:Int) (b:Int):Option Bool :=
  if (0:Int)≤p_2 then
    (p_1.m).bind fun a =>
    if p_2<(a.lb.length:Int) then
      (at_ a.lb p_2).bind fun c =>
      some (decide (c.Kind=b))
    else
      some false
  else
    some false
def Yq  (p_1:ze) (p_2:Int):Option Bool :=
  if (10:Int)≤p_2 then
    (i64 (p_2 - 10)).bind fun i7 =>
    (Np p_1 i7 3).bind fun a =>
    some a
  else
    some false
def Kk  (a:Bool):Option Int :=
  if a=true then
    some 0
  else
    some 3
def Js  (a:Bool):Option Int :=
  if a=true then
    some 1
  else
    Kk true
def Ks (p_1:ze) (a:vd) (b:Bool):Option Int :=
  if b=true then
    if (0:Int)≤a.A then
      (p_1.m).bind fun c =>
      Kk (decide (a.A<(c.uc.length:Int)))
    else
      Kk false
  else
    if a.Op<1 then
      Js true
    else
      Js (decide ((32:Int)<a.Op))
def Ls (p_1:ze) (p_2:Tc) (a:vd) (Yf:Bool):Option Int :=
  if Yf=true then
    if (0:Int)≤a.A then
      Kk (decide (a.A<(p_2.Code.length:Int)))
    else
      Kk false
  else
    if a.Op=23 then
      (Np p_1 a.A 2).bind fun b =>
      Kk b
    else
      if a.Op=29 then
        (Np p_1 a.A 3).bind fun c =>
        Kk c
      else
        if a.Op=26 then
          Ks p_1 a (decide (a.Op=26))
        else
          Ks p_1 a (decide (a.Op=27))
def Ms (p_1:ze) (p_2:Tc) (a:vd) (b:Bool):Option Int :=
  if b=true then
    if (0:Int)≤a.A then
      Kk (decide (a.A<(p_2.Cc.length:Int)))
    else
      Kk false
  else
    if a.Op=21 then
      Ls p_1 p_2 a (decide (a.Op=21))
    else
      Ls p_1 p_2 a (decide (a.Op=22))
def xt  (p_1:ze) (p_2:Tc) (a:vd):Option Int :=
  if a.Op=2 then
    if a.A=0 then
      Kk true
    else
      Kk (decide (a.A=1))
  else
    if a.Op=3 then
      Ms p_1 p_2 a (decide (a.Op=3))
    else
      Ms p_1 p_2 a (decide (a.Op=4))
def Zq (p_1:List Int) (p_2:Int→Option Bool):Nat→Int→Option Int
  | 0,_=>none
  | n+1,i20 =>
    if i20<(p_1.length:Int) then
      (at_ p_1 i20).bind fun a =>
      (p_2 a).bind fun b =>
      if b=true then
        some i20
      else
        (i64 (i20+1)).bind fun i49 =>
        Zq p_1 p_2 n i49
    else
      some (-1)
def Mw  (p_1:List Int) (p_2:Int→Option Bool):Option Int :=
  Zq p_1 p_2 (p_1.length+1) 0
def Up  (p_1:List Int) (p_2:Int→Option Bool):Option Bool :=
  (Mw p_1 p_2).bind fun a =>
  some (decide ((0:Int)≤a))
def ar (p_1:List vd) (p_2:vd→Option Bool):Nat→Int→Option Int
  | 0,_=>none
  | n+1,i20 =>
    if i20<(p_1.length:Int) then
      (at_ p_1 i20).bind fun a =>
      (p_2 a).bind fun b =>
      if b=true then
        some i20
      else
        (i64 (i20+1)).bind fun i49 =>
        ar p_1 p_2 n i49
    else
      some (-1)
def Nw  (p_1:List vd) (p_2:vd→Option Bool):Option Int :=
  ar p_1 p_2 (p_1.length+1) 0
def Ow  (p_1:List vd) (p_2:vd→Option Bool):Option Bool :=
  (Nw p_1 p_2).bind fun a =>
  some (decide ((0:Int)≤a))
def yt  (p_1:Int) (p_2:Option ze):Option Bool :=
  (Lm p_1).bind fun a =>
  if a=true then
    some false
  else
    (p_2).bind fun b =>
    (Yq b p_1).bind fun c =>
    some (!c)
def mn (p_1:ze) (p_2:Tc) (a:Bool):Option Int :=
  if a=true then
    some 9
  else
    (Up p_2.Cc (fun b=>yt b (some p_1))).bind fun c =>
    if c=true then
      some 9
    else
      some 0
def Kq (p_1:ze) (p_2:Tc) (a:Bool):Option Int :=
  if a=true then
    some 5
  else
    if p_2.Kind≠4 then
      (Lm p_2.Result).bind fun b =>
      if b=true then
        if p_2.Kind=3 then
          (Lm p_2.Yd).bind fun c =>
          mn p_1 p_2 (!c)
        else
          mn p_1 p_2 false
      else
        mn p_1 p_2 true
    else
      if p_2.Kind=3 then
        (Lm p_2.Yd).bind fun d =>
        mn p_1 p_2 (!d)
      else
        mn p_1 p_2 false
def Fm (p_1:ze) (p_2:Tc) (a:Bool):Option Int :=
  if a=true then
    some 5
  else
    if (p_2.Code.length:Int)<1 then
      Kq p_1 p_2 true
    else
      Kq p_1 p_2 (decide ((4000:Int)<(p_2.Code.length:Int)))
def Ap (p_1:ze) (p_2:Tc) (a:Bool):Option Int :=
  if a=true then
    some 1
  else
    if (200:Int)<(p_2.Cc.length:Int) then
      Fm p_1 p_2 true
    else
      if p_2.Params<0 then
        Fm p_1 p_2 true
      else
        if (6:Int)<p_2.Params then
          Fm p_1 p_2 true
        else
          if (p_2.Cc.length:Int)<p_2.Params then
            Fm p_1 p_2 true
          else
            if p_2.Kind=4 then
              Fm p_1 p_2 (decide ((0:Int)<p_2.Params))
            else
              Fm p_1 p_2 false
def Mt  (p_1:ze) (p_2:Tc):Option Int :=
  if p_2.Kind≠2 then
    if p_2.Kind≠3 then
      Ap p_1 p_2 (decide (p_2.Kind≠4))
    else
      Ap p_1 p_2 false
  else
    Ap p_1 p_2 false
def Rs (i55:Int) (a:Int→Option cg) (b:Bool):Option cg :=
  if b=true then
    some (cg.mk 3 0 i55)
  else
    (i64 (i55+1)).bind fun i93 =>
    a i93
def Lq (p_1:ze) (i163:Int) (i164:Int) (a:Tc) (b:Int→Int→Option cg):Nat→Int→Option cg
  | 0,_=>none
  | n+1,i268 =>
    if i268<(a.Code.length:Int) then
      (at_ a.Code i268).bind fun d =>
      (xt p_1 a d).bind fun c =>
      if c≠0 then
        some (cg.mk c i164 i268)
      else
        (i64 (i268+1)).bind fun i300 =>
        Lq p_1 i163 i164 a b n i300
    else
      if a.Kind=4 then
        (i64 (i163+1)).bind fun i303 =>
        (i64 (i164+1)).bind fun i305 =>
        b i303 i305
      else
        (i64 (i164+1)).bind fun i307 =>
        b i163 i307
def oo (p_1:ze) (a:ub):Nat→Int→Int→Option cg
  | 0,_,_=>none
  | n+1,i163,i164 =>
    if i164<(a.lb.length:Int) then
      (at_ a.lb i164).bind fun b =>
      (Mt p_1 b).bind fun c =>
      if c≠0 then
        some (cg.mk c i164 0)
      else
        Lq p_1 i163 i164 b (oo p_1 a n) (b.Code.length+1) 0
    else
      if i163=0 then
        some (cg.mk 6 0 0)
      else
        some (cg.mk 0 0 0)
def po (p_1:ze) (a:ub):Nat→Int→Option cg
  | 0,_=>none
  | n+1,i55 =>
    if i55<(a.uc.length:Int) then
      (at_ a.uc i55).bind fun b =>
      (Lm b.De).bind fun c =>
      if c=true then
        if b.Zf<1 then
          Rs i55 (po p_1 a n) true
        else
          Rs i55 (po p_1 a n) (decide ((20:Int)<b.Zf))
      else
        some (cg.mk 9 0 i55)
    else
      oo p_1 a (a.lb.length+1) 0 0
def Ss (p_1:ze) (b:Bool):Option cg :=
  if b=true then
    some (cg.mk 5 0 0)
  else
    (p_1.m).bind fun a =>
    po p_1 a (a.uc.length+1) 0
def Nt  (p_1:ze):Option cg :=
  (p_1.m).bind fun a =>
  if (30:Int)<(a.uc.length:Int) then
    Ss p_1 true
  else
    Ss p_1 (decide ((30:Int)<(a.lb.length:Int)))
end Go.Y
namespace Go.Y
open Go.yb Go.kc
def Ou  (a:List Int) (b:List Bool):Option nd :=
  some (nd.mk a b)
def Ts  (p_1:nd):Option nd :=
  (small p_1.stack).bind fun a =>
  (small p_1.has).bind fun b =>
  Ou p_1.stack p_1.has
def Pu  (a:List Int) (b:List Bool):Option nd :=
  some (nd.mk a b)
def Us  (p_1:nd):Option nd :=
  (small p_1.stack).bind fun a =>
  (small p_1.has).bind fun b =>
  Pu p_1.stack p_1.has
def Gq (p_1:List Int) (p_2:List Int):Nat→Int→Option Bool
  | 0,_=>none
  | n+1,i33 =>
    if i33<(p_1.length:Int) then
      (at_ p_1 i33).bind fun a =>
      (at_ p_2 i33).bind fun b =>
      if a≠b then
        some false
      else
        (i64 (i33+1)).bind fun i83 =>
        Gq p_1 p_2 n i83
    else
      some true
def zt  (p_1:List Int) (p_2:List Int):Option Bool :=
  if (p_1.length:Int)≠(p_2.length:Int) then
    some false
  else
    Gq p_1 p_2 (p_1.length+1) 0
def Jj  (a:Int) (p_2:Int):Option Int :=
  if a=0 then
    some p_2
  else
    some a
def bj  (c:List Int) (b:Int) (p_2:Int):Option (List Int×Int):=
  (app c [p_2]).bind fun a =>
  if (300:Int)<(a.length:Int) then
    (Jj b 4).bind fun d =>
    some (a,d)
  else
    some (a,b)
def nm  (a:List Int) (b:Int):Option (Int×List Int×Int):=
  if (a.length:Int)=0 then
    (Jj b 12).bind fun c =>
    some (0,a,c)
  else
    (i64 ((a.length:Int) - 1)).bind fun i19 =>
    (at_ a i19).bind fun d =>
    (i64 ((a.length:Int) - 1)).bind fun i35 =>
    (cut a 0 i35).bind fun e =>
    some (d,e,b)
def Bp (p_2:List Int):Nat→Int→Int→(List Int)→Option (List Int×Int)
  | 0,_,_,_=>none
  | n+1,i40,i41,b =>
    if (0:Int)≤i40 then
      (nm b i41).bind fun a =>
      (at_ p_2 i40).bind fun c =>
      if a.1≠c then
        (Jj a.2.2 9).bind fun d =>
        (i64 (i40 - 1)).bind fun i88 =>
        Bp p_2 n i88 d a.2.1
      else
        (i64 (i40 - 1)).bind fun i90 =>
        Bp p_2 n i90 a.2.2 a.2.1
    else
      some (b,i41)
def bk (fu:Nat)  (a:List Int) (b:Int) (p_2:List Int):Option (List Int×Int):=
  (i64 ((p_2.length:Int) - 1)).bind fun i18 =>
  Bp p_2 fu i18 b a
def Yv (p_2:Int) (a:List Int) (b:List Int) (c:List Bool) (d:Int) (e:List (Int×nd)):Option (List (Int×nd)×List Int×List Int×List Bool×Int):=
  (app a [p_2]).bind fun f =>
  some (e,f,b,c,d)
def Jp (c:Bool) (i129:Int) (a:List Bool) (b:Bool→Int→(List Bool)→Option (List (Int×nd)×List Int×List Int×List Bool×Int)) (d:Bool):Option (List (Int×nd)×List Int×List Int×List Bool×Int):=
  if d=true then
    (at_ a i129).bind fun e =>
    (i64 (i129+1)).bind fun i236 =>
    b true i236 (a.set i129.toNat false)
  else
    (i64 (i129+1)).bind fun i238 =>
    b c i238 a
def qn (p_2:Int) (d:List (Int×nd)) (e:List Int) (f:List Int) (a:List Bool) (g:Int) (b:nd):Nat→Bool→Int→(List Bool)→Option (List (Int×nd)×List Int×List Int×List Bool×Int)
  | 0,_,_,_=>none
  | n+1,h,i129,c =>
    if i129<(b.has.length:Int) then
      (at_ c i129).bind fun i =>
      if i=true then
        (at_ a i129).bind fun j =>
        Jp h i129 c (qn p_2 d e f a g b n) (!j)
      else
        Jp h i129 c (qn p_2 d e f a g b n) false
    else
      if h=true then
        (app e [p_2]).bind fun k =>
        some ((qe d p_2 (nd.mk b.stack c)),k,f,a,g)
      else
        some ((qe d p_2 (nd.mk b.stack c)),e,f,a,g)
def kl  (l:ze) (h:Tc) (a:List (Int×nd)) (e:List Int) (b:List Int) (c:List Bool) (d:Int) (p_2:Int):Option (List (Int×nd)×List Int×List Int×List Bool×Int):=
  if d≠0 then
    some (a,e,b,c,d)
  else
    if p_2=(h.Code.length:Int) then
      (Jj d 3).bind fun i =>
      some (a,e,b,c,i)
    else
      if (Nc a p_2).isSome=true then
        (Nc a p_2).bind fun f =>
        (zt f.stack b).bind fun j =>
        if j=true then
          qn p_2 a e b c d f (f.has.length+1) false 0 f.has
        else
          (Jj d 8).bind fun k =>
          some (a,e,b,c,k)
      else
        (Ts (nd.mk b c)).bind fun g =>
        Yv p_2 e b c d (qe a p_2 (nd.mk g.stack g.has))
def sr (fu:Nat)  (c:ze) (d:List Int) (e:Int) (p_2:Int):Option (Tc×List Int×Int):=
  (c.m).bind fun f =>
  (at_ f.lb p_2).bind fun a =>
  (cut a.Cc 0 a.Params).bind fun g =>
  (bk fu d e g).bind fun b =>
  some (a,b.1,b.2)
def Gr  (b:ze) (c:List Int) (d:Int):Option (Option Tc×List Int×Int):=
  (nm c d).bind fun a =>
  if a.2.2≠0 then
    some (none,a.2.1,a.2.2)
  else
    (Yq b a.1).bind fun e =>
    if e=true then
      (b.m).bind fun f =>
      (i64 (a.1 - 10)).bind fun i49 =>
      (at_ f.lb i49).bind fun g =>
      some ((some g),a.2.1,a.2.2)
    else
      (Jj a.2.2 9).bind fun h =>
      some (none,a.2.1,h)
def Vs (a:List Int) (i15:Int):Option (Bool×List Int×Int):=
  some (false,a,i15)
def tr  (a:List Int) (b:Int):Option (Bool×List Int×Int):=
  if (0:Int)<(a.length:Int) then
    (Jj b 12).bind fun c =>
    Vs a c
  else
    Vs a b
def Qj (a:List (Int×nd)) (b:List Int) (c:List Bool) (i52:Int) (d:List Int):Option (Bool×List (Int×nd)×List Int×List Int×List Bool×Int):=
  some (true,a,b,d,c,i52)
def tq (fu:Nat) (c:Tc) (d:List (Int×nd)) (e:List Int) (f:List Int) (g:List Bool) (i104:Int):Option (Bool×List (Int×nd)×List Int×List Int×List Bool×Int):=
  (bk fu f i104 [c.Result]).bind fun b =>
  (tr b.1 b.2).bind fun a =>
  some (a.1,d,e,a.2.1,g,a.2.2)
def uq (b:List (Int×nd)) (c:List Int) (d:List Int) (e:List Bool) (i127:Int):Option (Bool×List (Int×nd)×List Int×List Int×List Bool×Int):=
  (tr d i127).bind fun a =>
  some (a.1,b,c,a.2.1,e,a.2.2)
def vq (b:List (Int×nd)) (c:List Int) (d:List Bool) (a:Int×List Int×Int) (e:Bool):Option (Bool×List (Int×nd)×List Int×List Int×List Bool×Int):=
  if e=true then
    (Jj a.2.2 9).bind fun f =>
    Qj b c d f a.2.1
  else
    Qj b c d a.2.2 a.2.1
def wq (b:List (Int×nd)) (c:List Int) (d:List Bool) (e:Option Tc×List Int×Int) (f:Tc) (i245:Int):Option (Bool×List (Int×nd)×List Int×List Int×List Bool×Int):=
  (bj e.2.1 i245 f.Result).bind fun a =>
  Qj b c d a.2 a.1
def xq (fu:Nat) (a:Tc) (d:List (Int×nd)) (e:List Int) (f:List Int) (g:List Bool) (i258:Int):Option (Bool×List (Int×nd)×List Int×List Int×List Bool×Int):=
  (bk fu f i258 [a.Result]).bind fun b =>
  (bj b.1 b.2 a.Yd).bind fun c =>
  Qj d e g c.2 c.1
def Ws (fu:Nat)  (h:ze) (g:Tc) (a:List (Int×nd)) (b:List Int) (d:List Int) (c:List Bool) (e:Int) (p_2:vd):Option (Bool×List (Int×nd)×List Int×List Int×List Bool×Int):=
  if p_2.Op=23 then
    (sr fu h d e p_2.A).bind fun j =>
    (bj j.2.1 j.2.2 j.1.Result).bind fun n =>
    Qj a b c n.2 n.1
  else
    if p_2.Op=29 then
      (sr fu h d e p_2.A).bind fun o =>
      (i64 (10+p_2.A)).bind fun i95 =>
      (bj o.2.1 o.2.2 i95).bind fun p =>
      Qj a b c p.2 p.1
    else
      if p_2.Op=24 then
        if g.Kind≠2 then
          (Jj e 8).bind fun u =>
          tq fu g a b d c u
        else
          tq fu g a b d c e
      else
        if p_2.Op=25 then
          if g.Kind=2 then
            (Jj e 8).bind fun v =>
            uq a b d c v
          else
            uq a b d c e
        else
          if p_2.Op=26 then
            (h.m).bind fun w =>
            (at_ w.uc p_2.A).bind fun x =>
            (bk fu d e [x.De]).bind fun q =>
            Qj a b c q.2 q.1
          else
            if p_2.Op=27 then
              (h.m).bind fun y =>
              (at_ y.uc p_2.A).bind fun z =>
              (bj d e z.De).bind fun r =>
              Qj a b c r.2 r.1
            else
              if p_2.Op=28 then
                (nm d e).bind fun i =>
                if i.2.2=0 then
                  (Lm i.1).bind fun B =>
                  vq a b c i (!B)
                else
                  vq a b c i false
              else
                if p_2.Op=30 then
                  (nm d e).bind fun k =>
                  (Gr h k.2.1 k.2.2).bind fun f =>
                  if f.1.isSome=true then
                    (f.1).bind fun l =>
                    if k.1≠l.Yd then
                      (Jj f.2.2 9).bind fun C =>
                      wq a b c f l C
                    else
                      wq a b c f l f.2.2
                  else
                    Qj a b c f.2.2 f.2.1
                else
                  if p_2.Op=31 then
                    if g.Kind≠3 then
                      (Jj e 8).bind fun D =>
                      xq fu g a b d c D
                    else
                      xq fu g a b d c e
                  else
                    if p_2.Op=32 then
                      (Gr h d e).bind fun s =>
                      (bj s.2.1 s.2.2 2).bind fun t =>
                      Qj a b c t.2 t.1
                    else
                      Qj a b c e d
def Yi  (i52:Int) (a:List Int) (b:List Int) (c:List Bool) (d:List (Int×nd)):Option (Bool×List (Int×nd)×List Int×List Int×List Bool×Int):=
  some (true,d,a,b,c,i52)
def Mq (p_2:vd) (b:Tc) (c:List (Int×nd)) (d:List Int) (e:List Int) (f:List Bool) (i99:Int):Option (Bool×List (Int×nd)×List Int×List Int×List Bool×Int):=
  (at_ b.Cc p_2.A).bind fun g =>
  (bj e i99 g).bind fun a =>
  Yi a.2 d a.1 f c
def Cp (fu:Nat) (d:List (Int×nd)) (e:List Int) (f:List Bool) (a:Int×List Int×Int) (i227:Int):Option (Bool×List (Int×nd)×List Int×List Int×List Bool×Int):=
  (bk fu a.2.1 i227 [a.1]).bind fun b =>
  (bj b.1 b.2 2).bind fun c =>
  Yi c.2 e c.1 f d
def Nq (fu:Nat) (b:List (Int×nd)) (c:List Int) (d:List Bool) (a:Int×List Int×Int) (e:Bool):Option (Bool×List (Int×nd)×List Int×List Int×List Bool×Int):=
  if e=true then
    (Jj a.2.2 9).bind fun f =>
    Cp fu b c d a f
  else
    Cp fu b c d a a.2.2
def Dl (fu:Nat) (i:ze) (p_2:vd) (j:Tc) (d:List (Int×nd)) (e:List Int) (f:List Int) (g:List Bool) (h:Int) (n:Bool):Option (Bool×List (Int×nd)×List Int×List Int×List Bool×Int):=
  if n=true then
    (bk fu f h [2,2]).bind fun k =>
    (bj k.1 k.2 2).bind fun l =>
    Yi l.2 e l.1 g d
  else
    if p_2.Op=21 then
      (kl i j d e f g h p_2.A).bind fun b =>
      some (false,b.1,b.2.1,b.2.2.1,b.2.2.2.1,b.2.2.2.2)
    else
      if p_2.Op=22 then
        (bk fu f h [2]).bind fun m =>
        (kl i j d e m.1 g m.2 p_2.A).bind fun c =>
        Yi c.2.2.2.2 c.2.1 c.2.2.1 c.2.2.2.1 c.1
      else
        (Ws fu i j d e f g h p_2).bind fun a =>
        some (a.1,a.2.1,a.2.2.1,a.2.2.2.1,a.2.2.2.2.1,a.2.2.2.2.2)
def nn (fu:Nat) (f:ze) (p_2:vd) (g:Tc) (a:List (Int×nd)) (b:List Int) (c:List Int) (d:List Bool) (e:Int) (j:Bool):Option (Bool×List (Int×nd)×List Int×List Int×List Bool×Int):=
  if j=true then
    (bk fu c e [1,1]).bind fun h =>
    (bj h.1 h.2 2).bind fun i =>
    Yi i.2 b i.1 d a
  else
    if p_2.Op=19 then
      Dl fu f p_2 g a b c d e true
    else
      Dl fu f p_2 g a b c d e (decide (p_2.Op=20))
def Nk (fu:Nat) (g:ze) (p_2:vd) (h:Tc) (a:List (Int×nd)) (b:List Int) (e:List Int) (c:List Bool) (f:Int) (i:Bool):Option (Bool×List (Int×nd)×List Int×List Int×List Bool×Int):=
  if i=true then
    (nm e f).bind fun d =>
    if d.1≠1 then
      Nq fu a b c d (decide (d.1≠2))
    else
      Nq fu a b c d false
  else
    if (15:Int)≤p_2.Op then
      nn fu g p_2 h a b e c f (decide (p_2.Op≤18))
    else
      nn fu g p_2 h a b e c f false
def jm (fu:Nat) (f:ze) (p_2:vd) (g:Tc) (a:List (Int×nd)) (b:List Int) (c:List Int) (d:List Bool) (e:Int) (j:Bool):Option (Bool×List (Int×nd)×List Int×List Int×List Bool×Int):=
  if j=true then
    (bk fu c e [1,1]).bind fun h =>
    (bj h.1 h.2 1).bind fun i =>
    Yi i.2 b i.1 d a
  else
    if p_2.Op=13 then
      Nk fu f p_2 g a b c d e true
    else
      Nk fu f p_2 g a b c d e (decide (p_2.Op=14))
def km (fu:Nat)  (g:ze) (f:Tc) (b:List (Int×nd)) (c:List Int) (d:List Int) (a:List Bool) (e:Int) (p_2:vd):Option (Bool×List (Int×nd)×List Int×List Int×List Bool×Int):=
  if p_2.Op=1 then
    (bj d e 1).bind fun h =>
    Yi h.2 c h.1 a b
  else
    if p_2.Op=2 then
      (bj d e 2).bind fun i =>
      Yi i.2 c i.1 a b
    else
      if p_2.Op=3 then
        (at_ a p_2.A).bind fun p =>
        if p=true then
          Mq p_2 f b c d a e
        else
          (Jj e 11).bind fun q =>
          Mq p_2 f b c d a q
      else
        if p_2.Op=4 then
          (at_ f.Cc p_2.A).bind fun r =>
          (bk fu d e [r]).bind fun j =>
          (at_ a p_2.A).bind fun s =>
          Yi j.2 c j.1 (a.set p_2.A.toNat true) b
        else
          if p_2.Op=5 then
            (nm d e).bind fun k =>
            Yi k.2.2 c k.2.1 a b
          else
            if p_2.Op=6 then
              (bk fu d e [1]).bind fun l =>
              (bj l.1 l.2 1).bind fun m =>
              Yi m.2 c m.1 a b
            else
              if p_2.Op=7 then
                (bk fu d e [2]).bind fun n =>
                (bj n.1 n.2 2).bind fun o =>
                Yi o.2 c o.1 a b
              else
                if (8:Int)≤p_2.Op then
                  jm fu g p_2 f b c d a e (decide (p_2.Op≤12))
                else
                  jm fu g p_2 f b c d a e false
def Dp (p_2:Int) (b:Int) (c:Int→(List Bool)→(List Int)→(List Int)→(List (Int×nd))→Option cg) (a:Int) (d:List Bool) (e:List Int) (f:List Int) (g:List (Int×nd)):Option cg :=
  if a≠0 then
    some (cg.mk a p_2 b)
  else
    c a d e f g
def Hj (fu:Nat) (p_1:ze) (p_2:Int) (b:Tc):Nat→Int→(List Bool)→(List Int)→(List Int)→(List (Int×nd))→Option cg
  | 0,_,_,_,_,_=>none
  | n+1,i223,l,e,m,f =>
    if (0:Int)<(e.length:Int) then
      (at_ e 0).bind fun c =>
      (cut e 1 e.length).bind fun h =>
      (Nc f c).bind fun i =>
      (Us i).bind fun g =>
      (at_ b.Code c).bind fun j =>
      (km fu p_1 b f h g.stack g.has i223 j).bind fun a =>
      if a.1=true then
        (i64 (c+1)).bind fun k =>
        (kl p_1 b a.2.1 a.2.2.1 a.2.2.2.1 a.2.2.2.2.1 a.2.2.2.2.2 k).bind fun d =>
        Dp p_2 c (Hj fu p_1 p_2 b n) d.2.2.2.2 d.2.2.2.1 d.2.1 d.2.2.1 d.1
      else
        Dp p_2 c (Hj fu p_1 p_2 b n) a.2.2.2.2.2 a.2.2.2.2.1 a.2.2.1 a.2.2.2.1 a.2.1
    else
      some (cg.mk 0 0 0)
def Oq (fu:Nat) (p_1:ze) (p_2:Int) (b:Tc):Nat→Int→(List Bool)→Option cg
  | 0,_,_=>none
  | n+1,i60,c =>
    if i60<b.Params then
      (at_ c i60).bind fun d =>
      (i64 (i60+1)).bind fun i100 =>
      Oq fu p_1 p_2 b n i100 (c.set i60.toNat true)
    else
      (kl p_1 b ([]:List (Int×nd)) ([]:List Int) ([]:List Int) c 0 0).bind fun a =>
      Hj fu p_1 p_2 b fu a.2.2.2.2 a.2.2.2.1 a.2.1 a.2.2.1 a.1
def Ot (fu:Nat)  (p_1:ze) (p_2:Int):Option cg :=
  (p_1.m).bind fun b =>
  (at_ b.lb p_2).bind fun a =>
  (al (a.Cc.length:Int)).bind fun c =>
  Oq fu p_1 p_2 a ((a.Params - 0).toNat+1) 0 (List.replicate c (false:Bool))
def hn (a:Int) (b:List Int) (d:vd) (c:Int→(List Int)→Option (List Int)) (e:Bool):Option (List Int):=
  if e=true then
    (app b [d.A]).bind fun f =>
    (i64 (a+1)).bind fun g =>
    c g f
  else
    (i64 (a+1)).bind fun h =>
    c h b
def im (i144:Int) (c:Tc) (e:Int→(List Int)→Option (List Int)):Nat→Int→(List Int)→Option (List Int)
  | 0,_,_=>none
  | n+1,d,b =>
    if d<(c.Code.length:Int) then
      (at_ c.Code d).bind fun a =>
      if a.Op=23 then
        hn d b a (im i144 c e n) (!(b.contains a.A))
      else
        if a.Op=29 then
          hn d b a (im i144 c e n) (!(b.contains a.A))
        else
          hn d b a (im i144 c e n) false
    else
      (i64 (i144+1)).bind fun f =>
      e f b
def jn (p_1:ze):Nat→Int→(List Int)→Option (List Int)
  | 0,_,_=>none
  | n+1,i144,a =>
    if i144<(a.length:Int) then
      (p_1.m).bind fun c =>
      (at_ a i144).bind fun d =>
      (at_ c.lb d).bind fun b =>
      im i144 b (jn p_1 n) (b.Code.length+1) 0 a
    else
      some a
def At (fu:Nat)  (p_1:ze) (p_2:Int):Option (List Int):=
  jn p_1 fu 0 ([p_2]:List Int)
def Xs  (p_1:vd) (p_2:Int) (a:Int):Option Bool :=
  if p_1.Op=p_2 then
    some (decide (p_1.A=a))
  else
    some false
def ct  (p_1:Int) (p_2:Option ze) (a:Int) (b:Int):Option Bool :=
  (p_2).bind fun c =>
  (c.m).bind fun d =>
  (at_ d.lb p_1).bind fun e =>
  (Ow e.Code (fun f=>Xs f a b)).bind fun g =>
  some g
def Hq (a:Int) (b:Int) (c:Int→Int→Option cg) (d:Bool):Option cg :=
  if d=true then
    (i64 (a+1)).bind fun e =>
    (i64 (b+1)).bind fun f =>
    c e f
  else
    (i64 (b+1)).bind fun g =>
    c a g
def kn (fu:Nat) (p_1:ze) (b:ub) (c:Int) (d:Int) (e:Int) (f:Int→Option cg):Nat→Int→Int→Option cg
  | 0,_,_=>none
  | n+1,g,a =>
    if a<(b.lb.length:Int) then
      (at_ b.lb a).bind fun h =>
      if h.Kind=4 then
        (At fu p_1 a).bind fun i =>
        (Up i (fun j=>ct j (some p_1) e c)).bind fun k =>
        Hq g a (kn fu p_1 b c d e f n) k
      else
        Hq g a (kn fu p_1 b c d e f n) false
    else
      if (1:Int)<g then
        some (cg.mk 8 0 c)
      else
        (i64 (d+1)).bind fun l =>
        f l
def Lk (fu:Nat) (p_1:ze) (a:ub) (b:Int) (d:Int→Option cg):Nat→Int→Option cg
  | 0,_=>none
  | n+1,c =>
    if c<2 then
      (at_ [26,27] c).bind fun e =>
      kn fu p_1 a b c e (Lk fu p_1 a b d n) (a.lb.length+1) 0 0
    else
      (i64 (b+1)).bind fun f =>
      d f
def Mk (fu:Nat) (p_1:ze) (a:ub):Nat→Int→Option cg
  | 0,_=>none
  | n+1,b =>
    if b<(a.uc.length:Int) then
      Lk fu p_1 a b (Mk fu p_1 a n) 3 0
    else
      some (cg.mk 0 0 0)
def Bt (fu:Nat)  (p_1:ze):Option cg :=
  (p_1.m).bind fun a =>
  Mk fu p_1 a (a.uc.length+1) 0
def zq (fu:Nat) (p_1:ub):Nat→Int→Option cg
  | 0,_=>none
  | n+1,i30 =>
    if i30<(p_1.lb.length:Int) then
      (Ot fu (ze.mk (some p_1)) i30).bind fun a =>
      if a.mf≠0 then
        some a
      else
        (i64 (i30+1)).bind fun i46 =>
        zq fu p_1 n i46
    else
      (Bt fu (ze.mk (some p_1))).bind fun b =>
      some b
def dt (fu:Nat)  (p_1:ub):Option cg :=
  (Nt (ze.mk (some p_1))).bind fun a =>
  if a.mf≠0 then
    some a
  else
    zq fu p_1 (p_1.lb.length+1) 0
end Go.Y
namespace Go.Y
open Go.yb Go.kc
def Pw  (p_1:Int) (p_2:Int):Option (List Int×Int×Int×Int):=
  (al p_1).bind fun a =>
  some ((List.replicate a (0:Int)),0,p_1,p_2)
def Om  (a:Int):Option Int :=
  some a
def mr  (b:List Int) (a:Int) (c:Int) (d:Int) (p_2:Int):Option (List Int×Int×Int×Int):=
  (al p_2).bind fun e =>
  (cut b 0 a).bind fun f =>
  some ((lq (List.replicate e (0:Int)) f),a,c,d)
def Pq (p_2:Int) (i14:Int) (i15:Int) (i16:Int) (a:List Int):Option (Bool×List Int×Int×Int×Int):=
  (at_ a i14).bind fun b =>
  (i64 (i14+1)).bind fun i56 =>
  some (true,(a.set i14.toNat p_2),i56,i15,i16)
def ry (p_2:Int) (i22:Int) (i23:Int) (i24:Int) (a:List Int):Option (Bool×List Int×Int×Int×Int):=
  Pq p_2 i22 i23 i24 a
def sv (a:List Int) (p_2:Int) (c:Int) (e:Int) (d:Int):Option (Bool×List Int×Int×Int×Int):=
  if c=(a.length:Int) then
    (i64 (2*(a.length:Int))).bind fun i29 =>
    (mr a c e d (min i29 d)).bind fun b =>
    ry p_2 b.2.1 b.2.2.1 b.2.2.2 b.1
  else
    Pq p_2 c e d a
def Co  (c:List Int) (a:Int) (d:Int) (b:Int) (p_2:Int):Option (Bool×List Int×Int×Int×Int):=
  if a=b then
    some (false,c,a,d,b)
  else
    sv c p_2 a d b
def Ey  (i20:Int) (i21:Int) (i22:Int) (a:List Int):Option (List Int×Int×Int×Int):=
  some (a,i20,i21,i22)
def br (b:List Int) (c:Int) (d:Int) (i12:Int) (e:Bool):Option (List Int×Int×Int×Int):=
  if e=true then
    (quo (b.length:Int) 2).bind fun i27 =>
    (mr b i12 c d (max i27 c)).bind fun a =>
    Ey a.2.1 a.2.2.1 a.2.2.2 a.1
  else
    some (b,i12,c,d)
def Vp  (a:List Int) (d:Int) (b:Int) (c:Int) (p_2:Int):Option (List Int×Int×Int×Int):=
  (i64 (d - p_2)).bind fun i12 =>
  (quo (a.length:Int) 4).bind fun i15 =>
  if i12≤i15 then
    br a b c i12 (decide (b<(a.length:Int)))
  else
    br a b c i12 false
def wj  (p_2:Int) (a:Int) (b:Int):Option Unit :=
  some ()
def Pk  (a:Int) (b:Int) (c:Int) (p_2:Int):Option (Int×Int×Int):=
  if a≠5 then
    (wj 5 0 p_2).bind fun d =>
    some (5,b,p_2)
  else
    some (a,b,c)
def gl  (p_1:Bool):Option Int :=
  if p_1=true then
    some 1
  else
    some 0
def cr (p_1:Int) (p_2:Int) (a:Int) (b:Bool):Option Int :=
  if b=true then
    (gl (decide (p_1=11))).bind fun c =>
    some (On (c*p_2))
  else
    if p_1=11 then
      (quo p_2 a).bind fun i16 =>
      some i16
    else
      (Xm p_2 a).bind fun i18 =>
      some i18
def dr (p_1:Int) (p_2:Int) (a:Int) (gf:Bool):Option Int :=
  if gf=true then
    if p_2=(-9223372036854775808) then
      cr p_1 p_2 a (decide (a=(-1)))
    else
      cr p_1 p_2 a false
  else
    if p_1=13 then
      (gl (decide (p_2=a))).bind fun b =>
      some b
    else
      if p_1=14 then
        (gl (decide (p_2≠a))).bind fun c =>
        some c
      else
        if p_1=15 then
          (gl (decide (p_2<a))).bind fun d =>
          some d
        else
          if p_1=16 then
            (gl (decide (p_2≤a))).bind fun e =>
            some e
          else
            if p_1=17 then
              (gl (decide (a<p_2))).bind fun f =>
              some f
            else
              if p_1=18 then
                (gl (decide (a≤p_2))).bind fun g =>
                some g
              else
                if p_1=19 then
                  some (sA p_2 a)
                else
                  some (zA p_2 a)
def Zt  (p_1:Int) (p_2:Int) (a:Int):Option Int :=
  if p_1=8 then
    some (On (p_2+a))
  else
    if p_1=9 then
      some (On (p_2 - a))
    else
      if p_1=10 then
        some (On (p_2*a))
      else
        if p_1=11 then
          dr p_1 p_2 a (decide (p_1=11))
        else
          dr p_1 p_2 a (decide (p_1=12))
def np (p_1:ub):Nat→Int→(List Int)→Option (List Int)
  | 0,_,_=>none
  | n+1,i43,a =>
    if i43<(p_1.lb.length:Int) then
      (at_ p_1.lb i43).bind fun b =>
      if b.Kind=4 then
        (app a [i43]).bind fun c =>
        (i64 (i43+1)).bind fun i104 =>
        np p_1 n i104 c
      else
        (i64 (i43+1)).bind fun i106 =>
        np p_1 n i106 a
    else
      some a
def Kp  (p_1:ub):Option (List Int):=
  np p_1 (p_1.lb.length+1) 0 []
end Go.Y
namespace Go.Y
open Go.yb Go.kc
def Qw  (p_1:Int):Option (List Int×Int×Int):=
  (al p_1).bind fun a =>
  some ((List.replicate a (0:Int)),0,0)
def sy (a:List Int) (b:Int):Option Bool :=
  some (decide (b=(a.length:Int)))
def lz  (a:List Int) (c:Int) (b:Int):Option Bool :=
  sy a b
def Yy  (a:Int):Option Bool :=
  some (decide (a=0))
def Mv (a:Int) (b:Int) (c:List Int):Option (List Int×Int×Int):=
  (i64 (b+1)).bind fun i36 =>
  some (c,a,i36)
def Rw  (a:List Int) (b:Int) (c:Int) (p_2:Int):Option (List Int×Int×Int):=
  (i64 (b+c)).bind fun i15 =>
  (Xm i15 (a.length:Int)).bind fun i17 =>
  (at_ a i17).bind fun d =>
  Mv b c (a.set i17.toNat p_2)
def tv (a:List Int) (b:Int) (c:Int) (i25:Int):Option (Int×List Int×Int×Int):=
  (i64 (b - 1)).bind fun i31 =>
  some (c,a,i25,i31)
def Cw  (a:List Int) (b:Int) (c:Int):Option (Int×List Int×Int×Int):=
  (at_ a b).bind fun d =>
  (i64 (b+1)).bind fun i26 =>
  (Xm i26 (a.length:Int)).bind fun i28 =>
  tv a c d i28
def gv (i39:Int) (a:Int→(List Int)→Option (List Int)) (b:List Int):Option (List Int):=
  (i64 (i39+1)).bind fun i105 =>
  a i105 b
def qp (a:List Int) (b:Int) (c:Int):Nat→Int→(List Int)→Option (List Int)
  | 0,_,_=>none
  | n+1,i39,d =>
    if i39<c then
      (i64 (b+i39)).bind fun i78 =>
      (Xm i78 (a.length:Int)).bind fun i80 =>
      (at_ a i80).bind fun e =>
      (app d [e]).bind fun f =>
      gv i39 (qp a b c n) f
    else
      some d
def Zv  (b:List Int) (c:Int) (a:Int):Option (List Int):=
  qp b c a ((a - 0).toNat+1) 0 []
end Go.Y
namespace Go.Y
open Go.yb Go.kc
structure Lc where
  l:List Int
  first:Int
  n:Int
deriving Inhabited
def Pt (Ic:List Lc) (i:Int):Option Bool:=(at_ Ic i).bind fun b=>lz b.l b.first b.n
def Ct (Ic:List Lc) (i:Int):Option Bool:=(at_ Ic i).bind fun b=>Yy b.n
def au (Ic:List Lc) (i v:Int):Option (List Lc):=
  (at_ Ic i).bind fun b=>(Rw b.l b.first b.n v).bind fun r=>some (Ic.set i.toNat ⟨r.1,r.2.1,r.2.2⟩)
def Qt (Ic:List Lc) (i:Int):Option (Int×List Lc):=
  (at_ Ic i).bind fun b=>(Cw b.l b.first b.n).bind fun r=>some (r.1,Ic.set i.toNat ⟨r.2.1,r.2.2.1,r.2.2.2⟩)
end Go.Y
namespace Go.Y
open Go.yb Go.kc
structure nb where
  unit:Int
  Pf:Int
  base:Int
  deriving DecidableEq,Inhabited,Repr
instance:Ha nb where
  sz:=3
  pos:=by decide
  cs μ l x:=l=[.int .i64 x.unit,.int .i64 x.Pf,.int .i64 x.base]
  Dg h:=by obtain rfl:=h;rfl
  up le h:=by exact h
  pg h:=by obtain rfl:=h;rfl
def Rj  (c:Int) (d:Int) (e:Int) (f:List Int) (g:Int) (h:Int) (i:Int) (p_2:Int):Option (Int×Int×Int×List Int×Int×Int×Int):=
  (Co f g h i p_2).bind fun a =>
  if a.1=true then
    some (c,d,e,a.2.1,a.2.2.1,a.2.2.2.1,a.2.2.2.2)
  else
    (Pk c d e 4).bind fun b =>
    some (b.1,b.2.1,b.2.2,a.2.1,a.2.2.1,a.2.2.2.1,a.2.2.2.2)
def zj  (d:Int) (e:Int) (f:Int) (b:List Int) (c:Int) (g:Int) (h:Int):Option (Int×Int×Int×Int×List Int×Int×Int×Int):=
  (Om c).bind fun i =>
  (i64 (i - 1)).bind fun i27 =>
  (at_ b i27).bind fun j =>
  (Vp b c g h 1).bind fun a =>
  some (j,d,e,f,a.1,a.2.1,a.2.2.1,a.2.2.2)
def Ns (a:List Lc) (b:Int) (i17:Int) (i18:Int):Option (Bool×List Lc×Int×Int×Int):=
  some (decide (i17≠1),a,i17,i18,b)
def jy (p_2:vd) (a:List Lc) (b:Int):Option (Bool×List Lc×Int×Int×Int):=
  Ns a b 2 p_2.A
def ky (p_2:vd) (a:List Lc) (b:Int):Option (Bool×List Lc×Int×Int×Int):=
  Ns a b 3 p_2.A
def rp (p_2:vd) (a:List Lc) (b:Int) (c:Bool):Option (Bool×List Lc×Int×Int×Int):=
  if c=true then
    ky p_2 a b
  else
    Ns a b 1 0
def Iq (p_2:vd) (a:List Lc) (b:Int) (hd:Bool):Option (Bool×List Lc×Int×Int×Int):=
  if hd=true then
    jy p_2 a b
  else
    if p_2.Op=27 then
      (Ct a p_2.A).bind fun c =>
      rp p_2 a b c
    else
      rp p_2 a b false
def Dt  (a:List Lc) (d:Int) (e:Int) (b:Int) (p_2:vd):Option (Bool×List Lc×Int×Int×Int):=
  if p_2.Op=26 then
    (Pt a p_2.A).bind fun c =>
    Iq p_2 a b c
  else
    Iq p_2 a b false
def uv (d:ub) (e:List Lc) (f:Int) (g:Int) (h:Int) (b:List nb) (i37:Int):Option (List Lc×Int×Int×Int×List nb):=
  (at_ b i37).bind fun c =>
  (at_ d.lb c.unit).bind fun i =>
  (at_ i.Code c.Pf).bind fun j =>
  (Dt e f g h j).bind fun a =>
  some (a.2.1,a.2.2.1,a.2.2.2.1,a.2.2.2.2,b)
def hl  (f:ub) (c:List Lc) (b:Int) (d:Int) (e:Int) (a:List nb):Option (List Lc×Int×Int×Int×List nb):=
  if b≤3 then
    (i64 ((a.length:Int) - 1)).bind fun i39 =>
    (at_ a i39).bind fun g =>
    uv f c b d e a i39
  else
    some (c,b,d,e,a)
def Qq (b:List nb) (i71:Int):Nat→Int→Int→Int→Int→Int→Int→Int→(List Int)→Option (Int×Int×Int×List nb×List Int×Int×Int×Int)
  | 0,_,_,_,_,_,_,_,_=>none
  | n+1,i81,i82,i83,i84,i85,i86,i87,c =>
    if i81<i71 then
      (Rj i82 i83 i84 c i85 i86 i87 0).bind fun a =>
      (i64 (i81+1)).bind fun i109 =>
      Qq b i71 n i109 a.1 a.2.1 a.2.2.1 a.2.2.2.2.1 a.2.2.2.2.2.1 a.2.2.2.2.2.2 a.2.2.2.1
    else
      some (i82,i83,i84,b,c,i85,i86,i87)
def vv (p_2:Int) (c:Int) (d:Int) (e:Int) (a:List nb) (f:List Int) (g:Int) (h:Int) (i:Int) (j:Tc) (i53:Int):Option (Int×Int×Int×List nb×List Int×Int×Int×Int):=
  if (a.length:Int)=40 then
    (Pk c d e 4).bind fun b =>
    some (b.1,b.2.1,b.2.2,a,f,g,h,i)
  else
    (app a [(nb.mk p_2 0 i53)]).bind fun k =>
    (i64 ((j.Cc.length:Int) - j.Params)).bind fun i71 =>
    Qq k i71 ((i71 - 0).toNat+1) 0 c d e g h i f
def Dw  (c:ub) (d:Int) (e:Int) (f:Int) (g:List nb) (h:List Int) (a:Int) (i:Int) (j:Int) (p_2:Int):Option (Int×Int×Int×List nb×List Int×Int×Int×Int):=
  (at_ c.lb p_2).bind fun b =>
  (Om a).bind fun k =>
  (i64 (k - b.Params)).bind fun i57 =>
  vv p_2 d e f g h a i j b i57
def hv (c:Int) (b:Int×Int×Int×Int×List Int×Int×Int×Int) (d:List nb) (i111:Int) (i112:Int) (i113:Int) (e:List Int):Option (Int×Int×Int×Int×List nb×List Int×Int×Int×Int):=
  (Rj b.2.1 b.2.2.1 b.2.2.2.1 e i111 i112 i113 b.1).bind fun a =>
  some (a.1,a.2.1,a.2.2.1,c,d,a.2.2.2.1,a.2.2.2.2.1,a.2.2.2.2.2.1,a.2.2.2.2.2.2)
def iv (c:Int) (a:Int×Int×Int×Int×List Int×Int×Int×Int) (i61:Int) (d:List nb):Option (Int×Int×Int×Int×List nb×List Int×Int×Int×Int):=
  (Om a.2.2.2.2.2.1).bind fun e =>
  (i64 (e - i61)).bind fun i121 =>
  (Vp a.2.2.2.2.1 a.2.2.2.2.2.1 a.2.2.2.2.2.2.1 a.2.2.2.2.2.2.2 i121).bind fun b =>
  hv c a d b.2.1 b.2.2.1 b.2.2.2 b.1
def jv (b:Int) (a:List nb) (c:Int×Int×Int×Int×List Int×Int×Int×Int) (i59:Int) (i60:Int) (i61:Int):Option (Int×Int×Int×Int×List nb×List Int×Int×Int×Int):=
  (i64 ((a.length:Int) - 1)).bind fun i99 =>
  (cut a 0 i99).bind fun d =>
  iv b c i61 d
def Lp  (l:ub) (c:Int) (d:Int) (e:Int) (j:Int) (b:List nb) (f:List Int) (g:Int) (h:Int) (i:Int) (p_2:vd):Option (Int×Int×Int×Int×List nb×List Int×Int×Int×Int):=
  if p_2.Op=23 then
    (Dw l c d e b f g h i p_2.A).bind fun a =>
    some (a.1,a.2.1,a.2.2.1,j,a.2.2.2.1,a.2.2.2.2.1,a.2.2.2.2.2.1,a.2.2.2.2.2.2.1,a.2.2.2.2.2.2.2)
  else
    if p_2.Op=24 then
      (zj c d e f g h i).bind fun m =>
      (i64 ((b.length:Int) - 1)).bind fun i62 =>
      (at_ b i62).bind fun k =>
      jv j b m k.unit k.Pf k.base
    else
      if p_2.Op=25 then
        none
      else
        if p_2.Op=29 then
          none
        else
          if p_2.Op=30 then
            none
          else
            if p_2.Op=31 then
              (zj c d e f g h i).bind fun n =>
              none
            else
              if p_2.Op=32 then
                none
              else
                some (c,d,e,j,b,f,g,h,i)
end Go.Y
namespace Go.Y
open Go.yb Go.kc
def ai (b:ub) (i122:Int) (i123:Int) (i124:Int) (c:List Lc) (d:List Int) (i132:Int) (e:List nb) (i137:Int) (i138:Int) (i139:Int) (f:List Int):Option (Bool×List Lc×Int×Int×Int×List Int×Int×List nb×List Int×Int×Int×Int):=
  (hl b c i122 i123 i124 e).bind fun a =>
  some (true,a.1,a.2.1,a.2.2.1,a.2.2.2.1,d,i132,a.2.2.2.2,f,i137,i138,i139)
def wv (c:ub) (d:List Int) (e:Int) (a:List Lc×Int×Int×Int×List nb) (i61:Int) (b:nb) (i119:Int) (i159:Int) (i160:Int) (i161:Int) (i162:Int) (i163:Int) (i164:Int) (f:List Int):Option (Bool×List Lc×Int×Int×Int×List Int×Int×List nb×List Int×Int×Int×Int):=
  ai c i159 i160 i161 a.1 d e (a.2.2.2.2.set i61.toNat (nb.mk b.unit i119 b.base)) i162 i163 i164 f
def xv (d:ub) (e:List Int) (f:Int) (b:List Lc×Int×Int×Int×List nb) (i61:Int) (c:nb) (i119:Int) (a:Int×Int×Int×Int×List Int×Int×Int×Int) (g:List Int):Option (Bool×List Lc×Int×Int×Int×List Int×Int×List nb×List Int×Int×Int×Int):=
  ai d a.2.1 a.2.2.1 a.2.2.2.1 b.1 e f (b.2.2.2.2.set i61.toNat (nb.mk c.unit i119 c.base)) a.2.2.2.2.2.1 a.2.2.2.2.2.2.1 a.2.2.2.2.2.2.2 g
def Ep (f:ub) (g:List Int) (h:Int) (c:List Lc×Int×Int×Int×List nb) (i61:Int) (d:nb) (i:vd) (i119:Int) (j:Int×Int×Int×Int×List Int×Int×Int×Int) (a:Int×Int×Int×Int×List Int×Int×Int×Int) (k:Bool):Option (Bool×List Lc×Int×Int×Int×List Int×Int×List nb×List Int×Int×Int×Int):=
  if k=true then
    (Pk a.2.1 a.2.2.1 a.2.2.2.1 1).bind fun e =>
    ai f e.1 e.2.1 e.2.2 c.1 g h (c.2.2.2.2.set i61.toNat (nb.mk d.unit i119 d.base)) a.2.2.2.2.2.1 a.2.2.2.2.2.2.1 a.2.2.2.2.2.2.2 a.2.2.2.2.1
  else
    (Zt i.Op a.1 j.1).bind fun l =>
    (Rj a.2.1 a.2.2.1 a.2.2.2.1 a.2.2.2.2.1 a.2.2.2.2.2.1 a.2.2.2.2.2.2.1 a.2.2.2.2.2.2.2 l).bind fun b =>
    ai f b.1 b.2.1 b.2.2.1 c.1 g h (c.2.2.2.2.set i61.toNat (nb.mk d.unit i119 d.base)) b.2.2.2.2.1 b.2.2.2.2.2.1 b.2.2.2.2.2.2 b.2.2.2.1
def Fp (f:ub) (g:List Int) (h:Int) (l:List Int) (m:Int) (n:Int) (o:Int) (a:List Lc×Int×Int×Int×List nb) (i61:Int) (b:nb) (c:vd) (i119:Int) (u:Bool):Option (Bool×List Lc×Int×Int×Int×List Int×Int×List nb×List Int×Int×Int×Int):=
  if u=true then
    (zj a.2.1 a.2.2.1 a.2.2.2.1 l m n o).bind fun e =>
    (zj e.2.1 e.2.2.1 e.2.2.2.1 e.2.2.2.2.1 e.2.2.2.2.2.1 e.2.2.2.2.2.2.1 e.2.2.2.2.2.2.2).bind fun q =>
    if c.Op=11 then
      Ep f g h a i61 b c i119 e q (decide (e.1=0))
    else
      if c.Op=12 then
        Ep f g h a i61 b c i119 e q (decide (e.1=0))
      else
        Ep f g h a i61 b c i119 e q false
  else
    if c.Op=21 then
      (at_ (a.2.2.2.2.set i61.toNat (nb.mk b.unit i119 b.base)) i61).bind fun s =>
      ai f a.2.1 a.2.2.1 a.2.2.2.1 a.1 g h ((a.2.2.2.2.set i61.toNat (nb.mk b.unit i119 b.base)).set i61.toNat (nb.mk s.unit c.A s.base)) m n o l
    else
      if c.Op=22 then
        (zj a.2.1 a.2.2.1 a.2.2.2.1 l m n o).bind fun d =>
        if d.1=0 then
          (at_ (a.2.2.2.2.set i61.toNat (nb.mk b.unit i119 b.base)) i61).bind fun t =>
          ai f d.2.1 d.2.2.1 d.2.2.2.1 a.1 g h ((a.2.2.2.2.set i61.toNat (nb.mk b.unit i119 b.base)).set i61.toNat (nb.mk t.unit c.A t.base)) d.2.2.2.2.2.1 d.2.2.2.2.2.2.1 d.2.2.2.2.2.2.2 d.2.2.2.2.1
        else
          ai f d.2.1 d.2.2.1 d.2.2.2.1 a.1 g h (a.2.2.2.2.set i61.toNat (nb.mk b.unit i119 b.base)) d.2.2.2.2.2.1 d.2.2.2.2.2.2.1 d.2.2.2.2.2.2.2 d.2.2.2.2.1
      else
        if c.Op=26 then
          (zj a.2.1 a.2.2.1 a.2.2.2.1 l m n o).bind fun i =>
          (au a.1 c.A i.1).bind fun v =>
          (wj 2 c.A i.1).bind fun x =>
          ai f i.2.1 i.2.2.1 i.2.2.2.1 v g h (a.2.2.2.2.set i61.toNat (nb.mk b.unit i119 b.base)) i.2.2.2.2.2.1 i.2.2.2.2.2.2.1 i.2.2.2.2.2.2.2 i.2.2.2.2.1
        else
          if c.Op=27 then
            (Qt a.1 c.A).bind fun r =>
            (wj 3 c.A r.1).bind fun y =>
            (Rj a.2.1 a.2.2.1 a.2.2.2.1 l m n o r.1).bind fun p =>
            ai f p.1 p.2.1 p.2.2.1 r.2 g h (a.2.2.2.2.set i61.toNat (nb.mk b.unit i119 b.base)) p.2.2.2.2.1 p.2.2.2.2.2.1 p.2.2.2.2.2.2 p.2.2.2.1
          else
            if c.Op=28 then
              (zj a.2.1 a.2.2.1 a.2.2.2.1 l m n o).bind fun j =>
              (app g [j.1]).bind fun w =>
              (wj 1 0 j.1).bind fun z =>
              ai f j.2.1 j.2.2.1 j.2.2.2.1 a.1 w h (a.2.2.2.2.set i61.toNat (nb.mk b.unit i119 b.base)) j.2.2.2.2.2.1 j.2.2.2.2.2.2.1 j.2.2.2.2.2.2.2 j.2.2.2.2.1
            else
              (Lp f a.2.1 a.2.2.1 a.2.2.2.1 h (a.2.2.2.2.set i61.toNat (nb.mk b.unit i119 b.base)) l m n o c).bind fun k =>
              ai f k.1 k.2.1 k.2.2.1 a.1 g k.2.2.2.1 k.2.2.2.2.1 k.2.2.2.2.2.2.1 k.2.2.2.2.2.2.2.1 k.2.2.2.2.2.2.2.2 k.2.2.2.2.2.1
def Rq (d:ub) (f:List Int) (g:Int) (e:List Int) (h:Int) (i:Int) (j:Int) (a:List Lc×Int×Int×Int×List nb) (i61:Int):Option (Bool×List Lc×Int×Int×Int×List Int×Int×List nb×List Int×Int×Int×Int):=
  (at_ a.2.2.2.2 i61).bind fun b =>
  (at_ d.lb b.unit).bind fun t =>
  (at_ t.Code b.Pf).bind fun c =>
  (i64 (b.Pf+1)).bind fun i119 =>
  if c.Op=1 then
    (Rj a.2.1 a.2.2.1 a.2.2.2.1 e h i j c.N).bind fun m =>
    ai d m.1 m.2.1 m.2.2.1 a.1 f g (a.2.2.2.2.set i61.toNat (nb.mk b.unit i119 b.base)) m.2.2.2.2.1 m.2.2.2.2.2.1 m.2.2.2.2.2.2 m.2.2.2.1
  else
    if c.Op=2 then
      (Rj a.2.1 a.2.2.1 a.2.2.2.1 e h i j c.A).bind fun n =>
      ai d n.1 n.2.1 n.2.2.1 a.1 f g (a.2.2.2.2.set i61.toNat (nb.mk b.unit i119 b.base)) n.2.2.2.2.1 n.2.2.2.2.2.1 n.2.2.2.2.2.2 n.2.2.2.1
    else
      if c.Op=3 then
        (i64 (b.base+c.A)).bind fun i169 =>
        (at_ e i169).bind fun u =>
        (Rj a.2.1 a.2.2.1 a.2.2.2.1 e h i j u).bind fun o =>
        wv d f g a i61 b i119 o.1 o.2.1 o.2.2.1 o.2.2.2.2.1 o.2.2.2.2.2.1 o.2.2.2.2.2.2 o.2.2.2.1
      else
        if c.Op=4 then
          (zj a.2.1 a.2.2.1 a.2.2.2.1 e h i j).bind fun s =>
          (i64 (b.base+c.A)).bind fun i205 =>
          (at_ s.2.2.2.2.1 i205).bind fun v =>
          xv d f g a i61 b i119 s (s.2.2.2.2.1.set i205.toNat s.1)
        else
          if c.Op=5 then
            (zj a.2.1 a.2.2.1 a.2.2.2.1 e h i j).bind fun p =>
            ai d p.2.1 p.2.2.1 p.2.2.2.1 a.1 f g (a.2.2.2.2.set i61.toNat (nb.mk b.unit i119 b.base)) p.2.2.2.2.2.1 p.2.2.2.2.2.2.1 p.2.2.2.2.2.2.2 p.2.2.2.2.1
          else
            if c.Op=6 then
              (zj a.2.1 a.2.2.1 a.2.2.2.1 e h i j).bind fun k =>
              (Rj k.2.1 k.2.2.1 k.2.2.2.1 k.2.2.2.2.1 k.2.2.2.2.2.1 k.2.2.2.2.2.2.1 k.2.2.2.2.2.2.2 (On (0 - k.1))).bind fun q =>
              ai d q.1 q.2.1 q.2.2.1 a.1 f g (a.2.2.2.2.set i61.toNat (nb.mk b.unit i119 b.base)) q.2.2.2.2.1 q.2.2.2.2.2.1 q.2.2.2.2.2.2 q.2.2.2.1
            else
              if c.Op=7 then
                (zj a.2.1 a.2.2.1 a.2.2.2.1 e h i j).bind fun l =>
                (Rj l.2.1 l.2.2.1 l.2.2.2.1 l.2.2.2.2.1 l.2.2.2.2.2.1 l.2.2.2.2.2.2.1 l.2.2.2.2.2.2.2 (On (1 - l.1))).bind fun r =>
                ai d r.1 r.2.1 r.2.2.1 a.1 f g (a.2.2.2.2.set i61.toNat (nb.mk b.unit i119 b.base)) r.2.2.2.2.1 r.2.2.2.2.2.1 r.2.2.2.2.2.2 r.2.2.2.1
              else
                if (8:Int)≤c.Op then
                  Fp d f g e h i j a i61 b c i119 (decide (c.Op≤20))
                else
                  Fp d f g e h i j a i61 b c i119 false
def Eo  (b:ub) (i:List Lc) (j:Int) (k:Int) (l:Int) (c:List Int) (d:Int) (m:List nb) (e:List Int) (f:Int) (g:Int) (h:Int):Option (Bool×List Lc×Int×Int×Int×List Int×Int×List nb×List Int×Int×Int×Int):=
  (hl b i j k l m).bind fun a =>
  if a.2.1≠1 then
    some (false,a.1,a.2.1,a.2.2.1,a.2.2.2.1,c,d,a.2.2.2.2,e,f,g,h)
  else
    (i64 ((a.2.2.2.2.length:Int) - 1)).bind fun i63 =>
    (at_ a.2.2.2.2 i63).bind fun n =>
    Rq b c d e f g h a i63
end Go.Y
namespace Go.Y
open Go.yb Go.kc
def Jq (i74:Int) (i75:Int) (i76:Int) (i77:Int) (b:List Int) (c:Int→Int→Int→Int→(List Int)→Option (Int×List nb×List Int×Int×Int×Int)) (i102:Int):Option (Int×List nb×List Int×Int×Int×Int):=
  (Co b i75 i76 i77 i102).bind fun a =>
  (i64 (i74+1)).bind fun i119 =>
  c i119 a.2.2.1 a.2.2.2.1 a.2.2.2.2 a.2.1
def ln (p_2:Int) (a:List Int) (b:Tc):Nat→Int→Int→Int→Int→(List Int)→Option (Int×List nb×List Int×Int×Int×Int)
  | 0,_,_,_,_,_=>none
  | n+1,i74,i75,i76,i77,c =>
    if i74<(b.Cc.length:Int) then
      if i74<(a.length:Int) then
        (at_ a i74).bind fun d =>
        Jq i74 i75 i76 i77 c (ln p_2 a b n) d
      else
        Jq i74 i75 i76 i77 c (ln p_2 a b n) 0
    else
      some (0,([(nb.mk p_2 0 0)]:List nb),c,i75,i76,i77)
def nr  (c:ub) (p_2:Int) (d:List Int):Option (Int×List nb×List Int×Int×Int×Int):=
  (Pw 8 400).bind fun a =>
  (at_ c.lb p_2).bind fun b =>
  ln p_2 d b (b.Cc.length+1) 0 a.2.1 a.2.2.1 a.2.2.2 a.1
def Et  (a:List Int) (b:Int) (e:Int) (f:Int):Option (List Int):=
  (cut a 0 b).bind fun c =>
  (app ([]:List Int) c).bind fun d =>
  some d
def Rt  (g:Int) (h:Int) (i:Int) (c:List Int) (b:Int) (d:Int) (e:Int) (p_2:Int):Option (List Int×Int×Int×Int×List Int×Int×Int×Int):=
  (Et c b d e).bind fun f =>
  (Om b).bind fun j =>
  (i64 (j - p_2)).bind fun i36 =>
  (cut f i36 f.length).bind fun k =>
  (Vp c b d e p_2).bind fun a =>
  some (k,g,h,i,a.1,a.2.1,a.2.2.1,a.2.2.2)
end Go.Y
namespace Go.Y
open Go.yb Go.kc
structure se where
  state:Int
  up:Option Nat
  fr:List nb
  l:List Int
  live:Int
  Fg:Int
  kg:Int
structure sc where
  cs:List se
  now:Nat
def sc.length (p:sc):Nat:=p.cs.length
def sc.put (p:sc) (c:se):sc:=⟨p.cs.set p.now c,p.now⟩
def ur (m:ub) (p:sc) (s bx t:Int) (Kb:List Lc):Option (sc×Int×Int×Int×List Lc):=
  (p.cs[p.now]?).bind fun c =>
  (hl m Kb s bx t c.fr).bind fun r =>
  some (p.put { c with fr:=r.2.2.2.2 },r.2.1,r.2.2.1,r.2.2.2.1,r.1)
def Fo (p:sc) (s bx t v:Int):Option (sc×Int×Int×Int):=
  (p.cs[p.now]?).bind fun c =>
  (Rj s bx t c.l c.live c.Fg c.kg v).bind fun r =>
  some (p.put { c with l:=r.2.2.2.1,live:=r.2.2.2.2.1,Fg:=r.2.2.2.2.2.1,kg:=r.2.2.2.2.2.2 },r.1,r.2.1,r.2.2.1)
def Wp (p:sc) (s bx t:Int):Option (Int×sc×Int×Int×Int):=
  (p.cs[p.now]?).bind fun c =>
  (zj s bx t c.l c.live c.Fg c.kg).bind fun r =>
  some (r.1,p.put { c with l:=r.2.2.2.2.1,live:=r.2.2.2.2.2.1,Fg:=r.2.2.2.2.2.2.1,kg:=r.2.2.2.2.2.2.2 },r.2.1,r.2.2.1,r.2.2.2.1)
def Ew (p:sc) (s bx t n:Int):Option (List Int×sc×Int×Int×Int):=
  (p.cs[p.now]?).bind fun c =>
  (Rt s bx t c.l c.live c.Fg c.kg n).bind fun r =>
  some (r.1,p.put { c with l:=r.2.2.2.2.1,live:=r.2.2.2.2.2.1,Fg:=r.2.2.2.2.2.2.1,kg:=r.2.2.2.2.2.2.2 },r.2.1,r.2.2.1,r.2.2.2.1)
def Zy (m:ub) (p:sc) (s bx t:Int) (x:vd):Option (sc×Int×Int×Int):=
  (at_ m.lb x.A).bind fun u =>
  (Ew p s bx t u.Params).bind fun a =>
  if (30:Int)<a.2.1.length then (Pk a.2.2.1 a.2.2.2.1 a.2.2.2.2 5).bind fun q=>some (a.2.1,q) else
  (nr m x.A a.1).bind fun b =>
  (wj 6 0 x.A).bind fun _ =>
  (i64 (((a.2.1.cs++[se.mk b.1 none b.2.1 b.2.2.1 b.2.2.2.1 b.2.2.2.2.1 b.2.2.2.2.2]).length:Int) - 1)).bind fun n =>
  Fo ⟨a.2.1.cs++[se.mk b.1 none b.2.1 b.2.2.1 b.2.2.2.1 b.2.2.2.2.1 b.2.2.2.2.2],a.2.1.now⟩ a.2.2.1 a.2.2.2.1 a.2.2.2.2 n
def et (p:sc) (s bx t:Int) (j:Nat) (v:Int):Option (sc×Int×Int×Int):=
  (p.cs[j]?).bind fun d =>
  if d.state=3 then (Pk s bx t 2).bind fun q=>some (p,q)
  else if d.state=2 then (Pk s bx t 3).bind fun q=>some (p,q)
  else if d.state=0 then some (⟨p.cs.set j { d with state:=2,up:=some p.now },j⟩,s,bx,t)
  else Fo ⟨p.cs.set j { d with state:=2,up:=some p.now },j⟩ s bx t v
def vr (p:sc) (s bx t st v:Int):Option (sc×Int×Int×Int):=
  (p.cs[p.now]?).bind fun c=>c.up.bind fun j =>
  Fo ⟨p.cs.set p.now { c with state:=st,up:=none },j⟩ s bx t v
def Sw (p:sc) (s bx t:Int):Option (sc×Int×Int×Int):=
  (p.cs[p.now]?).bind fun c =>
  if c.up=none then (wj 4 0 0).bind fun _=>some (p.put { c with state:=3 },4,bx,t)
  else vr p s bx t 3 0
def Dh (m:ub) (p:sc) (s bx t:Int) (x:vd):Option (sc×Int×Int×Int):=
  if x.Op=25 then Sw p s bx t
  else if x.Op=29 then Zy m p s bx t x
  else if x.Op=30 then (Wp p s bx t).bind fun a=>(Wp a.2.1 a.2.2.1 a.2.2.2.1 a.2.2.2.2).bind fun b =>
    if b.1<0 then none else et b.2.1 b.2.2.1 b.2.2.2.1 b.2.2.2.2 b.1.toNat a.1
  else if x.Op=31 then (Wp p s bx t).bind fun a=>vr a.2.1 a.2.2.1 a.2.2.2.1 a.2.2.2.2 1 a.1
  else if x.Op=32 then (Wp p s bx t).bind fun a=>if a.1<0 then none else (a.2.1.cs[a.1.toNat]?).bind fun d =>
    (gl (decide (d.state≠3))).bind fun b=>Fo a.2.1 a.2.2.1 a.2.2.2.1 a.2.2.2.2 b
  else none
abbrev hx:=Option (Bool×sc×Int×Int×Int×List Int×List Lc)
def ft (m:ub) (p:sc) (c:se) (out:List Int) (r:List Lc×Int×Int×Int×List nb) (i:Int):hx :=
  (at_ r.2.2.2.2 i).bind fun x =>
  (at_ m.lb x.unit).bind fun u =>
  (at_ u.Code x.Pf).bind fun y =>
  (i64 (x.Pf+1)).bind fun k =>
  (Dh m (p.put { c with fr:=r.2.2.2.2.set i.toNat (nb.mk x.unit k x.base) }) r.2.1 r.2.2.1 r.2.2.2.1 y).bind fun q =>
  (ur m q.1 q.2.1 q.2.2.1 q.2.2.2 r.1).bind fun z =>
  some (true,z.1,z.2.1,z.2.2.1,z.2.2.2.1,out,z.2.2.2.2)
def om (m:ub) (p:sc) (s bx t:Int) (out:List Int) (Kb:List Lc):hx :=
  (p.cs[p.now]?).bind fun c =>
  (hl m Kb s bx t c.fr).bind fun r =>
  if r.2.1≠1 then none else
  (i64 ((r.2.2.2.2.length:Int) - 1)).bind fun i =>
  (at_ r.2.2.2.2 i).bind fun x =>
  ft m p c out r i
def Ft (m:ub) (p:sc) (s bx t:Int) (out:List Int) (Kb:List Lc):hx :=
  (p.cs[p.now]?).bind fun c =>
  (Eo m Kb s bx t out c.state c.fr c.l c.live c.Fg c.kg).bind fun r =>
  some (r.1,p.put { c with state:=r.2.2.2.2.2.2.1,fr:=r.2.2.2.2.2.2.2.1,l:=r.2.2.2.2.2.2.2.2.1,live:=r.2.2.2.2.2.2.2.2.2.1,Fg:=r.2.2.2.2.2.2.2.2.2.2.1,kg:=r.2.2.2.2.2.2.2.2.2.2.2 },r.2.2.1,r.2.2.2.1,r.2.2.2.2.1,r.2.2.2.2.2.1,r.2.1)
def Ho (m:ub) (p:sc) (s bx t:Int) (out:List Int) (Kb:List Lc):hx :=
  match om m p s bx t out Kb with
  | some r=>some r
  | none=>Ft m p s bx t out Kb
def bu (m:ub) (u:Int):Option (sc×Int×Int×Int×List Int):=
  (nr m u ([]:List Int)).bind fun r =>
  some (⟨[se.mk 2 none r.2.1 r.2.2.1 r.2.2.2.1 r.2.2.2.2.1 r.2.2.2.2.2],0⟩,1,0,0,([]:List Int))
end Go.Y
namespace Go.Y
open Go.yb Go.kc
structure zk where
  Ek:sc
  s:Int
  bx:Int
  t:Int
  out:List Int
structure Yc where
  m:ub
  tasks:List zk
  boxes:List Lc
def Yc.length (x:Yc):Nat:=x.tasks.length
def Pp (x:Yc) (i:Int):Option Yc :=
  (at_ x.tasks i).bind fun k =>
  (ur x.m k.Ek k.s k.bx k.t x.boxes).bind fun r =>
  some { x with tasks:=x.tasks.set i.toNat { k with Ek:=r.1,s:=r.2.1,bx:=r.2.2.1,t:=r.2.2.2.1 },boxes:=r.2.2.2.2 }
def St (x:Yc) (i:Int):Option (Bool×Yc):=
  (at_ x.tasks i).bind fun k =>
  (Ho x.m k.Ek k.s k.bx k.t k.out x.boxes).bind fun r =>
  some (r.1,{ x with tasks:=x.tasks.set i.toNat ⟨r.2.1,r.2.2.1,r.2.2.2.1,r.2.2.2.2.1,r.2.2.2.2.2.1⟩,boxes:=r.2.2.2.2.2.2 })
def aw (x:Yc) (i:Int):Option (List Int):=(at_ x.boxes i).bind fun b=>Zv b.l b.first b.n
end Go.Y
namespace Go.Y
open Go.yb Go.kc
def tp:List cp→List Lc→Option (List Lc)
  | [],acc=>some acc
  | b::Ic,acc=>(Qw b.Zf).bind fun r=>if 4294967295<acc.length then none else tp Ic (acc++[⟨r.1,r.2.1,r.2.2⟩])
def vp (m:ub):List Int→List zk→Option (List zk)
  | [],acc=>some acc
  | u::us,acc=>(bu m u).bind fun r=>if 4294967295<acc.length then none else vp m us (acc++[⟨r.1,r.2.1,r.2.2.1,r.2.2.2.1,r.2.2.2.2⟩])
def Gt (m:ub):Option (Yc×Int):=
  (tp m.uc []).bind fun bx=>(Kp m).bind fun us=>(vp m us []).bind fun ts=>some (⟨m,ts,bx⟩,0)
end Go.Y
namespace Go.Y
open Go.yb Go.kc
structure Mi where
  Task:Int
  Qk:Int
  deriving DecidableEq,Inhabited,Repr
instance:Ha Mi where
  sz:=2
  pos:=by decide
  cs μ l x:=l=[.int .i64 x.Task,.int .i64 x.Qk]
  Dg h:=by obtain rfl:=h;rfl
  up le h:=by exact h
  pg h:=by obtain rfl:=h;rfl
structure ql where
  mf:Int
  Steps:Int
  deriving DecidableEq,Inhabited,Repr
structure gj where
  State:Int
  yi:Int
  px:Int
  Out:List Int
  deriving DecidableEq,Inhabited,Repr
instance:Ha gj where
  sz:=4
  pos:=by decide
  cs μ l x:=∃ pa c1,l=[.int .i64 x.State,.int .i64 x.yi,.int .i64 x.px,.slice pa x.Out.length c1]∧Ba μ pa c1 x.Out
  Dg h:=by obtain ⟨pa,c1,rfl,m1⟩:=h;rfl
  up le h:=by obtain ⟨pa,c1,rfl,m1⟩:=h;exact ⟨pa,c1,rfl,m1.up le⟩
  pg h:=by obtain ⟨pa,c1,rfl,m1⟩:=h;rfl
theorem gj.i {μ:M}{l:List Value}{x:gj}(h:∃ pa c1,l=[.int .i64 x.State,.int .i64 x.yi,.int .i64 x.px,.slice pa x.Out.length c1]∧Ba μ pa c1 x.Out):Ha.cs μ l x:=h
structure zh where
  Fi:List gj
  uc:List (List Int)
  Steps:Int
  deriving DecidableEq,Inhabited,Repr
def qo (i50:Int) (i51:Int) (b:Int→Int→Yc→Option (ql×Yc×Int)) (c:Bool) (a:Yc):Option (ql×Yc×Int):=
  if c=true then
    (i64 (i50+1)).bind fun i86 =>
    (i64 (i51+1)).bind fun i88 =>
    b i86 i88 a
  else
    if i50=0 then
      some ((ql.mk 10 0),a,i51)
    else
      some ((ql.mk 0 i50),a,i51)
def Gm (p_2:Mi):Nat→Int→Int→Yc→Option (ql×Yc×Int)
  | 0,_,_,_=>none
  | n+1,i50,i51,a =>
    if i50<p_2.Qk then
      if i51<20000 then
        (St a p_2.Task).bind fun b =>
        qo i50 i51 (Gm p_2 n) b.1 b.2
      else
        qo i50 i51 (Gm p_2 n) false a
    else
      qo i50 i51 (Gm p_2 n) false a
def Sq (fu:Nat) (a:Yc) (p_2:Mi) (b:Int) (d:Bool):Option (ql×Yc×Int):=
  if d=true then
    some ((ql.mk 5 0),a,b)
  else
    (at_ a.tasks p_2.Task).bind fun f =>
    (Pp a p_2.Task).bind fun c =>
    (at_ c.tasks p_2.Task).bind fun e =>
    if e.s≠1 then
      some ((ql.mk 11 0),c,b)
    else
      Gm p_2 fu 0 b c
def Gp (fu:Nat) (a:Yc) (p_2:Mi) (b:Int) (ch:Bool):Option (ql×Yc×Int):=
  if ch=true then
    some ((ql.mk 3 0),a,b)
  else
    if p_2.Qk<1 then
      Sq fu a p_2 b true
    else
      Sq fu a p_2 b (decide ((10000:Int)<p_2.Qk))
def xr (fu:Nat)  (a:Yc) (b:Int) (p_2:Mi):Option (ql×Yc×Int):=
  if p_2.Task<0 then
    Gp fu a p_2 b true
  else
    Gp fu a p_2 b (decide ((a.length:Int)≤p_2.Task))
def xp (a:Yc) (b:Int):Nat→Int→Yc→(List Int)→Option (List Int×Yc×Int)
  | 0,_,_,_=>none
  | n+1,i39,c,d =>
    if i39<(a.length:Int) then
      (at_ c.tasks i39).bind fun h =>
      (Pp c i39).bind fun e =>
      (at_ e.tasks i39).bind fun f =>
      if f.s=1 then
        (app d [i39]).bind fun g =>
        (i64 (i39+1)).bind fun i98 =>
        xp a b n i98 e g
      else
        (i64 (i39+1)).bind fun i100 =>
        xp a b n i100 e d
    else
      some (d,c,b)
def Ht  (a:Yc) (b:Int):Option (List Int×Yc×Int):=
  xp a b (a.length+1) 0 a []
def kv (i71:Int) (a:Yc) (b:Int→Yc→(List gj)→Option (zh×Yc×Int)) (c:List gj):Option (zh×Yc×Int):=
  (i64 (i71+1)).bind fun i189 =>
  b i189 a c
def lv (i213:Int) (a:Int→(List (List Int))→Option (zh×Yc×Int)) (b:List (List Int)):Option (zh×Yc×Int):=
  (i64 (i213+1)).bind fun i267 =>
  a i267 b
def yp (b:Int) (a:Yc) (c:List gj):Nat→Int→(List (List Int))→Option (zh×Yc×Int)
  | 0,_,_=>none
  | n+1,i213,d =>
    if i213<(a.boxes.length:Int) then
      (at_ a.boxes i213).bind fun g =>
      (aw a i213).bind fun e =>
      (app d [e]).bind fun f =>
      lv i213 (yp b a c n) f
    else
      some ((zh.mk c d b),a,b)
def zp (c:Yc) (d:Int):Nat→Int→Yc→(List gj)→Option (zh×Yc×Int)
  | 0,_,_,_=>none
  | n+1,i71,b,e =>
    if i71<(c.length:Int) then
      (at_ b.tasks i71).bind fun l =>
      (Pp b i71).bind fun a =>
      (at_ a.tasks i71).bind fun f =>
      (at_ a.tasks i71).bind fun g =>
      (at_ a.tasks i71).bind fun h =>
      (at_ a.tasks i71).bind fun i =>
      (app ([]:List Int) i.out).bind fun j =>
      (app e [(gj.mk f.s g.bx h.t j)]).bind fun k =>
      kv i71 a (zp c d n) k
    else
      yp d b e (b.boxes.length+1) 0 []
def bw  (a:Yc) (b:Int):Option (zh×Yc×Int):=
  zp a b (a.length+1) 0 a []
end Go.Y
namespace Go.Y
open Go.yb Go.kc
def cw (fu:Nat)  (p_1:ub) (p_2:Int):Option Int :=
  (dt fu p_1).bind fun a =>
  if a.mf≠0 then
    some a.mf
  else
    if (400:Int)<p_2 then
      some 5
    else
      some 0
def Aq (fu:Nat) (c:Int) (i168:Int) (d:Yc) (e:Int→(List Int)→Int→Yc→Option (zh×Int)) (i237:Int):Option (zh×Int):=
  (xr fu d i168 (Mi.mk i237 c)).bind fun a =>
  if a.1.mf≠0 then
    some ((zh.mk ([]:List gj) ([]:List (List Int)) 0),10)
  else
    (Ht a.2.1 a.2.2).bind fun b =>
    e i237 b.1 b.2.2 b.2.1
def Bq (fu:Nat) (a:Int) (i163:Int) (b:List Int) (i168:Int) (c:Yc) (e:Int) (d:Int→(List Int)→Int→Yc→Option (zh×Int)):Nat→Int→Option (zh×Int)
  | 0,_=>none
  | n+1,i248 =>
    if i248<(b.length:Int) then
      (at_ b i248).bind fun f =>
      if i163<f then
        Aq fu a i168 c d f
      else
        (i64 (i248+1)).bind fun i270 =>
        Bq fu a i163 b i168 c e d n i270
    else
      Aq fu a i168 c d e
def ho (fu:Nat) (b:Int):Nat→Int→(List Int)→Int→Yc→Option (zh×Int)
  | 0,_,_,_,_=>none
  | n+1,i163,a,i168,c =>
    if (0:Int)<(a.length:Int) then
      (at_ a 0).bind fun d =>
      Bq fu b i163 a i168 c d (ho fu b n) (a.length+1) 0
    else
      (bw c i168).bind fun e =>
      some (e.1,0)
def lp (fu:Nat) (p_2:List Mi) (b:Int):Nat→Int→Int→Int→Yc→Option (zh×Int)
  | 0,_,_,_,_=>none
  | n+1,i55,i56,i57,d =>
    if i56<(p_2.length:Int) then
      (at_ p_2 i56).bind fun e =>
      (xr fu d i57 e).bind fun a =>
      if a.1.mf=0 then
        (i64 (i56+1)).bind fun i98 =>
        lp fu p_2 b n e.Task i98 a.2.2 a.2.1
      else
        (i64 (i56+1)).bind fun i100 =>
        lp fu p_2 b n i55 i100 a.2.2 a.2.1
    else
      (Ht d i57).bind fun c =>
      ho fu b fu i55 c.1 c.2.2 c.2.1
def Cq (fu:Nat) (p_1:ub) (p_2:List Mi) (b:Int) (Hf:Bool):Option (zh×Int):=
  if Hf=true then
    some ((zh.mk ([]:List gj) ([]:List (List Int)) 0),3)
  else
    (Gt p_1).bind fun a =>
    lp fu p_2 b (p_2.length+1) (-1) 0 a.2 a.1
def ht (fu:Nat)  (p_1:ub) (p_2:List Mi) (a:Int):Option (zh×Int):=
  (cw fu p_1 (p_2.length:Int)).bind fun b =>
  if b≠0 then
    some ((zh.mk ([]:List gj) ([]:List (List Int)) 0),b)
  else
    if a<1 then
      Cq fu p_1 p_2 a true
    else
      Cq fu p_1 p_2 a (decide ((10000:Int)<a))
end Go.Y
namespace Go.Y
open Go.yb Go.kc
def kp (i202:Int) (a:Int→Option Bool) (b:Bool):Option Bool :=
  if b=true then
    some false
  else
    (i64 (i202+1)).bind fun i241 =>
    a i241
def Cm (a:zh×Int) (i98:Int) (b:gj) (c:Int→Option Bool):Nat→Int→Option Bool
  | 0,_=>none
  | n+1,i202 =>
    if i202<(a.1.Fi.length:Int) then
      (at_ a.1.Fi i202).bind fun d =>
      if b.State=2 then
        if d.State=3 then
          kp i202 (Cm a i98 b c n) (decide (b.yi=d.yi))
        else
          kp i202 (Cm a i98 b c n) false
      else
        kp i202 (Cm a i98 b c n) false
    else
      (i64 (i98+1)).bind fun i243 =>
      c i243
def fo (a:zh×Int):Nat→Int→Option Bool
  | 0,_=>none
  | n+1,i98 =>
    if i98<(a.1.Fi.length:Int) then
      (at_ a.1.Fi i98).bind fun b =>
      Cm a i98 b (fo a n) (a.1.Fi.length+1) 0
    else
      some true
def Ys (fu:Nat)  (p_1:ub) (p_2:List Mi) (b:Int):Option Bool :=
  (Lv fu).bind fun c =>
  if c=true then
    (ht fu p_1 p_2 b).bind fun a =>
    if a.2≠0 then
      some true
    else
      fo a (a.1.Fi.length+1) 0
  else
    some false
end Go.Y
