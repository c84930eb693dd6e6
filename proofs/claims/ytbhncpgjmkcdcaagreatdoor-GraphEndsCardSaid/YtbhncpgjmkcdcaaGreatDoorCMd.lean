/- Texts of Md. -/
import Derived.Test.YtbhncpgjmkcdcaaGreatDoorCXu
set_option linter.unusedSimpArgs false
set_option linter.unusedVariables false
set_option linter.unusedSectionVars false
namespace Go.Y
open Go.Ab Go.jc
structure tf where
  Kind:Int
  N:Int
  Name:List UInt8
  Kids:List tf
  deriving Inhabited,Repr
structure Le where
  Kind:Int
  Name:List UInt8
  X:tf
  Body:List Le
  Gk:List Le
  deriving Inhabited,Repr
def Yl {α:Type}(sz:Nat) (μ:M) (a:Option Addr) (c:Nat) (xs:List α) (g:Nat→List Value):Prop :=
  xs.length≤c∧c≤maxLen∧(xs=[]∨∃ b o,a=some ⟨b,o,none⟩∧∀ (i:Nat) (y:α),xs[i]?=some y→Hc μ b (o+i*sz) (g i))
inductive aq (μ:M):List Value→tf→Prop where
  | mk (x:tf) (a:Option Addr) (c:Nat) (g:Nat→List Value) (h:Yl 4 μ a c x.Kids g) (k:∀ (i:Nat) (y:tf),x.Kids[i]?=some y→aq μ (g i) y) :
    aq μ [.int .i64 x.Kind,.int .i64 x.N,S x.Name,.slice a x.Kids.length c] x
theorem Yl.Wu {α:Type}{sz:Nat}{μ:M}{a:Option Addr}{c:Nat}{xs:List α}{g:Nat→List Value}{R:List Value→α→Prop}(h:Yl sz μ a c xs g) (k:∀ (i:Nat) (y:α),xs[i]?=some y→R (g i) y):pd sz R μ a c xs:=by
  refine ⟨h.1,h.2.1,?_⟩;rcases h.2.2 with h | ⟨b,o,e,f⟩
  · exact .inl h
  · exact .inr ⟨b,o,e,g,fun i x d=>⟨f i x d,k i x d⟩⟩
theorem Yl.of {α:Type}{sz:Nat}{μ:M}{a:Option Addr}{c:Nat}{xs:List α}{R:List Value→α→Prop}(h:pd sz R μ a c xs):∃ g,Yl sz μ a c xs g∧∀ (i:Nat) (y:α),xs[i]?=some y→R (g i) y:=by
  rcases h.el with e | ⟨b,o,j,g,f⟩
  · exact ⟨fun _=>[],⟨h.le,h.cap,.inl e⟩,fun i y d=>by simp [e] at d⟩
  · exact ⟨g,⟨h.le,h.cap,.inr ⟨b,o,j,fun i y d=>(f i y d).1⟩⟩,fun i y d=>(f i y d).2⟩
theorem Yl.up {α:Type}{sz:Nat}{μ I:M}{a:Option Addr}{c:Nat}{xs:List α}{g:Nat→List Value}(h:Yl sz μ a c xs g) (l:da μ I):Yl sz I a c xs g:=by
  refine ⟨h.1,h.2.1,?_⟩;rcases h.2.2 with h | ⟨b,o,d,e⟩
  · exact .inl h
  · exact .inr ⟨b,o,d,fun i y f=>(e i y f).up l⟩
theorem aq.up {μ I:M}(l:da μ I){cs:List Value}{x:tf}(h:aq μ cs x):aq I cs x:=by
  induction h with
  | mk x a c g h k b=>exact .mk x a c g (h.up l) b
instance:Ja tf where
  sz:=4
  pos:=by decide
  cs:=aq
  Hg h:=by cases h;rfl
  up l h:=aq.up l h
  wg h:=by cases h;rfl
inductive Sm (μ:M):List Value→Le→Prop where
  | mk (x:Le) (pa:Option Addr) (c1:Nat) (a2:Option Addr) (c2:Nat) (a3:Option Addr) (c3:Nat) (g2 g3:Nat→List Value) (a:Da μ pa c1 x.X.Kids)
      (b:Yl 8 μ a2 c2 x.Body g2) (c:∀ (i:Nat) (y:Le),x.Body[i]?=some y→Sm μ (g2 i) y)
      (d:Yl 8 μ a3 c3 x.Gk g3) (e:∀ (i:Nat) (y:Le),x.Gk[i]?=some y→Sm μ (g3 i) y) :
    Sm μ [.int .i64 x.Kind,S x.Name,.int .i64 x.X.Kind,.int .i64 x.X.N,S x.X.Name,.slice pa x.X.Kids.length c1,.slice a2 x.Body.length c2,.slice a3 x.Gk.length c3] x
theorem Sm.up {μ I:M}(l:da μ I){cs:List Value}{x:Le}(h:Sm μ cs x):Sm I cs x:=by
  induction h with
  | mk x pa c1 a2 c2 a3 c3 g2 g3 a b f c g d e=>exact .mk x pa c1 a2 c2 a3 c3 g2 g3 (a.up l) (b.up l) d (c.up l) e
instance:Ja Le where
  sz:=8
  pos:=by decide
  cs:=Sm
  Hg h:=by cases h;rfl
  up l h:=Sm.up l h
  wg h:=by cases h;rfl
theorem Le.o {μ:M}{l:List Value}{x:Le}(h:Ja.cs μ l x):∃ pa c1 a2 c2 a3 c3,l=[.int .i64 x.Kind,S x.Name,.int .i64 x.X.Kind,.int .i64 x.X.N,S x.X.Name,.slice pa x.X.Kids.length c1,.slice a2 x.Body.length c2,.slice a3 x.Gk.length c3]∧Da μ pa c1 x.X.Kids∧Da μ a2 c2 x.Body∧Da μ a3 c3 x.Gk:=by
  have a:Sm μ l x:=h;cases a with
  | mk _ pa c1 a2 c2 a3 c3 g2 g3 b c d e f=>exact ⟨pa,c1,a2,c2,a3,c3,rfl,b,c.Wu d,e.Wu f⟩
theorem Le.i {μ:M}{l:List Value}{x:Le}(h:∃ pa c1 a2 c2 a3 c3,l=[.int .i64 x.Kind,S x.Name,.int .i64 x.X.Kind,.int .i64 x.X.N,S x.X.Name,.slice pa x.X.Kids.length c1,.slice a2 x.Body.length c2,.slice a3 x.Gk.length c3]∧Da μ pa c1 x.X.Kids∧Da μ a2 c2 x.Body∧Da μ a3 c3 x.Gk):Ja.cs μ l x:=by
  obtain ⟨pa,c1,a2,c2,a3,c3,rfl,c,a,b⟩:=h;obtain ⟨g2,a,d⟩:=Yl.of a;obtain ⟨g3,b,e⟩:=Yl.of b;exact Sm.mk x pa c1 a2 c2 a3 c3 g2 g3 c a d b e
structure Ic where
  Kind:Int
  Text:List UInt8
  tE:Int
  Hc:Int
  deriving DecidableEq,Inhabited,Repr
instance:Ja Ic where
  sz:=4
  pos:=by decide
  cs μ l x:=l=[.int .i64 x.Kind,S x.Text,.int .i64 x.tE,.int .i64 x.Hc]
  Hg h:=by obtain rfl:=h;rfl
  up le h:=by exact h
  wg h:=by obtain rfl:=h;rfl
structure Pf where
  xf:Int
  Hc:Int
  deriving DecidableEq,Inhabited,Repr
structure ie where
  Kind:Int
  Df:List UInt8
  deriving DecidableEq,Inhabited,Repr
instance:Ja ie where
  sz:=2
  pos:=by decide
  cs μ l x:=l=[.int .i64 x.Kind,S x.Df]
  Hg h:=by obtain rfl:=h;rfl
  up le h:=by exact h
  wg h:=by obtain rfl:=h;rfl
structure TParam where
  Name:List UInt8
  Ee:ie
  deriving DecidableEq,Inhabited,Repr
instance:Ja TParam where
  sz:=3
  pos:=by decide
  cs μ l x:=l=[S x.Name,.int .i64 x.Ee.Kind,S x.Ee.Df]
  Hg h:=by obtain rfl:=h;rfl
  up le h:=by exact h
  wg h:=by obtain rfl:=h;rfl
structure Yc where
  Kind:Int
  Name:List UInt8
  Ee:ie
  je:ie
  cg:Int
  Params:List TParam
  Body:List Le
  deriving Inhabited,Repr
instance:Ja Yc where
  sz:=9
  pos:=by decide
  cs μ l x:=∃ pa c1 a2 c2,l=[.int .i64 x.Kind,S x.Name,.int .i64 x.Ee.Kind,S x.Ee.Df,.int .i64 x.je.Kind,S x.je.Df,.int .i64 x.cg,.slice pa x.Params.length c1,.slice a2 x.Body.length c2]∧Da μ pa c1 x.Params∧Da μ a2 c2 x.Body
  Hg h:=by obtain ⟨pa,c1,a2,c2,rfl,m1,m2⟩:=h;rfl
  up le h:=by obtain ⟨pa,c1,a2,c2,rfl,m1,m2⟩:=h;exact ⟨pa,c1,a2,c2,rfl,m1.up le,m2.up le⟩
  wg h:=by obtain ⟨pa,c1,a2,c2,rfl,m1,m2⟩:=h;rfl
theorem Yc.i {μ:M}{l:List Value}{x:Yc}(h:∃ pa c1 a2 c2,l=[.int .i64 x.Kind,S x.Name,.int .i64 x.Ee.Kind,S x.Ee.Df,.int .i64 x.je.Kind,S x.je.Df,.int .i64 x.cg,.slice pa x.Params.length c1,.slice a2 x.Body.length c2]∧Da μ pa c1 x.Params∧Da μ a2 c2 x.Body):Ja.cs μ l x:=h
structure ij where
  Vj:List UInt8
  Writer:List UInt8
  Reader:List UInt8
  deriving DecidableEq,Inhabited,Repr
instance:Ja ij where
  sz:=3
  pos:=by decide
  cs μ l x:=l=[S x.Vj,S x.Writer,S x.Reader]
  Hg h:=by obtain rfl:=h;rfl
  up le h:=by exact h
  wg h:=by obtain rfl:=h;rfl
instance:Mh ie:=⟨wq,wq.up⟩
instance:Mh Yc:=⟨fo,fo.up⟩
structure zg where
  defs:List Yc
  named:List (List UInt8×Yc)
  deriving Inhabited,Repr
structure Eg where
  calls:List (List UInt8)
  Vm:List (List UInt8)
  Wm:List (List UInt8)
  deriving DecidableEq,Inhabited,Repr
instance:Ja Eg where
  sz:=3
  pos:=by decide
  cs μ l x:=∃ pa c1 a2 c2 a3 c3,l=[.slice pa x.calls.length c1,.slice a2 x.Vm.length c2,.slice a3 x.Wm.length c3]∧Da μ pa c1 x.calls∧Da μ a2 c2 x.Vm∧Da μ a3 c3 x.Wm
  Hg h:=by obtain ⟨pa,c1,a2,c2,a3,c3,rfl,m1,m2,m3⟩:=h;rfl
  up le h:=by obtain ⟨pa,c1,a2,c2,a3,c3,rfl,m1,m2,m3⟩:=h;exact ⟨pa,c1,a2,c2,a3,c3,rfl,m1.up le,m2.up le,m3.up le⟩
  wg h:=by obtain ⟨pa,c1,a2,c2,a3,c3,rfl,m1,m2,m3⟩:=h;rfl
theorem Eg.i {μ:M}{l:List Value}{x:Eg}(h:∃ pa c1 a2 c2 a3 c3,l=[.slice pa x.calls.length c1,.slice a2 x.Vm.length c2,.slice a3 x.Wm.length c3]∧Da μ pa c1 x.calls∧Da μ a2 c2 x.Vm∧Da μ a3 c3 x.Wm):Ja.cs μ l x:=h
structure Nh where
  nA:List (List UInt8×Int)
  once:Bool
  deriving DecidableEq,Inhabited,Repr
instance:Ja Nh where
  sz:=2
  pos:=by decide
  cs μ l x:=∃ V,l=[.map (some V),.bool x.once]∧xk μ V x.nA
  Hg h:=by obtain ⟨V,rfl,m1⟩:=h;rfl
  up le h:=by obtain ⟨V,rfl,m1⟩:=h;exact ⟨V,rfl,m1.up le⟩
  wg h:=by obtain ⟨V,rfl,m1⟩:=h;rfl
theorem Nh.i {μ:M}{l:List Value}{x:Nh}(h:∃ V,l=[.map (some V),.bool x.once]∧xk μ V x.nA):Ja.cs μ l x:=h
instance:Mh Eg:=⟨wq,wq.up⟩
structure np where
  Ee:Int
  cg:Int
  deriving DecidableEq,Inhabited,Repr
instance:Ja np where
  sz:=2
  pos:=by decide
  cs μ l x:=l=[.int .i64 x.Ee,.int .i64 x.cg]
  Hg h:=by obtain rfl:=h;rfl
  up le h:=by exact h
  wg h:=by obtain rfl:=h;rfl
structure ud where
  Op:Int
  A:Int
  N:Int
  deriving DecidableEq,Inhabited,Repr
instance:Ja ud where
  sz:=3
  pos:=by decide
  cs μ l x:=l=[.int .i64 x.Op,.int .i64 x.A,.int .i64 x.N]
  Hg h:=by obtain rfl:=h;rfl
  up le h:=by exact h
  wg h:=by obtain rfl:=h;rfl
structure Xc where
  Kind:Int
  Params:Int
  Gc:List Int
  Result:Int
  je:Int
  Code:List ud
  deriving DecidableEq,Inhabited,Repr
instance:Ja Xc where
  sz:=6
  pos:=by decide
  cs μ l x:=∃ pa c1 a2 c2,l=[.int .i64 x.Kind,.int .i64 x.Params,.slice pa x.Gc.length c1,.int .i64 x.Result,.int .i64 x.je,.slice a2 x.Code.length c2]∧Da μ pa c1 x.Gc∧Da μ a2 c2 x.Code
  Hg h:=by obtain ⟨pa,c1,a2,c2,rfl,m1,m2⟩:=h;rfl
  up le h:=by obtain ⟨pa,c1,a2,c2,rfl,m1,m2⟩:=h;exact ⟨pa,c1,a2,c2,rfl,m1.up le,m2.up le⟩
  wg h:=by obtain ⟨pa,c1,a2,c2,rfl,m1,m2⟩:=h;rfl
theorem Xc.i {μ:M}{l:List Value}{x:Xc}(h:∃ pa c1 a2 c2,l=[.int .i64 x.Kind,.int .i64 x.Params,.slice pa x.Gc.length c1,.int .i64 x.Result,.int .i64 x.je,.slice a2 x.Code.length c2]∧Da μ pa c1 x.Gc∧Da μ a2 c2 x.Code):Ja.cs μ l x:=h
structure sb where
  sc:List np
  Ya:List Xc
  deriving DecidableEq,Inhabited,Repr
instance:Ja sb where
  sz:=2
  pos:=by decide
  cs μ l x:=∃ pa c1 a2 c2,l=[.slice pa x.sc.length c1,.slice a2 x.Ya.length c2]∧Da μ pa c1 x.sc∧Da μ a2 c2 x.Ya
  Hg h:=by obtain ⟨pa,c1,a2,c2,rfl,m1,m2⟩:=h;rfl
  up le h:=by obtain ⟨pa,c1,a2,c2,rfl,m1,m2⟩:=h;exact ⟨pa,c1,a2,c2,rfl,m1.up le,m2.up le⟩
  wg h:=by obtain ⟨pa,c1,a2,c2,rfl,m1,m2⟩:=h;rfl
theorem sb.i {μ:M}{l:List Value}{x:sb}(h:∃ pa c1 a2 c2,l=[.slice pa x.sc.length c1,.slice a2 x.Ya.length c2]∧Da μ pa c1 x.sc∧Da μ a2 c2 x.Ya):Ja.cs μ l x:=h
structure hg where
  xf:Int
  Unit:Int
  Hc:Int
  deriving DecidableEq,Inhabited,Repr
structure qd where
  stack:List Int
  has:List Bool
  deriving DecidableEq,Inhabited,Repr
structure ze where
  m:Option sb
  deriving DecidableEq,Inhabited,Repr
instance:Ja ze where
  sz:=1
  pos:=by decide
  cs μ l x:=∃ v1,l=[v1]∧Ue μ v1 x.m
  Hg h:=by obtain ⟨v1,rfl,m1⟩:=h;rfl
  up le h:=by obtain ⟨v1,rfl,m1⟩:=h;exact ⟨v1,rfl,m1.up le⟩
  wg h:=by obtain ⟨v1,rfl,m1⟩:=h;simp [m1.we]
theorem ze.i {μ:M}{l:List Value}{x:ze}(h:∃ v1,l=[v1]∧Ue μ v1 x.m):Ja.cs μ l x:=h
end Go.Y
namespace Go.Y
def Ag (n : Int) : Prop := -9223372036854775808 ≤ n ∧ n ≤ 9223372036854775807
def Tu (x : np) : Prop := Ag x.Ee ∧ Ag x.cg
def WA (x : ud) : Prop := Ag x.Op ∧ Ag x.A ∧ Ag x.N
def XA (x : Xc) : Prop := Ag x.Kind ∧ Ag x.Params ∧ Ag x.Result ∧ Ag x.je ∧ (x.Gc.length ≤ 17592186044416 ∧ ∀ y ∈ x.Gc, Ag y) ∧ x.Code.length ≤ 17592186044416 ∧ ∀ y ∈ x.Code, WA y
def Xx (m : sb) : Prop := (m.sc.length ≤ 17592186044416 ∧ ∀ y ∈ m.sc, Tu y) ∧ m.Ya.length ≤ 17592186044416 ∧ ∀ y ∈ m.Ya, XA y
end Go.Y
namespace Go.Y
open Go.Ab Go.jc
def BM:List UInt8:=[32,98,111,120,32,102,110,32,103,101,110,32,116,97,115,107,32,116,97,107,101,115,32,121,105,101,108,100,115,32,108,101,116,32,105,102,32,101,108,115,101,32,119,104,105,108,101,32,114,101,116,117,114,110,32,115,116,111,112,32,115,101,110,100,32,111,117,116,32,100,111,32,114,101,99,118,32,121,105,101,108,100,32,115,116,97,114,116,32,114,101,115,117,109,101,32,97,108,105,118,101,32,110,117,109,32,98,111,111,108,32,116,114,117,101,32,102,97,108,115,101,32,97,110,100,32,111,114,32,110,111,116,32]
def kr  (p_1:UInt8):Option Bool :=
  if (97:Int)≤(p_1.toNat:Int) then
    if (p_1.toNat:Int)≤122 then
      some true
    else
      some (decide ((p_1.toNat:Int)=95))
  else
    some (decide ((p_1.toNat:Int)=95))
def Br  (p_1:UInt8):Option Bool :=
  if (48:Int)≤(p_1.toNat:Int) then
    some (decide ((p_1.toNat:Int)≤57))
  else
    some false
def rv (i13:Int) (a:Int→Option Int) (Ef:Bool):Option Int :=
  if Ef=true then
    (i64 (i13+1)).bind fun i33 =>
    a i33
  else
    some i13
def Lq (p_1:List UInt8) (p_2:UInt8→Option Bool):Nat→Int→Option Int
  | 0,_=>none
  | n+1,i13 =>
    if i13<(p_1.length:Int) then
      (at_ p_1 i13).bind fun a =>
      (p_2 a).bind fun b =>
      rv i13 (Lq p_1 p_2 n) b
    else
      rv i13 (Lq p_1 p_2 n) false
def Jt (fu:Nat)  (p_1:List UInt8) (p_2:UInt8→Option Bool):Option Int :=
  Lq p_1 p_2 fu 0
def oA  (p_1:UInt8):Option Bool :=
  (kr p_1).bind fun a =>
  if a=true then
    some true
  else
    (Br p_1).bind fun b =>
    some b
def pA  (p_1:UInt8):Option Bool :=
  (kr p_1).bind fun a =>
  if a=true then
    some true
  else
    (Br p_1).bind fun b =>
    some b
def Gq (fu:Nat) (p_1:List UInt8) (V:Bool):Option Bool :=
  if V=true then
    some false
  else
    (Jt fu p_1 pA).bind fun a =>
    some (decide (a=(p_1.length:Int)))
def lr (fu:Nat)  (p_1:List UInt8):Option Bool :=
  if (p_1.length:Int)<1 then
    Gq fu p_1 true
  else
    if (12:Int)<(p_1.length:Int) then
      Gq fu p_1 true
    else
      (at_ p_1 0).bind fun a =>
      (kr a).bind fun b =>
      if b=true then
        (cat [32] p_1).bind fun c =>
        (cat c [32]).bind fun d =>
        (mA BM d).bind fun e =>
        Gq fu p_1 e
      else
        Gq fu p_1 true
def Sz  (p_1:List UInt8) (p_2:List UInt8):Option Bool :=
  if (p_2.length:Int)≤(p_1.length:Int) then
    (cut p_1 0 (p_2.length:Int)).bind fun s2 =>
    some (decide (s2=p_2))
  else
    some false
def qA  (p_1:List UInt8) (p_2:List UInt8):Option Bool :=
  (Sz p_1 p_2).bind fun a =>
  some a
def Kv (p_1:List UInt8):Nat→Int→Option (List UInt8)
  | 0,_=>none
  | n+1,i18 =>
    if i18<18 then
      (at_ [[61,61],[33,61],[60,61],[62,61],[60],[62],[61],[43],[45],[42],[47],[37],[40],[41],[123],[125],[44],[59]] i18).bind fun a =>
      (qA p_1 a).bind fun b =>
      if b=true then
        some a
      else
        (i64 (i18+1)).bind fun i46 =>
        Kv p_1 n i46
    else
      none
def Dz  (p_1:List UInt8):Option (List UInt8):=
  Kv p_1 19 0
def sv (i6:Int) (a:UInt8) (b:Int→Option Int) (c:Bool):Option Int :=
  if c=true then
    (i64 (i6+1)).bind fun i21 =>
    b i21
  else
    if (a.toNat:Int)=35 then
      none
    else
      some i6
def Mq (p_1:List UInt8):Nat→Int→Option Int
  | 0,_=>none
  | n+1,i6 =>
    if i6<(p_1.length:Int) then
      (at_ p_1 i6).bind fun a =>
      if (a.toNat:Int)=32 then
        sv i6 a (Mq p_1 n) (decide ((a.toNat:Int)=32))
      else
        if (a.toNat:Int)=9 then
          none
        else
          sv i6 a (Mq p_1 n) (decide ((a.toNat:Int)=10))
    else
      some i6
def uw (fu:Nat)  (p_1:List UInt8):Option Int :=
  Mq p_1 fu 0
def Xs (fu:Nat) (p_1:List UInt8) (i58:Int) (b:List Ic) (c:Int→(List Ic)→Option (List Ic×Pf)) (i118:Int) (a:List UInt8) (i120:Int):Option (List Ic×Pf):=
  (app b [(Ic.mk i118 a i120 i58)]).bind fun d =>
  (i64 (i58+(a.length:Int))).bind fun i154 =>
  (cut p_1 i154 p_1.length).bind fun e =>
  (uw fu e).bind fun f =>
  (i64 (i154+f)).bind fun i161 =>
  c i161 d
def vp (fu:Nat) (p_1:List UInt8):Nat→Int→(List Ic)→Option (List Ic×Pf)
  | 0,_,_=>none
  | n+1,i58,b =>
    if i58<(p_1.length:Int) then
      (cut p_1 i58 p_1.length).bind fun a =>
      (at_ a 0).bind fun d =>
      (kr d).bind fun f =>
      if f=true then
        (Jt fu a oA).bind fun g =>
        (cut a 0 g).bind fun h =>
        Xs fu p_1 i58 b (vp fu p_1 n) 1 h 0
      else
        (Br d).bind fun i =>
        if i=true then
          (Jt fu a Br).bind fun j =>
          (cut a 0 j).bind fun c =>
          if (15:Int)<(c.length:Int) then
            none
          else
            (LA c).bind fun i140 =>
            Xs fu p_1 i58 b (vp fu p_1 n) 2 c i140
        else
          (Dz a).bind fun e =>
          if e=[] then
            none
          else
            Xs fu p_1 i58 b (vp fu p_1 n) 3 e 0
    else
      some (b,(Pf.mk 0 0))
def Iy (fu:Nat)  (p_1:List UInt8):Option (List Ic×Pf):=
  if (6000:Int)<(p_1.length:Int) then
    none
  else
    (uw fu p_1).bind fun a =>
    vp fu p_1 fu a []
end Go.Y
namespace Go.Y
open Go.Ab Go.jc
def tv  (V:Bool):Option Int :=
  if V=true then
    some 0
  else
    none
def kz  (p_1:Int):Option Int :=
  if p_1≤3 then
    tv true
  else
    tv (decide (p_1=20))
def Kt  (a:Int) (p_2:Int):Option (Int×Int):=
  (i64 (a+1)).bind fun i3 =>
  if (2000:Int)<i3 then
    none
  else
    if (40:Int)<p_2 then
      none
    else
      some (0,i3)
def Ez  (p_1:ie):Option Int :=
  if p_1.Kind<1 then
    none
  else
    if (3:Int)<p_1.Kind then
      none
    else
      if p_1.Kind=3 then
        none
      else
        some 0
structure Ww where
  Co:Int→tf→Int→Option (Int×Int)
def xy (p_2:tf) (a:Int×Int):Nat→Option (Int×Int)
  | 0=>none
  | n+1 =>
    if (0:Int)<(p_2.Kids.length:Int) then
      none
    else
      some (0,a.2)
def uv (p_2:tf) (b:Int×Int) (a:Int) (Ef:Bool):Option (Int×Int):=
  if Ef=true then
    none
  else
    if (0:Int)≤a then
      if (p_2.Kids.length:Int)≠a then
        none
      else
        if a<0 then
          none
        else
          xy p_2 b (p_2.Kids.length+1)
    else
      none
def vv (fu:Nat) (p_2:tf) (b:Int×Int) (a:Int) (Mg:Bool):Option (Int×Int):=
  if Mg=true then
    none
  else
    if p_2.Kind=2 then
      none
    else
      if p_2.Kind=3 then
        none
      else
        if p_2.Kind=20 then
          (lr fu p_2.Name).bind fun c =>
          uv p_2 b a (!c)
        else
          if a<0 then
            none
          else
            uv p_2 b a false
def Co (fu:Nat) (self:Ww) (c:Int) (p_2:tf) (d:Int):Option (Int×Int):=
  (Kt c d).bind fun a =>
  if a.1≠0 then
    none
  else
    if p_2.Kind<1 then
      none
    else
      if (24:Int)<p_2.Kind then
        none
      else
        (kz p_2.Kind).bind fun b =>
        if p_2.Kind=1 then
          if p_2.N<0 then
            none
          else
            vv fu p_2 a b (decide ((999999999999999:Int)<p_2.N))
        else
          vv fu p_2 a b false
def yy:Nat→Ww
  | 0=>⟨fun _ _ _=>none⟩
  | n+1=>⟨Co n (yy n)⟩
structure Wp where
  zo:Int→(List Le)→Int→Option (Int×Int)
  Eo:Int→Le→Int→Option (Int×Int)
def mv (self:Wp) (p_2:List Le) (a:Int):Nat→Int→Int→Option (Int×Int)
  | 0,_,_=>none
  | n+1,i29,i30 =>
    if i29<(p_2.length:Int) then
      (at_ p_2 i29).bind fun c =>
      (self.Eo i30 c a).bind fun b =>
      if b.1≠0 then
        none
      else
        (i64 (i29+1)).bind fun i76 =>
        mv self p_2 a n i76 b.2
    else
      some (0,i30)
def zo (self:Wp) (a:Int) (p_2:List Le) (b:Int):Option (Int×Int):=
  if (50:Int)<(p_2.length:Int) then
    none
  else
    mv self p_2 b (p_2.length+1) 0 a
def wv (fu:Nat) (p_2:Le) (b:Int) (c:Int×Int) (Di:Bool):Option (Int×Int):=
  if Di=true then
    none
  else
    if p_2.Kind=6 then
      none
    else
      (i64 (b+1)).bind fun i31 =>
      ((yy fu).Co c.2 p_2.X i31).bind fun a =>
      if a.1≠0 then
        none
      else
        if p_2.Kind=3 then
          none
        else
          if p_2.Kind=4 then
            none
          else
            if p_2.Kind=3 then
              none
            else
              some (0,a.2)
def Eo (fu:Nat) (self:Wp) (c:Int) (p_2:Le) (a:Int):Option (Int×Int):=
  (Kt c a).bind fun b =>
  if b.1≠0 then
    none
  else
    if p_2.Kind<1 then
      none
    else
      if (9:Int)<p_2.Kind then
        none
      else
        if p_2.Kind=1 then
          none
        else
          if p_2.Kind=2 then
            none
          else
            if p_2.Kind=7 then
              (lr fu p_2.Name).bind fun d =>
              wv fu p_2 a b (!d)
            else
              wv fu p_2 a b false
def xv:Nat→Wp
  | 0=>⟨fun _ _ _=>none,fun _ _ _=>none⟩
  | n+1=>⟨zo (xv n),Eo n (xv n)⟩
def Lv (fu:Nat) (p_2:Yc) (a:Int×Int):Option (Int×Int):=
  if p_2.Kind≠1 then
    ((xv fu).zo a.2 p_2.Body 2).bind fun b =>
    some (b.1,b.2)
  else
    if p_2.cg<1 then
      none
    else
      if (20:Int)<p_2.cg then
        none
      else
        some (0,a.2)
def Fz (fu:Nat)  (b:Int) (p_2:Yc):Option (Int×Int):=
  (Kt b 1).bind fun a =>
  if a.1≠0 then
    none
  else
    if p_2.Kind<1 then
      none
    else
      if (4:Int)<p_2.Kind then
        none
      else
        (lr fu p_2.Name).bind fun c =>
        if c=true then
          if p_2.Kind=2 then
            none
          else
            if p_2.Kind=3 then
              none
            else
              if p_2.Kind=3 then
                none
              else
                if p_2.Kind≠4 then
                  (Ez p_2.Ee).bind fun d =>
                  if d≠0 then
                    none
                  else
                    Lv fu p_2 a
                else
                  Lv fu p_2 a
        else
          none
def nv (fu:Nat) (p_1:List Yc):Nat→Int→Int→Option Pf
  | 0,_,_=>none
  | n+1,i28,i29 =>
    if i28<(p_1.length:Int) then
      (at_ p_1 i28).bind fun b =>
      (Fz fu i29 b).bind fun a =>
      if a.1≠0 then
        none
      else
        (i64 (i28+1)).bind fun i69 =>
        nv fu p_1 n i69 a.2
    else
      some (Pf.mk 0 0)
def Xv (fu:Nat)  (p_1:List Yc):Option Pf :=
  if (30:Int)<(p_1.length:Int) then
    none
  else
    nv fu p_1 (p_1.length+1) 0 0
end Go.Y
namespace Go.Y
open Go.Ab Go.jc
def Lx  (a:List Ic) (c:Int) (d:Int):Option Int :=
  if (a.length:Int)=0 then
    none
  else
    (at_ a 0).bind fun b =>
    some b.Hc
def Kn  (a:List Ic) (c:Int) (d:Int) (p_2:List UInt8):Option Bool :=
  if (0:Int)<(a.length:Int) then
    (at_ a 0).bind fun b =>
    some (decide (b.Text=p_2))
  else
    none
def nh  (a:List Ic) (b:Int) (c:Int) (p_2:List UInt8):Option (Bool×List Ic×Int×Int):=
  (Kn a b c p_2).bind fun d =>
  if d=true then
    (cut a 1 a.length).bind fun e =>
    some (true,e,b,c)
  else
    some (false,a,b,c)
def Yv (p_2:List (List UInt8)):Nat→Int→(List Ic)→Int→Int→Option (List Ic×Int×Int)
  | 0,_,_,_,_=>none
  | n+1,i30,b,i35,i36 =>
    if i30<(p_2.length:Int) then
      (at_ p_2 i30).bind fun c =>
      (nh b i35 i36 c).bind fun a =>
      if a.1=true then
        (i64 (i30+1)).bind fun i71 =>
        Yv p_2 n i71 a.2.1 a.2.2.1 a.2.2.2
      else
        none
    else
      some (b,i35,i36)
def bq  (a:List Ic) (b:Int) (c:Int) (p_2:List (List UInt8)):Option (List Ic×Int×Int):=
  Yv p_2 (p_2.length+1) 0 a b c
def Ur (fu:Nat)  (a:List Ic) (c:Int) (d:Int):Option (List UInt8×List Ic×Int×Int):=
  if (a.length:Int)=0 then
    none
  else
    (at_ a 0).bind fun e =>
    if e.Kind≠1 then
      none
    else
      (at_ a 0).bind fun b =>
      (lr fu b.Text).bind fun f =>
      if f=true then
        (cut a 1 a.length).bind fun g =>
        some (b.Text,g,c,d)
      else
        none
def vw  (a:List Ic) (b:Int) (c:Int):Option (Int×List Ic×Int×Int):=
  if (a.length:Int)=0 then
    none
  else
    (at_ a 0).bind fun d =>
    if d.Kind≠2 then
      none
    else
      (at_ a 0).bind fun e =>
      (cut a 1 a.length).bind fun f =>
      some (e.tE,f,b,c)
def rA  (b:List Ic) (c:Int) (d:Int):Option (ie×List Ic×Int×Int):=
  (nh b c d [110,117,109]).bind fun a =>
  if a.1=true then
    some ((ie.mk 1 []),a.2.1,a.2.2.1,a.2.2.2)
  else
    none
def lz  :Option (List Nh):=
  some [(Nh.mk (Gd ([]:List (List UInt8×Int)) [111,114] 18) false),(Nh.mk (Gd ([]:List (List UInt8×Int)) [97,110,100] 17) false),(Nh.mk (Gd (Gd (Gd (Gd (Gd (Gd ([]:List (List UInt8×Int)) [61,61] 11) [33,61] 12) [60] 13) [60,61] 14) [62] 15) [62,61] 16) true),(Nh.mk (Gd (Gd ([]:List (List UInt8×Int)) [43] 6) [45] 7) false),(Nh.mk (Gd (Gd (Gd ([]:List (List UInt8×Int)) [42] 8) [47] 9) [37] 10) false)]
def ix  (a:List Ic) (b:Int) (c:Int):Option (List Ic×Int×Int):=
  (i64 (c+1)).bind fun i14 =>
  if (200:Int)<i14 then
    none
  else
    some (a,b,i14)
def Cx  (a:List Ic) (b:Int) (c:Int):Option (List Ic×Int×Int):=
  (i64 (c - 1)).bind fun i12 =>
  some (a,b,i12)
end Go.Y
namespace Go.Y
open Go.Ab Go.jc
structure bn where
  Tm:(List Ic)→Int→Int→Option (tf×List Ic×Int×Int)
  Pm:(List Ic)→Int→Int→Int→Option (tf×List Ic×Int×Int)
  Io:(List Ic)→Int→Int→Option (tf×List Ic×Int×Int)
  Bn:(List Ic)→Int→Int→Option (tf×List Ic×Int×Int)
def Tm (self:bn) (d:List Ic) (e:Int) (f:Int):Option (tf×List Ic×Int×Int):=
  (ix d e f).bind fun b =>
  (self.Pm b.1 b.2.1 b.2.2 0).bind fun a =>
  (Cx a.2.1 a.2.2.1 a.2.2.2).bind fun c =>
  some (a.1,c.1,c.2.1,c.2.2)
def Jy (p_2:Int) (b:List Nh) (a:tf×List Ic×Int×Int):Nat→Option (tf×List Ic×Int×Int)
  | 0=>none
  | n+1 =>
    if (0:Int)<(a.2.1.length:Int) then
      (at_ b p_2).bind fun c =>
      (at_ a.2.1 0).bind fun d =>
      if ((zc c.nA d.Text).getD 0)=0 then
        some (a.1,a.2.1,a.2.2.1,a.2.2.2)
      else
        none
    else
      none
def Pm (fu:Nat) (self:bn) (b:List Ic) (c:Int) (d:Int) (p_2:Int):Option (tf×List Ic×Int×Int):=
  (lz ).bind fun e =>
  if p_2=(e.length:Int) then
    (self.Io b c d).bind fun a =>
    some (a.1,a.2.1,a.2.2.1,a.2.2.2)
  else
    (i64 (p_2+1)).bind fun i33 =>
    (self.Pm b c d i33).bind fun f =>
    Jy p_2 e f fu
def Io (self:bn) (d:List Ic) (e:Int) (f:Int):Option (tf×List Ic×Int×Int):=
  (nh d e f [45]).bind fun a =>
  if a.1=true then
    none
  else
    (nh a.2.1 a.2.2.1 a.2.2.2 [110,111,116]).bind fun b =>
    if b.1=true then
      none
    else
      (self.Bn b.2.1 b.2.2.1 b.2.2.2).bind fun c =>
      some (c.1,c.2.1,c.2.2.1,c.2.2.2)
def Bn (fu:Nat) (self:bn) (a:List Ic) (j:Int) (k:Int):Option (tf×List Ic×Int×Int):=
  if (0:Int)<(a.length:Int) then
    (at_ a 0).bind fun l =>
    if l.Kind=2 then
      (vw a j k).bind fun b =>
      some ((tf.mk 1 b.1 [] ([]:List tf)),b.2.1,b.2.2.1,b.2.2.2)
    else
      (nh a j k [116,114,117,101]).bind fun c =>
      if c.1=true then
        none
      else
        (nh c.2.1 c.2.2.1 c.2.2.2 [102,97,108,115,101]).bind fun d =>
        if d.1=true then
          none
        else
          (nh d.2.1 d.2.2.1 d.2.2.2 [40]).bind fun e =>
          if e.1=true then
            none
          else
            (nh e.2.1 e.2.2.1 e.2.2.2 [114,101,99,118]).bind fun f =>
            if f.1=true then
              (bq f.2.1 f.2.2.1 f.2.2.2 [[40]]).bind fun h =>
              (Ur fu h.1 h.2.1 h.2.2).bind fun g =>
              (bq g.2.1 g.2.2.1 g.2.2.2 [[41]]).bind fun i =>
              some ((tf.mk 20 0 g.1 ([]:List tf)),i.1,i.2.1,i.2.2)
            else
              none
  else
    none
def Sp:Nat→bn
  | 0=>⟨fun _ _ _=>none,fun _ _ _ _=>none,fun _ _ _=>none,fun _ _ _=>none⟩
  | n+1=>⟨Tm (Sp n),Pm n (Sp n),Io (Sp n),Bn n (Sp n)⟩
structure mq where
  Po:(List Ic)→Int→Int→Option (List Le×List Ic×Int×Int)
  Qo:(List Ic)→Int→Int→Option (Le×List Ic×Int×Int)
def Zv (self:mq):Nat→(List Ic)→Int→Int→(List Le)→Option (List Le×List Ic×Int×Int)
  | 0,_,_,_,_=>none
  | n+1,e,i65,i66,c =>
    (nh e i65 i66 [125]).bind fun a =>
    if a.1=true then
      (Cx a.2.1 a.2.2.1 a.2.2.2).bind fun d =>
      some (c,d.1,d.2.1,d.2.2)
    else
      if (c.length:Int)=50 then
        none
      else
        (self.Qo a.2.1 a.2.2.1 a.2.2.2).bind fun b =>
        (app c [b.1]).bind fun f =>
        Zv self n b.2.1 b.2.2.1 b.2.2.2 f
def Po (fu:Nat) (self:mq) (c:List Ic) (d:Int) (e:Int):Option (List Le×List Ic×Int×Int):=
  (ix c d e).bind fun a =>
  (bq a.1 a.2.1 a.2.2 [[123]]).bind fun b =>
  Zv self fu b.1 b.2.1 b.2.2 []
def aw  (b:List Ic) (i28:Int) (i29:Int) (i30:Int) (c:List UInt8) (i33:Int) (i34:Int) (d:List UInt8) (e:List tf):Option (Le×List Ic×Int×Int):=
  (bq b i28 i29 [[59]]).bind fun a =>
  some ((Le.mk i30 c (tf.mk i33 i34 d e) ([]:List Le) ([]:List Le)),a.1,a.2.1,a.2.2)
def Qo (fu:Nat) (self:mq) (k:List Ic) (l:Int) (m:Int):Option (Le×List Ic×Int×Int):=
  (nh k l m [105,102]).bind fun d =>
  if d.1=true then
    none
  else
    (nh d.2.1 d.2.2.1 d.2.2.2 [119,104,105,108,101]).bind fun e =>
    if e.1=true then
      none
    else
      (nh e.2.1 e.2.2.1 e.2.2.2 [108,101,116]).bind fun f =>
      if f.1=true then
        none
      else
        (nh f.2.1 f.2.2.1 f.2.2.2 [114,101,116,117,114,110]).bind fun g =>
        if g.1=true then
          none
        else
          (nh g.2.1 g.2.2.1 g.2.2.2 [115,116,111,112]).bind fun h =>
          if h.1=true then
            none
          else
            (nh h.2.1 h.2.2.1 h.2.2.2 [115,101,110,100]).bind fun a =>
            if a.1=true then
              (Ur fu a.2.1 a.2.2.1 a.2.2.2).bind fun i =>
              ((Sp fu).Tm i.2.1 i.2.2.1 i.2.2.2).bind fun b =>
              aw b.2.1 b.2.2.1 b.2.2.2 7 i.1 b.1.Kind b.1.N b.1.Name b.1.Kids
            else
              (nh a.2.1 a.2.2.1 a.2.2.2 [111,117,116]).bind fun j =>
              if j.1=true then
                ((Sp fu).Tm j.2.1 j.2.2.1 j.2.2.2).bind fun c =>
                aw c.2.1 c.2.2.1 c.2.2.2 8 [] c.1.Kind c.1.N c.1.Name c.1.Kids
              else
                none
def xw:Nat→mq
  | 0=>⟨fun _ _ _=>none,fun _ _ _=>none⟩
  | n+1=>⟨Po n (xw n),Qo n (xw n)⟩
def sA (fu:Nat)  (k:List Ic) (l:Int) (m:Int):Option (Yc×List Ic×Int×Int):=
  (Lx k l m).bind fun n =>
  (nh k l m [98,111,120]).bind fun b =>
  if b.1=true then
    (Ur fu b.2.1 b.2.2.1 b.2.2.2).bind fun d =>
    (rA d.2.1 d.2.2.1 d.2.2.2).bind fun a =>
    (Lx a.2.1 a.2.2.1 a.2.2.2).bind fun o =>
    (vw a.2.1 a.2.2.1 a.2.2.2).bind fun c =>
    if c.1<1 then
      none
    else
      if (20:Int)<c.1 then
        none
      else
        (bq c.2.1 c.2.2.1 c.2.2.2 [[59]]).bind fun j =>
        some ((Yc.mk 1 d.1 (ie.mk a.1.Kind a.1.Df) (ie.mk 0 []) c.1 ([]:List TParam) ([]:List Le)),j.1,j.2.1,j.2.2)
  else
    (nh b.2.1 b.2.2.1 b.2.2.2 [102,110]).bind fun e =>
    if e.1=true then
      none
    else
      (nh e.2.1 e.2.2.1 e.2.2.2 [103,101,110]).bind fun f =>
      if f.1=true then
        none
      else
        (nh f.2.1 f.2.2.1 f.2.2.2 [116,97,115,107]).bind fun g =>
        if g.1=true then
          (Ur fu g.2.1 g.2.2.1 g.2.2.2).bind fun h =>
          ((xw fu).Po h.2.1 h.2.2.1 h.2.2.2).bind fun i =>
          some ((Yc.mk 4 h.1 (ie.mk 0 []) (ie.mk 0 []) 0 ([]:List TParam) i.1),i.2.1,i.2.2.1,i.2.2.2)
        else
          none
end Go.Y
namespace Go.Y
open Go.Ab Go.jc
theorem wI {α:Type}{l:List Ic}{e d:Int}{k1 b:List UInt8}(m:¬ k1=b){A B C:Bool×List Ic×Int×Int→Option α}{r:α}
    (h:(Option.bind (nh l e d k1) fun x=>if x.1=true then A x else Option.bind (nh x.2.1 x.2.2.1 x.2.2.2 b) fun y=>if y.1=true then B y else C y)=some r) :
    (Option.bind (nh l e d b) fun y=>if y.1=true then B y else Option.bind (nh y.2.1 y.2.2.1 y.2.2.2 k1) fun x=>if x.1=true then A x else C x)=some r:=by
  have key:∀ k,(Kn l e d k=some false∧nh l e d k=some (false,l,e,d))∨(∃ t a,l=t::a∧t.Text=k∧nh l e d k=some (true,a,e,d)):=by
    intro k;cases l with
    | nil=>first | (left; simp [Kn,nh]; done) | (exfalso; simp [Kn,nh] at h)
    | cons t a =>
      by_cases c:t.Text=k
      · right;refine ⟨t,a,rfl,c,?_⟩;have f:(0:Int)<((a.length+1:Nat):Int):=by omega
        have n:(1:Int)≤((a.length+1:Nat):Int):=by omega
        have hc:cut (t::a) 1 ((t::a).length)=some a:=by
          unfold cut;rw [if_pos ⟨by omega,by simpa using n,by simp⟩];simp
        have hs:Kn (t::a) e d k=some true:=by
          unfold Kn;rw [if_pos (by simp)];simp [at_,c]
        unfold nh;rw [hs,Option.bind_some];simp only [if_true];rw [hc];rfl
      · left;have f:(0:Int)<((a.length+1:Nat):Int):=by omega
        simp [nh,Kn,at_,c,f]
  rcases key k1 with ⟨s1,i1⟩ | ⟨t,a,g,i,i1⟩
  · rw [i1,Option.bind_some] at h;simp only [Bool.false_eq_true,if_false] at h;rcases key b with ⟨s2,i2⟩ | ⟨t,a,g,i,i2⟩
    · rw [i2,Option.bind_some] at h ⊢;simp only [Bool.false_eq_true,if_false] at h ⊢;rw [i1,Option.bind_some];simpa using h
    · rw [i2,Option.bind_some] at h ⊢;simp only [if_true] at h ⊢;exact h
  · rw [i1,Option.bind_some] at h;simp only [if_true] at h;rcases key b with ⟨s2,i2⟩ | ⟨t2,p,j,o,i2⟩
    · rw [i2,Option.bind_some];simp only [Bool.false_eq_true,if_false];rw [i1,Option.bind_some];simpa using h
    · rw [g] at j;obtain ⟨rfl,rfl⟩:=List.cons.inj j;exact absurd (i.symm.trans o) m
end Go.Y
namespace Go.Y
open Go.Ab Go.jc
def nD:Option Unit:=some ()
def zy (a:(List Ic)→Int→Int→(List Yc)→Option (List Yc×Pf)) (b:List Ic) (i75:Int) (i76:Int) (c:List Yc):Option (List Yc×Pf):=
  a b i75 i76 c
def Ay (a:List Ic×Pf) (b:List Yc):Option (List Yc×Pf):=
  (nD ).bind fun c =>
  some (b,a.2)
def Zs (fu:Nat) (c:List Ic×Pf):Nat→(List Ic)→Int→Int→(List Yc)→Option (List Yc×Pf)
  | 0,_,_,_,_=>none
  | n+1,d,i41,i42,a =>
    if (0:Int)<(d.length:Int) then
      if (a.length:Int)=30 then
        none
      else
        (sA fu d i41 i42).bind fun b =>
        (app a [b.1]).bind fun e =>
        zy (Zs fu c n) b.2.1 b.2.2.1 b.2.2.2 e
    else
      (Xv fu a).bind fun f =>
      if f.xf≠0 then
        none
      else
        Ay c a
def mz (fu:Nat)  (p_1:List UInt8):Option (List Yc×Pf):=
  (Iy fu p_1).bind fun a =>
  if a.2.xf≠0 then
    none
  else
    Zs fu a fu a.1 (p_1.length:Int) 0 []
end Go.Y
namespace Go.Y
open Go.Ab Go.jc
def kt  (p_1:ie):Option Bool :=
  some (decide (p_1.Kind≠3))
def bw  (p_1:zg) (p_2:Int) (a:List UInt8):Option (Option Yc×Bool):=
  if (zc p_1.named a).isSome=true then
    ((zc p_1.named a)).bind fun b =>
    some ((zc p_1.named a),decide (b.Kind=p_2))
  else
    none
def cw  (p_1:ie):Option ie :=
  (kt p_1).bind fun a =>
  if a=true then
    some (ie.mk p_1.Kind [])
  else
    none
def nz  :Option ie :=
  some (ie.mk 1 [])
structure qs where
  qo:zg→Yc→(List (List (List UInt8×ie)))→tf→ie→Option Int
  Jm:zg→Yc→(List (List (List UInt8×ie)))→tf→Option (ie×Int)
def qo (self:qs) (c:zg) (d:Yc) (e:List (List (List UInt8×ie))) (p_2:tf) (f:ie):Option Int :=
  (self.Jm c d e p_2).bind fun a =>
  if a.2=0 then
    (cw f).bind fun b =>
    if (Zm [(decide (a.1.Kind=b.Kind)),(decide (a.1.Df=b.Df))])=true then
      some a.2
    else
      none
  else
    none
def Jm (self:qs) (b:zg) (f:Yc) (g:List (List (List UInt8×ie))) (p_2:tf):Option (ie×Int):=
  if p_2.Kind=1 then
    (nz ).bind fun c =>
    some (c,0)
  else
    if p_2.Kind=2 then
      none
    else
      if p_2.Kind=3 then
        none
      else
        if p_2.Kind=4 then
          none
        else
          if p_2.Kind=5 then
            none
          else
            if p_2.Kind=11 then
              none
            else
              if p_2.Kind=12 then
                none
              else
                if p_2.Kind=19 then
                  none
                else
                  if p_2.Kind=20 then
                    (bw b 1 p_2.Name).bind fun a =>
                    if a.2=true then
                      (a.1).bind fun d =>
                      (cw d.Ee).bind fun e =>
                      some (e,0)
                    else
                      none
                  else
                    none
def At:Nat→qs
  | 0=>⟨fun _ _ _ _ _=>none,fun _ _ _ _=>none⟩
  | n+1=>⟨qo (At n),Jm (At n)⟩
end Go.Y
namespace Go.Y
open Go.Ab Go.jc
def By  (a:List (List (List UInt8×ie))):Option (List (List (List UInt8×ie))):=
  some a
def oz  (c:zg) (d:Yc) (a:List (List (List UInt8×ie))):Option (List (List (List UInt8×ie))):=
  (i64 ((a.length:Int) - 1)).bind fun i33 =>
  (cut a 0 i33).bind fun b =>
  By b
structure Vo where
  so:zg→Yc→(List (List (List UInt8×ie)))→(List Le)→Option (Int×List (List (List UInt8×ie)))
  Ao:zg→Yc→(List (List (List UInt8×ie)))→Le→Option (Int×List (List (List UInt8×ie)))
def ev (self:Vo) (p_2:List Le) (a:zg) (b:Yc):Nat→Int→(List (List (List UInt8×ie)))→Option (Int×List (List (List UInt8×ie)))
  | 0,_,_=>none
  | n+1,i74,c =>
    if i74<(p_2.length:Int) then
      (at_ p_2 i74).bind fun e =>
      (self.Ao a b c e).bind fun d =>
      if d.1≠0 then
        none
      else
        (i64 (i74+1)).bind fun i131 =>
        ev self p_2 a b n i131 d.2
    else
      (oz a b c).bind fun f =>
      some (0,f)
def ly (self:Vo) (p_2:List Le) (a:zg) (b:Yc) (c:List (List (List UInt8×ie))):Option (Int×List (List (List UInt8×ie))):=
  ev self p_2 a b (p_2.length+1) 0 c
def so (self:Vo) (a:zg) (b:Yc) (c:List (List (List UInt8×ie))) (p_2:List Le):Option (Int×List (List (List UInt8×ie))):=
  (app c [[]]).bind fun d =>
  ly self p_2 a b d
def Ao (fu:Nat) (self:Vo) (b:zg) (d:Yc) (a:List (List (List UInt8×ie))) (p_2:Le):Option (Int×List (List (List UInt8×ie))):=
  if p_2.Kind=1 then
    none
  else
    if p_2.Kind=2 then
      none
    else
      if p_2.Kind=3 then
        none
      else
        if p_2.Kind=4 then
          none
        else
          if p_2.Kind=5 then
            none
          else
            if p_2.Kind=6 then
              none
            else
              if p_2.Kind=7 then
                (bw b 1 p_2.Name).bind fun e =>
                if e.2=true then
                  (e.1).bind fun f =>
                  ((At fu).qo b d a p_2.X f.Ee).bind fun g =>
                  some (g,a)
                else
                  none
              else
                if p_2.Kind=8 then
                  ((At fu).Jm b d a p_2.X).bind fun c =>
                  if c.2=0 then
                    (kt c.1).bind fun h =>
                    if h=true then
                      some (c.2,a)
                    else
                      none
                  else
                    none
                else
                  none
def dw:Nat→Vo
  | 0=>⟨fun _ _ _ _=>none,fun _ _ _ _=>none⟩
  | n+1=>⟨so (dw n),Ao n (dw n)⟩
def ov  (a:Bool):Option Int :=
  if a=true then
    none
  else
    some 0
def Uy  (p_1:zg) (p_2:Yc):Option Int :=
  if p_2.Kind=2 then
    none
  else
    if p_2.Kind=3 then
      none
    else
      if p_2.Kind=3 then
        none
      else
        if p_2.Kind≠4 then
          (kt p_2.Ee).bind fun a =>
          ov (!a)
        else
          ov false
def Vy (fu:Nat)  (p_1:zg) (p_2:Yc):Option Int :=
  if p_2.Kind=1 then
    some 0
  else
    if p_2.Kind≠4 then
      none
    else
      ((dw fu).so p_1 p_2 [([]:List (List UInt8×ie))] p_2.Body).bind fun a =>
      some a.1
def fv (fu:Nat) (p_1:List Yc) (a:List (List UInt8×Yc)):Nat→Int→Option (zg×Pf)
  | 0,_=>none
  | n+1,i317 =>
    if i317<(p_1.length:Int) then
      (at_ p_1 i317).bind fun b =>
      (Vy fu (zg.mk p_1 a) b).bind fun c =>
      if c≠0 then
        none
      else
        (i64 (i317+1)).bind fun d =>
        fv fu p_1 a n d
    else
      some ((zg.mk p_1 a),(Pf.mk 0 0))
def gv (fu:Nat) (p_1:List Yc) (a:List (List UInt8×Yc)):Nat→Int→Option (zg×Pf)
  | 0,_=>none
  | n+1,i258 =>
    if i258<(p_1.length:Int) then
      (at_ p_1 i258).bind fun b =>
      (Uy (zg.mk p_1 a) b).bind fun c =>
      if c≠0 then
        none
      else
        (i64 (i258+1)).bind fun i298 =>
        gv fu p_1 a n i298
    else
      fv fu p_1 a (p_1.length+1) 0
def Ys (fu:Nat) (p_1:List Yc):Nat→Int→Int→(List (List UInt8×Yc))→Option (zg×Pf)
  | 0,_,_,_=>none
  | n+1,i90,i91,a =>
    if i91<(p_1.length:Int) then
      (at_ p_1 i91).bind fun d =>
      if (zc a d.Name).isSome=true then
        none
      else
        (at_ p_1 i91).bind fun b =>
        (at_ p_1 i91).bind fun c =>
        (at_ p_1 i91).bind fun e =>
        if e.Kind=4 then
          (i64 (i90+1)).bind fun i228 =>
          (i64 (i91+1)).bind fun i230 =>
          Ys fu p_1 n i228 i230 (Gd a b.Name c)
        else
          (i64 (i91+1)).bind fun i232 =>
          Ys fu p_1 n i90 i232 (Gd a b.Name c)
    else
      if i90=0 then
        none
      else
        gv fu p_1 a (p_1.length+1) 0
def Ky (fu:Nat)  (p_1:List Yc):Option (zg×Pf):=
  (Xv fu p_1).bind fun a =>
  if a.xf≠0 then
    none
  else
    Ys fu p_1 (p_1.length+1) 0 0 ([]:List (List UInt8×Yc))
end Go.Y
namespace Go.Y
open Go.Ab Go.jc
structure Dx where
  Bo:(List (List UInt8))→(List (List UInt8))→(List (List UInt8))→tf→Option (List (List UInt8)×List (List UInt8)×List (List UInt8))
def qy (a:List (List UInt8)) (p_2:tf) (b:List (List UInt8)) (c:List (List UInt8)):Nat→Option (List (List UInt8)×List (List UInt8)×List (List UInt8))
  | 0=>none
  | n+1 =>
    if (0:Int)<(p_2.Kids.length:Int) then
      none
    else
      some (a,b,c)
def pv (a:List (List UInt8)) (p_2:tf) (b:List (List UInt8)) (c:List (List UInt8)):Option (List (List UInt8)×List (List UInt8)×List (List UInt8)):=
  qy a p_2 b c (p_2.Kids.length+1)
def ry (a:List (List UInt8)) (p_2:tf) (b:List (List UInt8)) (c:List (List UInt8)):Option (List (List UInt8)×List (List UInt8)×List (List UInt8)):=
  pv a p_2 b c
def Bo (self:Dx) (a:List (List UInt8)) (b:List (List UInt8)) (c:List (List UInt8)) (p_2:tf):Option (List (List UInt8)×List (List UInt8)×List (List UInt8)):=
  if p_2.Kind=19 then
    none
  else
    if p_2.Kind=22 then
      none
    else
      if p_2.Kind=20 then
        (app c [p_2.Name]).bind fun d =>
        ry a p_2 b d
      else
        pv a p_2 b c
def Wy:Nat→Dx
  | 0=>⟨fun _ _ _ _=>none⟩
  | n+1=>⟨Bo (Wy n)⟩
structure Ex where
  uo:(List (List UInt8))→(List (List UInt8))→(List (List UInt8))→(List Le)→Option (List (List UInt8)×List (List UInt8)×List (List UInt8))
def hv (fu:Nat) (i69:Int) (c:List (List UInt8)) (d:List (List UInt8)) (a:Le) (e:Int→(List (List UInt8))→(List (List UInt8))→(List (List UInt8))→Option (List (List UInt8)×List (List UInt8)×List (List UInt8))) (f:List (List UInt8)):Option (List (List UInt8)×List (List UInt8)×List (List UInt8)):=
  if a.Kind≠6 then
    ((Wy fu).Bo c f d a.X).bind fun b =>
    if a.Kind=3 then
      none
    else
      if a.Kind=4 then
        none
      else
        if a.Kind=3 then
          none
        else
          (i64 (i69+1)).bind fun i183 =>
          e i183 b.1 b.2.1 b.2.2
  else
    none
def my (fu:Nat) (i69:Int) (a:List (List UInt8)) (b:List (List UInt8)) (c:Le) (d:Int→(List (List UInt8))→(List (List UInt8))→(List (List UInt8))→Option (List (List UInt8)×List (List UInt8)×List (List UInt8))) (e:List (List UInt8)):Option (List (List UInt8)×List (List UInt8)×List (List UInt8)):=
  hv fu i69 a b c d e
def xp (fu:Nat) (p_2:List Le):Nat→Int→(List (List UInt8))→(List (List UInt8))→(List (List UInt8))→Option (List (List UInt8)×List (List UInt8)×List (List UInt8))
  | 0,_,_,_,_=>none
  | n+1,i69,b,c,d =>
    if i69<(p_2.length:Int) then
      (at_ p_2 i69).bind fun a =>
      if a.Kind=7 then
        (app c [a.Name]).bind fun e =>
        my fu i69 b d a (xp fu p_2 n) e
      else
        hv fu i69 b d a (xp fu p_2 n) c
    else
      some (b,c,d)
def uo (fu:Nat) (self:Ex) (a:List (List UInt8)) (b:List (List UInt8)) (c:List (List UInt8)) (p_2:List Le):Option (List (List UInt8)×List (List UInt8)×List (List UInt8)):=
  xp fu p_2 (p_2.length+1) 0 a b c
def Xy:Nat→Ex
  | 0=>⟨fun _ _ _ _=>none⟩
  | n+1=>⟨uo n (Xy n)⟩
def ny (a:List (Option Yc)) (b:List (List UInt8)×List (List UInt8)×List (List UInt8)) (c:List (List UInt8)) (d:List (List UInt8)) (e:(List (Option Yc))→(List (List UInt8))→(List (List UInt8))→Option Eg):Nat→Option Eg
  | 0=>none
  | n+1 =>
    if (0:Int)<(b.1.length:Int) then
      none
    else
      e a c d
def oy (b:List (Option Yc)) (a:List (List UInt8)×List (List UInt8)×List (List UInt8)) (c:(List (Option Yc))→(List (List UInt8))→(List (List UInt8))→Option Eg) (f:List (List UInt8)) (g:List (List UInt8)) (d:List (List UInt8)) (e:List (List UInt8)):Option Eg :=
  ny b a d e c (a.1.length+1)
def zq (fu:Nat):Nat→(List (Option Yc))→(List (List UInt8))→(List (List UInt8))→Option Eg
  | 0,_,_,_=>none
  | n+1,b,c,d =>
    if (0:Int)<(b.length:Int) then
      (at_ b 0).bind fun e =>
      (cut b 1 b.length).bind fun f =>
      (e).bind fun g =>
      ((Xy fu).uo ([]:List (List UInt8)) ([]:List (List UInt8)) ([]:List (List UInt8)) g.Body).bind fun a =>
      (app c a.2.1).bind fun h =>
      (app d a.2.2).bind fun i =>
      oy f a (zq fu n) a.2.1 a.2.2 h i
    else
      some (Eg.mk ([]:List (List UInt8)) c d)
def Ly (fu:Nat)  (p_1:zg) (p_2:Yc):Option Eg :=
  zq fu fu ([(some p_2)]:List (Option Yc)) [] []
def ky (i88:Int) (a:Int→(List (List UInt8×Eg))→Option (List ij×Pf)) (b:List (List UInt8×Eg)):Option (List ij×Pf):=
  (i64 (i88+1)).bind fun i223 =>
  a i223 b
def cv (a:Int) (b:List UInt8) (c:Int→(List UInt8)→(List UInt8)→Option (List ij×Pf)) (d:List UInt8):Option (List ij×Pf):=
  (i64 (a+1)).bind fun e =>
  c e b d
def dv (f:List (List UInt8×Eg)) (g:Yc) (a:Int) (b:List UInt8) (c:Yc) (d:Int→(List UInt8)→(List UInt8)→Option (List ij×Pf)) (e:List UInt8):Option (List ij×Pf):=
  if (((zc f c.Name).getD (Eg.mk ([]:List (List UInt8)) ([]:List (List UInt8)) ([]:List (List UInt8)))).Wm).contains g.Name=true then
    if b≠[] then
      none
    else
      cv a e d c.Name
  else
    cv a e d b
def ko (p_1:List Yc) (b:List (List UInt8×Eg)) (e:Int) (f:List ij) (a:Yc) (g:Int→(List ij)→Option (List ij×Pf)):Nat→Int→(List UInt8)→(List UInt8)→Option (List ij×Pf)
  | 0,_,_,_=>none
  | n+1,c,h,i =>
    if c<(p_1.length:Int) then
      (at_ p_1 c).bind fun d =>
      if d.Kind≠4 then
        (i64 (c+1)).bind fun j =>
        ko p_1 b e f a g n j h i
      else
        if (((zc b d.Name).getD (Eg.mk ([]:List (List UInt8)) ([]:List (List UInt8)) ([]:List (List UInt8)))).Vm).contains a.Name=true then
          if h≠[] then
            none
          else
            dv b a c i d (ko p_1 b e f a g n) d.Name
        else
          dv b a c i d (ko p_1 b e f a g n) h
    else
      (app f [(ij.mk a.Name h i)]).bind fun k =>
      (i64 (e+1)).bind fun l =>
      g l k
def lo (p_1:List Yc) (b:List (List UInt8×Eg)):Nat→Int→(List ij)→Option (List ij×Pf)
  | 0,_,_=>none
  | n+1,a,c =>
    if a<(p_1.length:Int) then
      (at_ p_1 a).bind fun d =>
      if d.Kind≠1 then
        (i64 (a+1)).bind fun e =>
        lo p_1 b n e c
      else
        ko p_1 b a c d (lo p_1 b n) (p_1.length+1) 0 [] []
    else
      some (c,(Pf.mk 0 0))
def yq (fu:Nat) (p_1:List Yc) (a:zg×Pf):Nat→Int→(List (List UInt8×Eg))→Option (List ij×Pf)
  | 0,_,_=>none
  | n+1,i88,b =>
    if i88<(p_1.length:Int) then
      (at_ p_1 i88).bind fun c =>
      if c.Kind=4 then
        (at_ p_1 i88).bind fun d =>
        (at_ p_1 i88).bind fun e =>
        (Ly fu a.1 e).bind fun f =>
        ky i88 (yq fu p_1 a n) (Gd b d.Name f)
      else
        (i64 (i88+1)).bind fun i225 =>
        yq fu p_1 a n i225 b
    else
      lo p_1 b (p_1.length+1) 0 []
def Cy (fu:Nat)  (p_1:List Yc):Option (List ij×Pf):=
  (Ky fu p_1).bind fun a =>
  if a.2.xf≠0 then
    none
  else
    yq fu p_1 a (p_1.length+1) 0 ([]:List (List UInt8×Eg))
end Go.Y
namespace Go.Y
open Go.Ab Go.jc
def CM:List UInt8:=[98,111,120,32,98,32,110,117,109,32,49,32,59,32,116,97,115,107,32,99,32,123,32,111,117,116,32,114,101,99,118,32,40,32,98,32,41,32,59,32,125,32,116,97,115,107,32,97,32,123,32,115,101,110,100,32,98,32,55,32,59,32,125]
structure ji where
  Vj:List UInt8
  Mx:List UInt8
  jy:List UInt8
  deriving DecidableEq,Inhabited,Repr
instance:Ja ji where
  sz:=3
  pos:=by decide
  cs μ l x:=l=[S x.Vj,S x.Mx,S x.jy]
  Hg h:=by obtain rfl:=h;rfl
  up le h:=by exact h
  wg h:=by obtain rfl:=h;rfl
def bt (p_1:List Yc):Nat→Int→(List (List UInt8))→Option (List (List UInt8))
  | 0,_,_=>none
  | n+1,i37,a =>
    if i37<(p_1.length:Int) then
      (at_ p_1 i37).bind fun b =>
      if b.Kind=4 then
        (app a [b.Name]).bind fun c =>
        (i64 (i37+1)).bind fun i98 =>
        bt p_1 n i98 c
      else
        (i64 (i37+1)).bind fun i100 =>
        bt p_1 n i100 a
    else
      some a
def pz  (p_1:List Yc):Option (List (List UInt8)):=
  bt p_1 (p_1.length+1) 0 []
def yv (b:List ij×Pf):Nat→Int→(List ji)→Option (List ji×Pf)
  | 0,_,_=>none
  | n+1,i39,c =>
    if i39<(b.1.length:Int) then
      (at_ b.1 i39).bind fun a =>
      if a.Writer≠[] then
        if a.Reader≠[] then
          (app c [(ji.mk a.Vj a.Writer a.Reader)]).bind fun d =>
          (i64 (i39+1)).bind fun i86 =>
          yv b n i86 d
        else
          none
      else
        none
    else
      some (c,b.2)
def qz (fu:Nat)  (p_1:List Yc):Option (List ji×Pf):=
  (Cy fu p_1).bind fun a =>
  if a.2.xf≠0 then
    none
  else
    yv a (a.1.length+1) 0 []
def ew (p_1:List ji) (p_2:ji→Option Bool):Nat→Int→Option Int
  | 0,_=>none
  | n+1,i20 =>
    if i20<(p_1.length:Int) then
      (at_ p_1 i20).bind fun a =>
      (p_2 a).bind fun b =>
      if b=true then
        some i20
      else
        (i64 (i20+1)).bind fun i49 =>
        ew p_1 p_2 n i49
    else
      some (-1)
def Tz  (p_1:List ji) (p_2:ji→Option Bool):Option Int :=
  ew p_1 p_2 (p_1.length+1) 0
def Uz  (p_1:List ji) (p_2:ji→Option Bool):Option Bool :=
  (Tz p_1 p_2).bind fun a =>
  some (decide ((0:Int)≤a))
def fw (p_1:List (List UInt8)) (p_2:(List UInt8)→Option Bool):Nat→Int→Option Int
  | 0,_=>none
  | n+1,i20 =>
    if i20<(p_1.length:Int) then
      (at_ p_1 i20).bind fun a =>
      (p_2 a).bind fun b =>
      if b=true then
        some i20
      else
        (i64 (i20+1)).bind fun i49 =>
        fw p_1 p_2 n i49
    else
      some (-1)
def Vz  (p_1:List (List UInt8)) (p_2:(List UInt8)→Option Bool):Option Int :=
  fw p_1 p_2 (p_1.length+1) 0
def Wz  (p_1:ji) (p_2:List UInt8) (a:List (List UInt8)):Option Bool :=
  if p_1.jy=p_2 then
    some (a.contains p_1.Mx)
  else
    some false
def tA  (p_1:List UInt8) (p_2:List ji) (a:List (List UInt8)):Option Bool :=
  (Uz p_2 (fun b=>Wz b p_1 a)).bind fun c =>
  some (!c)
def Dy (a:List ji×Pf) (b:List (List UInt8)) (c:List (List UInt8)):Option (List (List UInt8)×List (List UInt8)×Pf):=
  some (c,b,a.2)
def zv (c:List ji×Pf):Nat→(List (List UInt8))→(List (List UInt8))→Option (List (List UInt8)×List (List UInt8)×Pf)
  | 0,_,_=>none
  | n+1,a,d =>
    (Vz a (fun e=>tA e c.1 a)).bind fun b =>
    if b<0 then
      Dy c a d
    else
      (at_ a b).bind fun f =>
      (app d [f]).bind fun g =>
      (i64 (b+1)).bind fun i166 =>
      (Kx a b i166).bind fun h =>
      zv c n h g
def rz (fu:Nat)  (p_1:List Yc):Option (List (List UInt8)×List (List UInt8)×Pf):=
  (qz fu p_1).bind fun a =>
  if a.2.xf≠0 then
    none
  else
    (pz p_1).bind fun b =>
    zv a fu b []
def gw (fu:Nat)  :Option Bool :=
  (mz fu CM).bind fun b =>
  (rz fu b.1).bind fun a =>
  if b.2.xf=0 then
    if a.2.2.xf=0 then
      if (a.1.length:Int)=2 then
        (at_ a.1 0).bind fun c =>
        if c=[97] then
          (at_ a.1 1).bind fun d =>
          if d=[99] then
            some (decide ((a.2.1.length:Int)=0))
          else
            none
        else
          none
      else
        none
    else
      none
  else
    none
end Go.Y
namespace Go.Y
open Go.Ab Go.jc
structure Lu where
  stack:List Int
  Wa:Value
instance:Mh Lu where
  wj μ v x:=∃ a c,v=.agg ⟨[.slice a x.stack.length c,x.Wa]⟩∧Da μ a c x.stack
  up l h:=by obtain ⟨a,c,b,d⟩:=h;exact ⟨a,c,b,d.up l⟩
abbrev qk:=List (Value×List Bool)
def xj:qk→List (Int×qd)→List (Int×Lu)
  | b::Jc,e::m=>(e.1,⟨e.2.stack,b.1⟩)::xj Jc m
  | _,_=>[]
structure si (μ:M) (es:List MapEntry) (c:Nat) (Jc:qk) (m:List (Int×qd)):Prop where
  Ts:Wf μ es c (xj Jc m)
  has:Jc.map (·.2)=m.map (·.2.has)
theorem si.up {μ I:M}{es:List MapEntry}{c:Nat}{Jc:qk}{m:List (Int×qd)}(h:si μ es c Jc m) (l:da μ I):si I es c Jc m:=⟨h.Ts.up l,h.has⟩
theorem si.nil {μ:M}{c:Nat}:si μ [] c [] []:=⟨Wf.nil,rfl⟩
def oe (T:TypeId) (Jc:qk):List mb:=Jc.map fun b=>.row b.1 T 1 b.2.length (b.2.map .bool)
theorem Xz:∀ (Jc:qk) (m:List (Int×qd)) (k:Int) (x:qd),Jc.map (·.2)=m.map (·.2.has)→zc m k=some x→∃ V v Ke,Jc=V++(v,x.has)::Ke∧zc (xj Jc m) k=some ⟨x.stack,v⟩∧∀ c,xj (V++(v,c)::Ke) (Gd m k ⟨x.stack,c⟩)=xj Jc m∧(V++(v,c)::Ke).map (·.2)=(Gd m k ⟨x.stack,c⟩).map (·.2.has)
  | Jc,[],k,x,h,g=>by simp [zc] at g
  | [],e::m,k,x,h,g=>by simp at h
  | b::Jc,(a,y)::m,k,x,h,g=>by
    simp only [List.map_cons,List.cons.injEq] at h;obtain ⟨d,f⟩:=h;by_cases e:a=k
    · subst e;rw [zc,if_pos rfl] at g;obtain rfl:=Option.some.inj g;refine ⟨[],b.1,Jc,by rw [← d];rfl,by rw [xj,zc,if_pos rfl],fun c=>?_⟩;rw [Gd,if_pos rfl];exact ⟨rfl,by simp [f]⟩
    · rw [zc,if_neg e] at g;obtain ⟨V,v,Ke,ra,i,j⟩:=Xz Jc m k x f g;refine ⟨b::V,v,Ke,by rw [ra];rfl,by rw [xj,zc,if_neg e,i],fun c=>?_⟩;obtain ⟨l,n⟩:=j c;rw [Gd,if_neg e];refine ⟨?_,?_⟩
      · show xj (b::(V++(v,c)::Ke)) _=_;rw [xj,xj,l]
      · show (b::(V++(v,c)::Ke)).map (·.2)=_;rw [List.map_cons,n,List.map_cons,d]
theorem PD:∀ (Jc:qk) (m:List (Int×qd)) (k:Int),zc m k=none→zc (xj Jc m) k=none
  | Jc,[],k,g=>by cases Jc <;> rfl
  | [],e::m,k,g=>rfl
  | b::Jc,(a,y)::m,k,g=>by
    by_cases e:a=k
    · rw [zc,if_pos e] at g;cases g
    · rw [zc,if_neg e] at g;rw [xj,zc,if_neg e,PD Jc m k g]
theorem oD:∀ (Jc:qk) (m:List (Int×qd)) (k:Int) (st:List Int) (v:Value) (h:List Bool),Jc.map (·.2)=m.map (·.2.has)→zc m k=none →
    Gd (xj Jc m) k ⟨st,v⟩=xj (Jc++[(v,h)]) (Gd m k ⟨st,h⟩)∧(Jc++[(v,h)]).map (·.2)=(Gd m k ⟨st,h⟩).map (·.2.has)
  | [],[],k,st,v,h,e,g=>⟨rfl,rfl⟩
  | b::Jc,[],k,st,v,h,e,g=>by simp at e
  | [],e::m,k,st,v,h,d,g=>by simp at d
  | b::Jc,(a,y)::m,k,st,v,h,e,g=>by
    simp only [List.map_cons,List.cons.injEq] at e;obtain ⟨f,i⟩:=e;by_cases c:a=k
    · rw [zc,if_pos c] at g;cases g
    · rw [zc,if_neg c] at g;obtain ⟨j,l⟩:=oD Jc m k st v h i g;rw [xj,Gd,if_neg c,Gd,if_neg c,j];refine ⟨?_,?_⟩
      · show _=xj (b::(Jc++[(v,h)])) _;rw [xj]
      · show (b::(Jc++[(v,h)])).map (·.2)=_;rw [List.map_cons,l,List.map_cons,f]
theorem xI {m:List (Int×qd)}{k:Int}(h:¬ (zc m k).isSome=true):zc m k=none:=by
  cases e:zc m k with
  | none=>rfl
  | some x=>rw [e] at h; exact absurd rfl h
theorem si.new {μ:M}{es:List MapEntry}{c:Nat}{Jc:qk}{m:List (Int×qd)}{k:Int}{st:List Int}{v:Value}{h:List Bool}{a:List MapEntry}{c':Nat}{E:M}(p:si E es c Jc m) (g:zc m k=none) (q:Wf μ a c' (Gd (xj Jc m) k ⟨st,v⟩)):si μ a c' (Jc++[(v,h)]) (Gd m k ⟨st,h⟩):=by
  obtain ⟨ra,b⟩:=oD Jc m k st v h p.has g;exact ⟨by rw [← ra];exact q,b⟩
theorem si.set {μ:M}{es:List MapEntry}{c:Nat}{Jc V Ke:qk}{v:Value}{m:List (Int×qd)}{k:Int}{x:qd}(p:si μ es c Jc m) (h:∀ a,xj (V++(v,a)::Ke) (Gd m k ⟨x.stack,a⟩)=xj Jc m∧(V++(v,a)::Ke).map (·.2)=(Gd m k ⟨x.stack,a⟩).map (·.2.has)) (a:List Bool):si μ es c (V++(v,a)::Ke) (Gd m k ⟨x.stack,a⟩):=by
  obtain ⟨ra,b⟩:=h a;exact ⟨by rw [ra];exact p.Ts,b⟩
theorem yI {α:Type}[Ja α]{μ:M}{v:Value}{o:Option α}(h:Ue μ v o) (k:¬ o.isSome=true):v=.pointer none:=by
  cases o with
  | none=>exact h
  | some x=>exact absurd rfl k
theorem Lt {μ:M}:∀ h:List Bool,na μ (h.map Value.bool) h
  | []=>rfl
  | b::h=>na.cons (cs:=[.bool b]) rfl (Lt h)
theorem oB {μ:M}:∀ {h:List Bool}{cells:List Value},na μ cells h→cells=h.map Value.bool
  | [],cells,r=>r
  | b::h,cells,r=>by
    obtain ⟨cs,t,rfl,a,c⟩:=r;rw [show cs=[.bool b] from a,oB c];rfl
section
variable {μ:M}{w0 w:World}{T:TypeId}{a p R:List mb}{V Ke Jc:qk}{v:Value}{h:List Bool}
theorem SB (b:ia μ w0 w (a++(oe T (V++(v,h)::Ke)++R))):ia μ w0 w (.row v T 1 h.length (h.map .bool)::(a++(oe T (V++Ke)++R))):=
  b.perm (by
    unfold oe;simp only [List.map_append,List.map_cons,List.append_assoc,List.cons_append];exact (List.perm_middle.append_left a).trans List.perm_middle)
theorem nt {cells:List Value}(b:ia μ w0 w (.row v T 1 h.length cells::(a++(oe T (V++Ke)++R)))) (c:na μ cells h):ia μ w0 w (a++(oe T (V++(v,h)::Ke)++R)):=by
  rw [oB c] at b;exact b.perm (by
    unfold oe;simp only [List.map_append,List.map_cons,List.append_assoc,List.cons_append];exact ((List.perm_middle.append_left a).trans List.perm_middle).symm)
theorem YG {cells:List Value}(b:ia μ w0 w (.row v T 1 h.length cells::(a++(oe T Jc++R)))) (c:na μ cells h):ia μ w0 w (a++(oe T (Jc++[(v,h)])++R)):=by
  have d:ia μ w0 w (.row v T 1 h.length cells::(a++(oe T (Jc++[])++R))):=by rw [List.append_nil];exact b
  exact nt d c
theorem TB (c:ia μ w0 w (a++(oe T Jc++R))):ia μ w0 w (a++R):=by
  have b:ia μ w0 w (oe T Jc++(a++R)):=c.perm (by rw [← List.append_assoc,← List.append_assoc];exact List.Perm.append_right R List.perm_append_comm);generalize oe T Jc=l at b
  induction l with
  | nil=>exact b
  | cons r l d=>exact d (b.drop .z)
end
section
variable {P:Program}{Q:Exit→Act→World→Prop}{K:List Value→List Deferred→World→Prop}{fr ua:List Value}{ds:List Deferred}{w:World}
variable {dst:Option Tmp}{ty:TypeId}{pos:String}{after:Array Edge}{g:Option (Nat×Bool)}{μ:M}{T:TypeId}
variable {x y:Operand}{Re aa:TypeId}{b c:Nat}{es:List MapEntry}{m:List (Int×Lu)}{k:Int}
theorem ZG {x:Operand}{t Ob e:TypeId}{a:Addr}(hu:P.underlying t=some (.pointer e)) (b:cb fr x (.pointer (some a))):Qe P (Oper.mk dst (.binOp .neq t x (.const (.pointer none)) Ob) ty pos after g) fr (.bool true):=⟨fun ds w=>by
  have c:=b ds;have f:(F fr ds).eval (.const (.pointer none))=.pointer none:=rfl;have h:∀ d:Nat,(Op.equalIn (d+1) t (.pointer (some a)) (.pointer none)).run P w=.ok false w:=fun d=>by
    simp [Op.equalIn,run_underlying hu]
  have i:(Op.equalIn Op.maxDepth t (.pointer (some a)) (.pointer none)).run P w=.ok false w:=h 9999;simp [execOp,c,f,eqGuard,binOp,Op.equal,i]⟩
theorem aH {x:Operand}{t Ob e:TypeId}{a:Addr}(hu:P.underlying t=some (.pointer e)) (b:cb fr x (.pointer (some a))) (c:Te fr dst (.bool true) ua) (h:K ua ds w):Kd P (Oper.mk dst (.binOp .neq t x (.const (.pointer none)) Ob) ty pos after g) fr ds w K Q:=ta (ZG hu b) c h
theorem kG {x:Operand}{t Ob e:TypeId}(hu:P.underlying t=some (.pointer e)) (a:cb fr x (.pointer none)):Qe P (Oper.mk dst (.binOp .neq t x (.const (.pointer none)) Ob) ty pos after g) fr (.bool false):=⟨fun ds w=>by
  have b:=a ds;have c:(F fr ds).eval (.const (.pointer none))=.pointer none:=rfl;have f:∀ d:Nat,(Op.equalIn (d+1) t (.pointer none) (.pointer none)).run P w=.ok true w:=fun d=>by
    simp [Op.equalIn,run_underlying hu]
  have h:(Op.equalIn Op.maxDepth t (.pointer none) (.pointer none)).run P w=.ok true w:=f 9999;simp [execOp,b,c,eqGuard,binOp,Op.equal,h]⟩
theorem lG {x:Operand}{t Ob e:TypeId}(hu:P.underlying t=some (.pointer e)) (a:cb fr x (.pointer none)) (b:Te fr dst (.bool false) ua) (h:K ua ds w):Kd P (Oper.mk dst (.binOp .neq t x (.const (.pointer none)) Ob) ty pos after g) fr ds w K Q:=ta (kG hu a) b h
theorem pD {μ:M}:Mh.wj μ (.agg ⟨[.slice none 0 0,.slice none 0 0]⟩) (⟨[],.slice none 0 0⟩:Lu):=⟨none,0,rfl,Da.nil⟩
theorem zI {st:List Int}{Wa:Value}(e:P.underlying T=some (.map Re aa)) (f:P.underlying Re=some (qb.bm (κ:=Int))) (i:cb fr x (.map (some b))) (j:cb fr y (qb.key k))
    (l:∀ w,(zeroValue aa).run P w=.ok (.agg ⟨[.slice none 0 0,.slice none 0 0]⟩) w) (n:w.heap[b]?=some (.map ⟨es⟩ c)) (he:Wf μ es c m) (yj:zc m k=some ⟨st,Wa⟩)
    (h:∀ a c,Da μ a c st→hh fr dst (.agg ⟨[.slice a st.length c,Wa]⟩) fun ua=>K ua ds w):Kd P (Oper.mk dst (.lookup T x y false) ty pos after g) fr ds w K Q :=
  Hr e f i j l pD n he fun v d=>by
    rw [yj] at d;obtain ⟨a,c,rfl,m⟩:=d;exact h a c m
theorem AI {st:List Int}{Wa:Value}(e:P.underlying T=some (.map Re aa)) (f:P.underlying Re=some (qb.bm (κ:=Int))) (i:cb fr x (.map (some b))) (j:cb fr y (qb.key k))
    (l:∀ w,(zeroValue aa).run P w=.ok (.agg ⟨[.slice none 0 0,.slice none 0 0]⟩) w) (n:w.heap[b]?=some (.map ⟨es⟩ c)) (he:Wf μ es c m) (yj:zc m k=some ⟨st,Wa⟩)
    (h:∀ a c,Da μ a c st→hh fr dst (.tuple ⟨[.agg ⟨[.slice a st.length c,Wa]⟩,.bool true]⟩) fun ua=>K ua ds w):Kd P (Oper.mk dst (.lookup T x y true) ty pos after g) fr ds w K Q :=
  pI e f i j l pD n he fun v d=>by
    rw [yj] at d ⊢;obtain ⟨a,c,rfl,m⟩:=d;exact h a c m
theorem bH (f:P.underlying T=some (.map Re aa)) (i:P.underlying Re=some (qb.bm (κ:=Int))) (j:cb fr x (.map (some b))) (l:cb fr y (qb.key k))
    (n:∀ w,(zeroValue aa).run P w=.ok (.agg ⟨[.slice none 0 0,.slice none 0 0]⟩) w) (o:w.heap[b]?=some (.map ⟨es⟩ c)) (he:Wf μ es c m) (yj:zc m k=none)
    (h:hh fr dst (.tuple ⟨[.agg ⟨[.slice none 0 0,.slice none 0 0]⟩,.bool false]⟩) fun ua=>K ua ds w):Kd P (Oper.mk dst (.lookup T x y true) ty pos after g) fr ds w K Q:=by
  obtain ⟨ua,Qa⟩:=Ji fr dst (.tuple #[nk es (qb.key k) (.agg ⟨[.slice none 0 0,.slice none 0 0]⟩),.bool (Uo es (qb.key k))]);refine jz f i j l (qb.Re k) n o he.Qf.keys Qa ?_;rw [he.Qf.has k,yj] at Qa;have a:=he.Qf.look k;have e:nk es (qb.key k) (.agg ⟨[.slice none 0 0,.slice none 0 0]⟩)=.agg ⟨[.slice none 0 0,.slice none 0 0]⟩:=by
    unfold nk;rw [zt];cases q:vk (qb.key k) es with
    | none=>rfl
    | some p=>rw [q] at a; obtain ⟨x,d,r⟩:=a; rw [yj] at d; cases d
  rw [e] at Qa;exact h ua Qa
end
end Go.Y
namespace Go.Y
open Go.Ab Go.jc
def Om  (p_1:Int):Option Bool :=
  if p_1=1 then
    some true
  else
    some (decide (p_1=2))
def Xp  (p_1:ze) (p_2:Int) (b:Int):Option Bool :=
  if (0:Int)≤p_2 then
    (p_1.m).bind fun a =>
    if p_2<(a.Ya.length:Int) then
      (at_ a.Ya p_2).bind fun c =>
      some (decide (c.Kind=b))
    else
      some false
  else
    some false
def mr  (p_1:ze) (p_2:Int):Option Bool :=
  if (10:Int)≤p_2 then
    (i64 (p_2 - 10)).bind fun i7 =>
    (Xp p_1 i7 3).bind fun a =>
    some a
  else
    some false
def Nk  (a:Bool):Option Int :=
  if a=true then
    some 0
  else
    some 3
def ct  (a:Bool):Option Int :=
  if a=true then
    some 1
  else
    Nk true
def dt (p_1:ze) (a:ud) (b:Bool):Option Int :=
  if b=true then
    if (0:Int)≤a.A then
      (p_1.m).bind fun c =>
      Nk (decide (a.A<(c.sc.length:Int)))
    else
      Nk false
  else
    if a.Op<1 then
      ct true
    else
      ct (decide ((32:Int)<a.Op))
def et (p_1:ze) (p_2:Xc) (a:ud) (yg:Bool):Option Int :=
  if yg=true then
    if (0:Int)≤a.A then
      Nk (decide (a.A<(p_2.Code.length:Int)))
    else
      Nk false
  else
    if a.Op=23 then
      (Xp p_1 a.A 2).bind fun b =>
      Nk b
    else
      if a.Op=29 then
        (Xp p_1 a.A 3).bind fun c =>
        Nk c
      else
        if a.Op=26 then
          dt p_1 a (decide (a.Op=26))
        else
          dt p_1 a (decide (a.Op=27))
def ft (p_1:ze) (p_2:Xc) (a:ud) (b:Bool):Option Int :=
  if b=true then
    if (0:Int)≤a.A then
      Nk (decide (a.A<(p_2.Gc.length:Int)))
    else
      Nk false
  else
    if a.Op=21 then
      et p_1 p_2 a (decide (a.Op=21))
    else
      et p_1 p_2 a (decide (a.Op=22))
def Mt  (p_1:ze) (p_2:Xc) (a:ud):Option Int :=
  if a.Op=2 then
    if a.A=0 then
      Nk true
    else
      Nk (decide (a.A=1))
  else
    if a.Op=3 then
      ft p_1 p_2 a (decide (a.Op=3))
    else
      ft p_1 p_2 a (decide (a.Op=4))
def nr (p_1:List Int) (p_2:Int→Option Bool):Nat→Int→Option Int
  | 0,_=>none
  | n+1,i20 =>
    if i20<(p_1.length:Int) then
      (at_ p_1 i20).bind fun a =>
      (p_2 a).bind fun b =>
      if b=true then
        some i20
      else
        (i64 (i20+1)).bind fun i49 =>
        nr p_1 p_2 n i49
    else
      some (-1)
def jx  (p_1:List Int) (p_2:Int→Option Bool):Option Int :=
  nr p_1 p_2 (p_1.length+1) 0
def cq  (p_1:List Int) (p_2:Int→Option Bool):Option Bool :=
  (jx p_1 p_2).bind fun a =>
  some (decide ((0:Int)≤a))
def pr (p_1:List ud) (p_2:ud→Option Bool):Nat→Int→Option Int
  | 0,_=>none
  | n+1,i20 =>
    if i20<(p_1.length:Int) then
      (at_ p_1 i20).bind fun a =>
      (p_2 a).bind fun b =>
      if b=true then
        some i20
      else
        (i64 (i20+1)).bind fun i49 =>
        pr p_1 p_2 n i49
    else
      some (-1)
def kx  (p_1:List ud) (p_2:ud→Option Bool):Option Int :=
  pr p_1 p_2 (p_1.length+1) 0
def lx  (p_1:List ud) (p_2:ud→Option Bool):Option Bool :=
  (kx p_1 p_2).bind fun a =>
  some (decide ((0:Int)≤a))
def Nt  (p_1:Int) (p_2:Option ze):Option Bool :=
  (Om p_1).bind fun a =>
  if a=true then
    some false
  else
    (p_2).bind fun b =>
    (mr b p_1).bind fun c =>
    some (!c)
def zn (p_1:ze) (p_2:Xc) (a:Bool):Option Int :=
  if a=true then
    some 9
  else
    (cq p_2.Gc (fun b=>Nt b (some p_1))).bind fun c =>
    if c=true then
      some 9
    else
      some 0
def Wq (p_1:ze) (p_2:Xc) (a:Bool):Option Int :=
  if a=true then
    some 5
  else
    if p_2.Kind≠4 then
      (Om p_2.Result).bind fun b =>
      if b=true then
        if p_2.Kind=3 then
          (Om p_2.je).bind fun c =>
          zn p_1 p_2 (!c)
        else
          zn p_1 p_2 false
      else
        zn p_1 p_2 true
    else
      if p_2.Kind=3 then
        (Om p_2.je).bind fun d =>
        zn p_1 p_2 (!d)
      else
        zn p_1 p_2 false
def Hm (p_1:ze) (p_2:Xc) (a:Bool):Option Int :=
  if a=true then
    some 5
  else
    if (p_2.Code.length:Int)<1 then
      Wq p_1 p_2 true
    else
      Wq p_1 p_2 (decide ((4000:Int)<(p_2.Code.length:Int)))
def Ip (p_1:ze) (p_2:Xc) (a:Bool):Option Int :=
  if a=true then
    some 1
  else
    if (200:Int)<(p_2.Gc.length:Int) then
      Hm p_1 p_2 true
    else
      if p_2.Params<0 then
        Hm p_1 p_2 true
      else
        if (6:Int)<p_2.Params then
          Hm p_1 p_2 true
        else
          if (p_2.Gc.length:Int)<p_2.Params then
            Hm p_1 p_2 true
          else
            if p_2.Kind=4 then
              Hm p_1 p_2 (decide ((0:Int)<p_2.Params))
            else
              Hm p_1 p_2 false
def du  (p_1:ze) (p_2:Xc):Option Int :=
  if p_2.Kind≠2 then
    if p_2.Kind≠3 then
      Ip p_1 p_2 (decide (p_2.Kind≠4))
    else
      Ip p_1 p_2 false
  else
    Ip p_1 p_2 false
def ot (i55:Int) (a:Int→Option hg) (b:Bool):Option hg :=
  if b=true then
    some (hg.mk 3 0 i55)
  else
    (i64 (i55+1)).bind fun i93 =>
    a i93
def Xq (p_1:ze) (i163:Int) (i164:Int) (a:Xc) (b:Int→Int→Option hg):Nat→Int→Option hg
  | 0,_=>none
  | n+1,i268 =>
    if i268<(a.Code.length:Int) then
      (at_ a.Code i268).bind fun d =>
      (Mt p_1 a d).bind fun c =>
      if c≠0 then
        some (hg.mk c i164 i268)
      else
        (i64 (i268+1)).bind fun i300 =>
        Xq p_1 i163 i164 a b n i300
    else
      if a.Kind=4 then
        (i64 (i163+1)).bind fun i303 =>
        (i64 (i164+1)).bind fun i305 =>
        b i303 i305
      else
        (i64 (i164+1)).bind fun i307 =>
        b i163 i307
def vo (p_1:ze) (a:sb):Nat→Int→Int→Option hg
  | 0,_,_=>none
  | n+1,i163,i164 =>
    if i164<(a.Ya.length:Int) then
      (at_ a.Ya i164).bind fun b =>
      (du p_1 b).bind fun c =>
      if c≠0 then
        some (hg.mk c i164 0)
      else
        Xq p_1 i163 i164 b (vo p_1 a n) (b.Code.length+1) 0
    else
      if i163=0 then
        some (hg.mk 6 0 0)
      else
        some (hg.mk 0 0 0)
def wo (p_1:ze) (a:sb):Nat→Int→Option hg
  | 0,_=>none
  | n+1,i55 =>
    if i55<(a.sc.length:Int) then
      (at_ a.sc i55).bind fun b =>
      (Om b.Ee).bind fun c =>
      if c=true then
        if b.cg<1 then
          ot i55 (wo p_1 a n) true
        else
          ot i55 (wo p_1 a n) (decide ((20:Int)<b.cg))
      else
        some (hg.mk 9 0 i55)
    else
      vo p_1 a (a.Ya.length+1) 0 0
def pt (p_1:ze) (b:Bool):Option hg :=
  if b=true then
    some (hg.mk 5 0 0)
  else
    (p_1.m).bind fun a =>
    wo p_1 a (a.sc.length+1) 0
def eu  (p_1:ze):Option hg :=
  (p_1.m).bind fun a =>
  if (30:Int)<(a.sc.length:Int) then
    pt p_1 true
  else
    pt p_1 (decide ((30:Int)<(a.Ya.length:Int)))
end Go.Y
namespace Go.Y
open Go.Ab Go.jc
def iv  (a:List Int) (b:List Bool):Option qd :=
  some (qd.mk a b)
def qt  (p_1:qd):Option qd :=
  (small p_1.stack).bind fun a =>
  (small p_1.has).bind fun b =>
  iv p_1.stack p_1.has
def jv  (a:List Int) (b:List Bool):Option qd :=
  some (qd.mk a b)
def tt  (p_1:qd):Option qd :=
  (small p_1.stack).bind fun a =>
  (small p_1.has).bind fun b =>
  jv p_1.stack p_1.has
def Nq (p_1:List Int) (p_2:List Int):Nat→Int→Option Bool
  | 0,_=>none
  | n+1,i33 =>
    if i33<(p_1.length:Int) then
      (at_ p_1 i33).bind fun a =>
      (at_ p_2 i33).bind fun b =>
      if a≠b then
        some false
      else
        (i64 (i33+1)).bind fun i83 =>
        Nq p_1 p_2 n i83
    else
      some true
def Ot  (p_1:List Int) (p_2:List Int):Option Bool :=
  if (p_1.length:Int)≠(p_2.length:Int) then
    some false
  else
    Nq p_1 p_2 (p_1.length+1) 0
def Pj  (a:Int) (p_2:Int):Option Int :=
  if a=0 then
    some p_2
  else
    some a
def hj  (c:List Int) (b:Int) (p_2:Int):Option (List Int×Int):=
  (app c [p_2]).bind fun a =>
  if (300:Int)<(a.length:Int) then
    (Pj b 4).bind fun d =>
    some (a,d)
  else
    some (a,b)
def om  (a:List Int) (b:Int):Option (Int×List Int×Int):=
  if (a.length:Int)=0 then
    (Pj b 12).bind fun c =>
    some (0,a,c)
  else
    (i64 ((a.length:Int) - 1)).bind fun i19 =>
    (at_ a i19).bind fun d =>
    (i64 ((a.length:Int) - 1)).bind fun i35 =>
    (cut a 0 i35).bind fun e =>
    some (d,e,b)
def Jp (p_2:List Int):Nat→Int→Int→(List Int)→Option (List Int×Int)
  | 0,_,_,_=>none
  | n+1,i40,i41,b =>
    if (0:Int)≤i40 then
      (om b i41).bind fun a =>
      (at_ p_2 i40).bind fun c =>
      if a.1≠c then
        (Pj a.2.2 9).bind fun d =>
        (i64 (i40 - 1)).bind fun i88 =>
        Jp p_2 n i88 d a.2.1
      else
        (i64 (i40 - 1)).bind fun i90 =>
        Jp p_2 n i90 a.2.2 a.2.1
    else
      some (b,i41)
def jk (fu:Nat)  (a:List Int) (b:Int) (p_2:List Int):Option (List Int×Int):=
  (i64 ((p_2.length:Int) - 1)).bind fun i18 =>
  Jp p_2 fu i18 b a
def yw (p_2:Int) (a:List Int) (b:List Int) (c:List Bool) (d:Int) (e:List (Int×qd)):Option (List (Int×qd)×List Int×List Int×List Bool×Int):=
  (app a [p_2]).bind fun f =>
  some (e,f,b,c,d)
def Tp (c:Bool) (i129:Int) (a:List Bool) (b:Bool→Int→(List Bool)→Option (List (Int×qd)×List Int×List Int×List Bool×Int)) (d:Bool):Option (List (Int×qd)×List Int×List Int×List Bool×Int):=
  if d=true then
    (at_ a i129).bind fun e =>
    (i64 (i129+1)).bind fun i236 =>
    b true i236 (a.set i129.toNat false)
  else
    (i64 (i129+1)).bind fun i238 =>
    b c i238 a
def Cn (p_2:Int) (d:List (Int×qd)) (e:List Int) (f:List Int) (a:List Bool) (g:Int) (b:qd):Nat→Bool→Int→(List Bool)→Option (List (Int×qd)×List Int×List Int×List Bool×Int)
  | 0,_,_,_=>none
  | n+1,h,i129,c =>
    if i129<(b.has.length:Int) then
      (at_ c i129).bind fun i =>
      if i=true then
        (at_ a i129).bind fun j =>
        Tp h i129 c (Cn p_2 d e f a g b n) (!j)
      else
        Tp h i129 c (Cn p_2 d e f a g b n) false
    else
      if h=true then
        (app e [p_2]).bind fun k =>
        some ((Gd d p_2 (qd.mk b.stack c)),k,f,a,g)
      else
        some ((Gd d p_2 (qd.mk b.stack c)),e,f,a,g)
def ql  (l:ze) (h:Xc) (a:List (Int×qd)) (e:List Int) (b:List Int) (c:List Bool) (d:Int) (p_2:Int):Option (List (Int×qd)×List Int×List Int×List Bool×Int):=
  if d≠0 then
    some (a,e,b,c,d)
  else
    if p_2=(h.Code.length:Int) then
      (Pj d 3).bind fun i =>
      some (a,e,b,c,i)
    else
      if (zc a p_2).isSome=true then
        (zc a p_2).bind fun f =>
        (Ot f.stack b).bind fun j =>
        if j=true then
          Cn p_2 a e b c d f (f.has.length+1) false 0 f.has
        else
          (Pj d 8).bind fun k =>
          some (a,e,b,c,k)
      else
        (qt (qd.mk b c)).bind fun g =>
        yw p_2 e b c d (Gd a p_2 (qd.mk g.stack g.has))
def Ir (fu:Nat)  (c:ze) (d:List Int) (e:Int) (p_2:Int):Option (Xc×List Int×Int):=
  (c.m).bind fun f =>
  (at_ f.Ya p_2).bind fun a =>
  (cut a.Gc 0 a.Params).bind fun g =>
  (jk fu d e g).bind fun b =>
  some (a,b.1,b.2)
def Vr  (b:ze) (c:List Int) (d:Int):Option (Option Xc×List Int×Int):=
  (om c d).bind fun a =>
  if a.2.2≠0 then
    some (none,a.2.1,a.2.2)
  else
    (mr b a.1).bind fun e =>
    if e=true then
      (b.m).bind fun f =>
      (i64 (a.1 - 10)).bind fun i49 =>
      (at_ f.Ya i49).bind fun g =>
      some ((some g),a.2.1,a.2.2)
    else
      (Pj a.2.2 9).bind fun h =>
      some (none,a.2.1,h)
def vt (a:List Int) (i15:Int):Option (Bool×List Int×Int):=
  some (false,a,i15)
def Jr  (a:List Int) (b:Int):Option (Bool×List Int×Int):=
  if (0:Int)<(a.length:Int) then
    (Pj b 12).bind fun c =>
    vt a c
  else
    vt a b
def Xj (a:List (Int×qd)) (b:List Int) (c:List Bool) (i52:Int) (d:List Int):Option (Bool×List (Int×qd)×List Int×List Int×List Bool×Int):=
  some (true,a,b,d,c,i52)
def Aq (fu:Nat) (c:Xc) (d:List (Int×qd)) (e:List Int) (f:List Int) (g:List Bool) (i104:Int):Option (Bool×List (Int×qd)×List Int×List Int×List Bool×Int):=
  (jk fu f i104 [c.Result]).bind fun b =>
  (Jr b.1 b.2).bind fun a =>
  some (a.1,d,e,a.2.1,g,a.2.2)
def Bq (b:List (Int×qd)) (c:List Int) (d:List Int) (e:List Bool) (i127:Int):Option (Bool×List (Int×qd)×List Int×List Int×List Bool×Int):=
  (Jr d i127).bind fun a =>
  some (a.1,b,c,a.2.1,e,a.2.2)
def Cq (b:List (Int×qd)) (c:List Int) (d:List Bool) (a:Int×List Int×Int) (e:Bool):Option (Bool×List (Int×qd)×List Int×List Int×List Bool×Int):=
  if e=true then
    (Pj a.2.2 9).bind fun f =>
    Xj b c d f a.2.1
  else
    Xj b c d a.2.2 a.2.1
def Dq (b:List (Int×qd)) (c:List Int) (d:List Bool) (e:Option Xc×List Int×Int) (f:Xc) (i245:Int):Option (Bool×List (Int×qd)×List Int×List Int×List Bool×Int):=
  (hj e.2.1 i245 f.Result).bind fun a =>
  Xj b c d a.2 a.1
def Fq (fu:Nat) (a:Xc) (d:List (Int×qd)) (e:List Int) (f:List Int) (g:List Bool) (i258:Int):Option (Bool×List (Int×qd)×List Int×List Int×List Bool×Int):=
  (jk fu f i258 [a.Result]).bind fun b =>
  (hj b.1 b.2 a.je).bind fun c =>
  Xj d e g c.2 c.1
def xt (fu:Nat)  (h:ze) (g:Xc) (a:List (Int×qd)) (b:List Int) (d:List Int) (c:List Bool) (e:Int) (p_2:ud):Option (Bool×List (Int×qd)×List Int×List Int×List Bool×Int):=
  if p_2.Op=23 then
    (Ir fu h d e p_2.A).bind fun j =>
    (hj j.2.1 j.2.2 j.1.Result).bind fun n =>
    Xj a b c n.2 n.1
  else
    if p_2.Op=29 then
      (Ir fu h d e p_2.A).bind fun o =>
      (i64 (10+p_2.A)).bind fun i95 =>
      (hj o.2.1 o.2.2 i95).bind fun p =>
      Xj a b c p.2 p.1
    else
      if p_2.Op=24 then
        if g.Kind≠2 then
          (Pj e 8).bind fun u =>
          Aq fu g a b d c u
        else
          Aq fu g a b d c e
      else
        if p_2.Op=25 then
          if g.Kind=2 then
            (Pj e 8).bind fun v =>
            Bq a b d c v
          else
            Bq a b d c e
        else
          if p_2.Op=26 then
            (h.m).bind fun w =>
            (at_ w.sc p_2.A).bind fun x =>
            (jk fu d e [x.Ee]).bind fun q =>
            Xj a b c q.2 q.1
          else
            if p_2.Op=27 then
              (h.m).bind fun y =>
              (at_ y.sc p_2.A).bind fun z =>
              (hj d e z.Ee).bind fun r =>
              Xj a b c r.2 r.1
            else
              if p_2.Op=28 then
                (om d e).bind fun i =>
                if i.2.2=0 then
                  (Om i.1).bind fun B =>
                  Cq a b c i (!B)
                else
                  Cq a b c i false
              else
                if p_2.Op=30 then
                  (om d e).bind fun k =>
                  (Vr h k.2.1 k.2.2).bind fun f =>
                  if f.1.isSome=true then
                    (f.1).bind fun l =>
                    if k.1≠l.je then
                      (Pj f.2.2 9).bind fun C =>
                      Dq a b c f l C
                    else
                      Dq a b c f l f.2.2
                  else
                    Xj a b c f.2.2 f.2.1
                else
                  if p_2.Op=31 then
                    if g.Kind≠3 then
                      (Pj e 8).bind fun D =>
                      Fq fu g a b d c D
                    else
                      Fq fu g a b d c e
                  else
                    if p_2.Op=32 then
                      (Vr h d e).bind fun s =>
                      (hj s.2.1 s.2.2 2).bind fun t =>
                      Xj a b c t.2 t.1
                    else
                      Xj a b c e d
def ej  (i52:Int) (a:List Int) (b:List Int) (c:List Bool) (d:List (Int×qd)):Option (Bool×List (Int×qd)×List Int×List Int×List Bool×Int):=
  some (true,d,a,b,c,i52)
def Yq (p_2:ud) (b:Xc) (c:List (Int×qd)) (d:List Int) (e:List Int) (f:List Bool) (i99:Int):Option (Bool×List (Int×qd)×List Int×List Int×List Bool×Int):=
  (at_ b.Gc p_2.A).bind fun g =>
  (hj e i99 g).bind fun a =>
  ej a.2 d a.1 f c
def Kp (fu:Nat) (d:List (Int×qd)) (e:List Int) (f:List Bool) (a:Int×List Int×Int) (i227:Int):Option (Bool×List (Int×qd)×List Int×List Int×List Bool×Int):=
  (jk fu a.2.1 i227 [a.1]).bind fun b =>
  (hj b.1 b.2 2).bind fun c =>
  ej c.2 e c.1 f d
def Zq (fu:Nat) (b:List (Int×qd)) (c:List Int) (d:List Bool) (a:Int×List Int×Int) (e:Bool):Option (Bool×List (Int×qd)×List Int×List Int×List Bool×Int):=
  if e=true then
    (Pj a.2.2 9).bind fun f =>
    Kp fu b c d a f
  else
    Kp fu b c d a a.2.2
def Il (fu:Nat) (i:ze) (p_2:ud) (j:Xc) (d:List (Int×qd)) (e:List Int) (f:List Int) (g:List Bool) (h:Int) (n:Bool):Option (Bool×List (Int×qd)×List Int×List Int×List Bool×Int):=
  if n=true then
    (jk fu f h [2,2]).bind fun k =>
    (hj k.1 k.2 2).bind fun l =>
    ej l.2 e l.1 g d
  else
    if p_2.Op=21 then
      (ql i j d e f g h p_2.A).bind fun b =>
      some (false,b.1,b.2.1,b.2.2.1,b.2.2.2.1,b.2.2.2.2)
    else
      if p_2.Op=22 then
        (jk fu f h [2]).bind fun m =>
        (ql i j d e m.1 g m.2 p_2.A).bind fun c =>
        ej c.2.2.2.2 c.2.1 c.2.2.1 c.2.2.2.1 c.1
      else
        (xt fu i j d e f g h p_2).bind fun a =>
        some (a.1,a.2.1,a.2.2.1,a.2.2.2.1,a.2.2.2.2.1,a.2.2.2.2.2)
def An (fu:Nat) (f:ze) (p_2:ud) (g:Xc) (a:List (Int×qd)) (b:List Int) (c:List Int) (d:List Bool) (e:Int) (j:Bool):Option (Bool×List (Int×qd)×List Int×List Int×List Bool×Int):=
  if j=true then
    (jk fu c e [1,1]).bind fun h =>
    (hj h.1 h.2 2).bind fun i =>
    ej i.2 b i.1 d a
  else
    if p_2.Op=19 then
      Il fu f p_2 g a b c d e true
    else
      Il fu f p_2 g a b c d e (decide (p_2.Op=20))
def Qk (fu:Nat) (g:ze) (p_2:ud) (h:Xc) (a:List (Int×qd)) (b:List Int) (e:List Int) (c:List Bool) (f:Int) (i:Bool):Option (Bool×List (Int×qd)×List Int×List Int×List Bool×Int):=
  if i=true then
    (om e f).bind fun d =>
    if d.1≠1 then
      Zq fu a b c d (decide (d.1≠2))
    else
      Zq fu a b c d false
  else
    if (15:Int)≤p_2.Op then
      An fu g p_2 h a b e c f (decide (p_2.Op≤18))
    else
      An fu g p_2 h a b e c f false
def km (fu:Nat) (f:ze) (p_2:ud) (g:Xc) (a:List (Int×qd)) (b:List Int) (c:List Int) (d:List Bool) (e:Int) (j:Bool):Option (Bool×List (Int×qd)×List Int×List Int×List Bool×Int):=
  if j=true then
    (jk fu c e [1,1]).bind fun h =>
    (hj h.1 h.2 1).bind fun i =>
    ej i.2 b i.1 d a
  else
    if p_2.Op=13 then
      Qk fu f p_2 g a b c d e true
    else
      Qk fu f p_2 g a b c d e (decide (p_2.Op=14))
def mm (fu:Nat)  (g:ze) (f:Xc) (b:List (Int×qd)) (c:List Int) (d:List Int) (a:List Bool) (e:Int) (p_2:ud):Option (Bool×List (Int×qd)×List Int×List Int×List Bool×Int):=
  if p_2.Op=1 then
    (hj d e 1).bind fun h =>
    ej h.2 c h.1 a b
  else
    if p_2.Op=2 then
      (hj d e 2).bind fun i =>
      ej i.2 c i.1 a b
    else
      if p_2.Op=3 then
        (at_ a p_2.A).bind fun p =>
        if p=true then
          Yq p_2 f b c d a e
        else
          (Pj e 11).bind fun q =>
          Yq p_2 f b c d a q
      else
        if p_2.Op=4 then
          (at_ f.Gc p_2.A).bind fun r =>
          (jk fu d e [r]).bind fun j =>
          (at_ a p_2.A).bind fun s =>
          ej j.2 c j.1 (a.set p_2.A.toNat true) b
        else
          if p_2.Op=5 then
            (om d e).bind fun k =>
            ej k.2.2 c k.2.1 a b
          else
            if p_2.Op=6 then
              (jk fu d e [1]).bind fun l =>
              (hj l.1 l.2 1).bind fun m =>
              ej m.2 c m.1 a b
            else
              if p_2.Op=7 then
                (jk fu d e [2]).bind fun n =>
                (hj n.1 n.2 2).bind fun o =>
                ej o.2 c o.1 a b
              else
                if (8:Int)≤p_2.Op then
                  km fu g p_2 f b c d a e (decide (p_2.Op≤12))
                else
                  km fu g p_2 f b c d a e false
def Lp (p_2:Int) (b:Int) (c:Int→(List Bool)→(List Int)→(List Int)→(List (Int×qd))→Option hg) (a:Int) (d:List Bool) (e:List Int) (f:List Int) (g:List (Int×qd)):Option hg :=
  if a≠0 then
    some (hg.mk a p_2 b)
  else
    c a d e f g
def Nj (fu:Nat) (p_1:ze) (p_2:Int) (b:Xc):Nat→Int→(List Bool)→(List Int)→(List Int)→(List (Int×qd))→Option hg
  | 0,_,_,_,_,_=>none
  | n+1,i223,l,e,m,f =>
    if (0:Int)<(e.length:Int) then
      (at_ e 0).bind fun c =>
      (cut e 1 e.length).bind fun h =>
      (zc f c).bind fun i =>
      (tt i).bind fun g =>
      (at_ b.Code c).bind fun j =>
      (mm fu p_1 b f h g.stack g.has i223 j).bind fun a =>
      if a.1=true then
        (i64 (c+1)).bind fun k =>
        (ql p_1 b a.2.1 a.2.2.1 a.2.2.2.1 a.2.2.2.2.1 a.2.2.2.2.2 k).bind fun d =>
        Lp p_2 c (Nj fu p_1 p_2 b n) d.2.2.2.2 d.2.2.2.1 d.2.1 d.2.2.1 d.1
      else
        Lp p_2 c (Nj fu p_1 p_2 b n) a.2.2.2.2.2 a.2.2.2.2.1 a.2.2.1 a.2.2.2.1 a.2.1
    else
      some (hg.mk 0 0 0)
def ar (fu:Nat) (p_1:ze) (p_2:Int) (b:Xc):Nat→Int→(List Bool)→Option hg
  | 0,_,_=>none
  | n+1,i60,c =>
    if i60<b.Params then
      (at_ c i60).bind fun d =>
      (i64 (i60+1)).bind fun i100 =>
      ar fu p_1 p_2 b n i100 (c.set i60.toNat true)
    else
      (ql p_1 b ([]:List (Int×qd)) ([]:List Int) ([]:List Int) c 0 0).bind fun a =>
      Nj fu p_1 p_2 b fu a.2.2.2.2 a.2.2.2.1 a.2.1 a.2.2.1 a.1
def gu (fu:Nat)  (p_1:ze) (p_2:Int):Option hg :=
  (p_1.m).bind fun b =>
  (at_ b.Ya p_2).bind fun a =>
  (cl (a.Gc.length:Int)).bind fun c =>
  ar fu p_1 p_2 a ((a.Params - 0).toNat+1) 0 (List.replicate c (false:Bool))
def pn (a:Int) (b:List Int) (d:ud) (c:Int→(List Int)→Option (List Int)) (e:Bool):Option (List Int):=
  if e=true then
    (app b [d.A]).bind fun f =>
    (i64 (a+1)).bind fun g =>
    c g f
  else
    (i64 (a+1)).bind fun h =>
    c h b
def gm (i144:Int) (c:Xc) (e:Int→(List Int)→Option (List Int)):Nat→Int→(List Int)→Option (List Int)
  | 0,_,_=>none
  | n+1,d,b =>
    if d<(c.Code.length:Int) then
      (at_ c.Code d).bind fun a =>
      if a.Op=23 then
        pn d b a (gm i144 c e n) (!(b.contains a.A))
      else
        if a.Op=29 then
          pn d b a (gm i144 c e n) (!(b.contains a.A))
        else
          pn d b a (gm i144 c e n) false
    else
      (i64 (i144+1)).bind fun f =>
      e f b
def qn (p_1:ze):Nat→Int→(List Int)→Option (List Int)
  | 0,_,_=>none
  | n+1,i144,a =>
    if i144<(a.length:Int) then
      (p_1.m).bind fun c =>
      (at_ a i144).bind fun d =>
      (at_ c.Ya d).bind fun b =>
      gm i144 b (qn p_1 n) (b.Code.length+1) 0 a
    else
      some a
def Pt (fu:Nat)  (p_1:ze) (p_2:Int):Option (List Int):=
  qn p_1 fu 0 ([p_2]:List Int)
def yt  (p_1:ud) (p_2:Int) (a:Int):Option Bool :=
  if p_1.Op=p_2 then
    some (decide (p_1.A=a))
  else
    some false
def Bt  (p_1:Int) (p_2:Option ze) (a:Int) (b:Int):Option Bool :=
  (p_2).bind fun c =>
  (c.m).bind fun d =>
  (at_ d.Ya p_1).bind fun e =>
  (lx e.Code (fun f=>yt f a b)).bind fun g =>
  some g
def Oq (a:Int) (b:Int) (c:Int→Int→Option hg) (d:Bool):Option hg :=
  if d=true then
    (i64 (a+1)).bind fun e =>
    (i64 (b+1)).bind fun f =>
    c e f
  else
    (i64 (b+1)).bind fun g =>
    c a g
def rn (fu:Nat) (p_1:ze) (b:sb) (c:Int) (d:Int) (e:Int) (f:Int→Option hg):Nat→Int→Int→Option hg
  | 0,_,_=>none
  | n+1,g,a =>
    if a<(b.Ya.length:Int) then
      (at_ b.Ya a).bind fun h =>
      if h.Kind=4 then
        (Pt fu p_1 a).bind fun i =>
        (cq i (fun j=>Bt j (some p_1) e c)).bind fun k =>
        Oq g a (rn fu p_1 b c d e f n) k
      else
        Oq g a (rn fu p_1 b c d e f n) false
    else
      if (1:Int)<g then
        some (hg.mk 8 0 c)
      else
        (i64 (d+1)).bind fun l =>
        f l
def Ok (fu:Nat) (p_1:ze) (a:sb) (b:Int) (d:Int→Option hg):Nat→Int→Option hg
  | 0,_=>none
  | n+1,c =>
    if c<2 then
      (at_ [26,27] c).bind fun e =>
      rn fu p_1 a b c e (Ok fu p_1 a b d n) (a.Ya.length+1) 0 0
    else
      (i64 (b+1)).bind fun f =>
      d f
def Pk (fu:Nat) (p_1:ze) (a:sb):Nat→Int→Option hg
  | 0,_=>none
  | n+1,b =>
    if b<(a.sc.length:Int) then
      Ok fu p_1 a b (Pk fu p_1 a n) 3 0
    else
      some (hg.mk 0 0 0)
def Qt (fu:Nat)  (p_1:ze):Option hg :=
  (p_1.m).bind fun a =>
  Pk fu p_1 a (a.sc.length+1) 0
def Hq (fu:Nat) (p_1:sb):Nat→Int→Option hg
  | 0,_=>none
  | n+1,i30 =>
    if i30<(p_1.Ya.length:Int) then
      (gu fu (ze.mk (some p_1)) i30).bind fun a =>
      if a.xf≠0 then
        some a
      else
        (i64 (i30+1)).bind fun i46 =>
        Hq fu p_1 n i46
    else
      (Qt fu (ze.mk (some p_1))).bind fun b =>
      some b
def Ct (fu:Nat)  (p_1:sb):Option hg :=
  (eu (ze.mk (some p_1))).bind fun a =>
  if a.xf≠0 then
    some a
  else
    Hq fu p_1 (p_1.Ya.length+1) 0
end Go.Y
namespace Go.Y
open Go.Ab Go.jc
def mx  (p_1:Int) (p_2:Int):Option (List Int×Int×Int×Int):=
  (cl p_1).bind fun a =>
  some ((List.replicate a (0:Int)),0,p_1,p_2)
def Qm  (a:Int):Option Int :=
  some a
def Cr  (b:List Int) (a:Int) (c:Int) (d:Int) (p_2:Int):Option (List Int×Int×Int×Int):=
  (cl p_2).bind fun e =>
  (cut b 0 a).bind fun f =>
  some ((sq (List.replicate e (0:Int)) f),a,c,d)
def br (p_2:Int) (i14:Int) (i15:Int) (i16:Int) (a:List Int):Option (Bool×List Int×Int×Int×Int):=
  (at_ a i14).bind fun b =>
  (i64 (i14+1)).bind fun i56 =>
  some (true,(a.set i14.toNat p_2),i56,i15,i16)
def My (p_2:Int) (i22:Int) (i23:Int) (i24:Int) (a:List Int):Option (Bool×List Int×Int×Int×Int):=
  br p_2 i22 i23 i24 a
def Mv (a:List Int) (p_2:Int) (c:Int) (e:Int) (d:Int):Option (Bool×List Int×Int×Int×Int):=
  if c=(a.length:Int) then
    (i64 (2*(a.length:Int))).bind fun i29 =>
    (Cr a c e d (min i29 d)).bind fun b =>
    My p_2 b.2.1 b.2.2.1 b.2.2.2 b.1
  else
    br p_2 c e d a
def Jo  (c:List Int) (a:Int) (d:Int) (b:Int) (p_2:Int):Option (Bool×List Int×Int×Int×Int):=
  if a=b then
    some (false,c,a,d,b)
  else
    Mv c p_2 a d b
def Yy  (i20:Int) (i21:Int) (i22:Int) (a:List Int):Option (List Int×Int×Int×Int):=
  some (a,i20,i21,i22)
def rr (b:List Int) (c:Int) (d:Int) (i12:Int) (e:Bool):Option (List Int×Int×Int×Int):=
  if e=true then
    (quo (b.length:Int) 2).bind fun i27 =>
    (Cr b i12 c d (max i27 c)).bind fun a =>
    Yy a.2.1 a.2.2.1 a.2.2.2 a.1
  else
    some (b,i12,c,d)
def dq  (a:List Int) (d:Int) (b:Int) (c:Int) (p_2:Int):Option (List Int×Int×Int×Int):=
  (i64 (d - p_2)).bind fun i12 =>
  (quo (a.length:Int) 4).bind fun i15 =>
  if i12≤i15 then
    rr a b c i12 (decide (b<(a.length:Int)))
  else
    rr a b c i12 false
def Aj  (p_2:Int) (a:Int) (b:Int):Option Unit :=
  some ()
def Tk  (a:Int) (b:Int) (c:Int) (p_2:Int):Option (Int×Int×Int):=
  if a≠5 then
    (Aj 5 0 p_2).bind fun d =>
    some (5,b,p_2)
  else
    some (a,b,c)
def jl  (p_1:Bool):Option Int :=
  if p_1=true then
    some 1
  else
    some 0
def sr (p_1:Int) (p_2:Int) (a:Int) (b:Bool):Option Int :=
  if b=true then
    (jl (decide (p_1=11))).bind fun c =>
    some (Un (c*p_2))
  else
    if p_1=11 then
      (quo p_2 a).bind fun i16 =>
      some i16
    else
      (an p_2 a).bind fun i18 =>
      some i18
def tr (p_1:Int) (p_2:Int) (a:Int) (sf:Bool):Option Int :=
  if sf=true then
    if p_2=(-9223372036854775808) then
      sr p_1 p_2 a (decide (a=(-1)))
    else
      sr p_1 p_2 a false
  else
    if p_1=13 then
      (jl (decide (p_2=a))).bind fun b =>
      some b
    else
      if p_1=14 then
        (jl (decide (p_2≠a))).bind fun c =>
        some c
      else
        if p_1=15 then
          (jl (decide (p_2<a))).bind fun d =>
          some d
        else
          if p_1=16 then
            (jl (decide (p_2≤a))).bind fun e =>
            some e
          else
            if p_1=17 then
              (jl (decide (a<p_2))).bind fun f =>
              some f
            else
              if p_1=18 then
                (jl (decide (a≤p_2))).bind fun g =>
                some g
              else
                if p_1=19 then
                  some (MA p_2 a)
                else
                  some (TA p_2 a)
def uu  (p_1:Int) (p_2:Int) (a:Int):Option Int :=
  if p_1=8 then
    some (Un (p_2+a))
  else
    if p_1=9 then
      some (Un (p_2 - a))
    else
      if p_1=10 then
        some (Un (p_2*a))
      else
        if p_1=11 then
          tr p_1 p_2 a (decide (p_1=11))
        else
          tr p_1 p_2 a (decide (p_1=12))
def tn (p_1:sb):Nat→Int→(List Int)→Option (List Int)
  | 0,_,_=>none
  | n+1,i43,a =>
    if i43<(p_1.Ya.length:Int) then
      (at_ p_1.Ya i43).bind fun b =>
      if b.Kind=4 then
        (app a [i43]).bind fun c =>
        (i64 (i43+1)).bind fun i104 =>
        tn p_1 n i104 c
      else
        (i64 (i43+1)).bind fun i106 =>
        tn p_1 n i106 a
    else
      some a
def Up  (p_1:sb):Option (List Int):=
  tn p_1 (p_1.Ya.length+1) 0 []
end Go.Y
namespace Go.Y
open Go.Ab Go.jc
def nx  (p_1:Int):Option (List Int×Int×Int):=
  (cl p_1).bind fun a =>
  some ((List.replicate a (0:Int)),0,0)
def Ny (a:List Int) (b:Int):Option Bool :=
  some (decide (b=(a.length:Int)))
def Gz  (a:List Int) (c:Int) (b:Int):Option Bool :=
  Ny a b
def tz  (a:Int):Option Bool :=
  some (decide (a=0))
def iw (a:Int) (b:Int) (c:List Int):Option (List Int×Int×Int):=
  (i64 (b+1)).bind fun i36 =>
  some (c,a,i36)
def ox  (a:List Int) (b:Int) (c:Int) (p_2:Int):Option (List Int×Int×Int):=
  (i64 (b+c)).bind fun i15 =>
  (an i15 (a.length:Int)).bind fun i17 =>
  (at_ a i17).bind fun d =>
  iw b c (a.set i17.toNat p_2)
def Nv (a:List Int) (b:Int) (c:Int) (i25:Int):Option (Int×List Int×Int×Int):=
  (i64 (b - 1)).bind fun i31 =>
  some (c,a,i25,i31)
def Xw  (a:List Int) (b:Int) (c:Int):Option (Int×List Int×Int×Int):=
  (at_ a b).bind fun d =>
  (i64 (b+1)).bind fun i26 =>
  (an i26 (a.length:Int)).bind fun i28 =>
  Nv a c d i28
def Av (i39:Int) (a:Int→(List Int)→Option (List Int)) (b:List Int):Option (List Int):=
  (i64 (i39+1)).bind fun i105 =>
  a i105 b
def zp (a:List Int) (b:Int) (c:Int):Nat→Int→(List Int)→Option (List Int)
  | 0,_,_=>none
  | n+1,i39,d =>
    if i39<c then
      (i64 (b+i39)).bind fun i78 =>
      (an i78 (a.length:Int)).bind fun i80 =>
      (at_ a i80).bind fun e =>
      (app d [e]).bind fun f =>
      Av i39 (zp a b c n) f
    else
      some d
def zw  (b:List Int) (c:Int) (a:Int):Option (List Int):=
  zp b c a ((a - 0).toNat+1) 0 []
end Go.Y
namespace Go.Y
open Go.Ab Go.jc
structure Mc where
  l:List Int
  first:Int
  n:Int
deriving Inhabited
def iu (Jc:List Mc) (i:Int):Option Bool:=(at_ Jc i).bind fun b=>Gz b.l b.first b.n
def Rt (Jc:List Mc) (i:Int):Option Bool:=(at_ Jc i).bind fun b=>tz b.n
def vu (Jc:List Mc) (i v:Int):Option (List Mc):=
  (at_ Jc i).bind fun b=>(ox b.l b.first b.n v).bind fun r=>some (Jc.set i.toNat ⟨r.1,r.2.1,r.2.2⟩)
def ju (Jc:List Mc) (i:Int):Option (Int×List Mc):=
  (at_ Jc i).bind fun b=>(Xw b.l b.first b.n).bind fun r=>some (r.1,Jc.set i.toNat ⟨r.2.1,r.2.2.1,r.2.2.2⟩)
end Go.Y
namespace Go.Y
open Go.Ab Go.jc
structure pb where
  unit:Int
  Rf:Int
  base:Int
  deriving DecidableEq,Inhabited,Repr
instance:Ja pb where
  sz:=3
  pos:=by decide
  cs μ l x:=l=[.int .i64 x.unit,.int .i64 x.Rf,.int .i64 x.base]
  Hg h:=by obtain rfl:=h;rfl
  up le h:=by exact h
  wg h:=by obtain rfl:=h;rfl
def Zj  (c:Int) (d:Int) (e:Int) (f:List Int) (g:Int) (h:Int) (i:Int) (p_2:Int):Option (Int×Int×Int×List Int×Int×Int×Int):=
  (Jo f g h i p_2).bind fun a =>
  if a.1=true then
    some (c,d,e,a.2.1,a.2.2.1,a.2.2.2.1,a.2.2.2.2)
  else
    (Tk c d e 4).bind fun b =>
    some (b.1,b.2.1,b.2.2,a.2.1,a.2.2.1,a.2.2.2.1,a.2.2.2.2)
def Dj  (d:Int) (e:Int) (f:Int) (b:List Int) (c:Int) (g:Int) (h:Int):Option (Int×Int×Int×Int×List Int×Int×Int×Int):=
  (Qm c).bind fun i =>
  (i64 (i - 1)).bind fun i27 =>
  (at_ b i27).bind fun j =>
  (dq b c g h 1).bind fun a =>
  some (j,d,e,f,a.1,a.2.1,a.2.2.1,a.2.2.2)
def ht (a:List Mc) (b:Int) (i17:Int) (i18:Int):Option (Bool×List Mc×Int×Int×Int):=
  some (decide (i17≠1),a,i17,i18,b)
def Ey (p_2:ud) (a:List Mc) (b:Int):Option (Bool×List Mc×Int×Int×Int):=
  ht a b 2 p_2.A
def Fy (p_2:ud) (a:List Mc) (b:Int):Option (Bool×List Mc×Int×Int×Int):=
  ht a b 3 p_2.A
def Ap (p_2:ud) (a:List Mc) (b:Int) (c:Bool):Option (Bool×List Mc×Int×Int×Int):=
  if c=true then
    Fy p_2 a b
  else
    ht a b 1 0
def Pq (p_2:ud) (a:List Mc) (b:Int) (nd:Bool):Option (Bool×List Mc×Int×Int×Int):=
  if nd=true then
    Ey p_2 a b
  else
    if p_2.Op=27 then
      (Rt a p_2.A).bind fun c =>
      Ap p_2 a b c
    else
      Ap p_2 a b false
def St  (a:List Mc) (d:Int) (e:Int) (b:Int) (p_2:ud):Option (Bool×List Mc×Int×Int×Int):=
  if p_2.Op=26 then
    (iu a p_2.A).bind fun c =>
    Pq p_2 a b c
  else
    Pq p_2 a b false
def Ov (d:sb) (e:List Mc) (f:Int) (g:Int) (h:Int) (b:List pb) (i37:Int):Option (List Mc×Int×Int×Int×List pb):=
  (at_ b i37).bind fun c =>
  (at_ d.Ya c.unit).bind fun i =>
  (at_ i.Code c.Rf).bind fun j =>
  (St e f g h j).bind fun a =>
  some (a.2.1,a.2.2.1,a.2.2.2.1,a.2.2.2.2,b)
def kl  (f:sb) (c:List Mc) (b:Int) (d:Int) (e:Int) (a:List pb):Option (List Mc×Int×Int×Int×List pb):=
  if b≤3 then
    (i64 ((a.length:Int) - 1)).bind fun i39 =>
    (at_ a i39).bind fun g =>
    Ov f c b d e a i39
  else
    some (c,b,d,e,a)
def cr (b:List pb) (i71:Int):Nat→Int→Int→Int→Int→Int→Int→Int→(List Int)→Option (Int×Int×Int×List pb×List Int×Int×Int×Int)
  | 0,_,_,_,_,_,_,_,_=>none
  | n+1,i81,i82,i83,i84,i85,i86,i87,c =>
    if i81<i71 then
      (Zj i82 i83 i84 c i85 i86 i87 0).bind fun a =>
      (i64 (i81+1)).bind fun i109 =>
      cr b i71 n i109 a.1 a.2.1 a.2.2.1 a.2.2.2.2.1 a.2.2.2.2.2.1 a.2.2.2.2.2.2 a.2.2.2.1
    else
      some (i82,i83,i84,b,c,i85,i86,i87)
def Pv (p_2:Int) (c:Int) (d:Int) (e:Int) (a:List pb) (f:List Int) (g:Int) (h:Int) (i:Int) (j:Xc) (i53:Int):Option (Int×Int×Int×List pb×List Int×Int×Int×Int):=
  if (a.length:Int)=40 then
    (Tk c d e 4).bind fun b =>
    some (b.1,b.2.1,b.2.2,a,f,g,h,i)
  else
    (app a [(pb.mk p_2 0 i53)]).bind fun k =>
    (i64 ((j.Gc.length:Int) - j.Params)).bind fun i71 =>
    cr k i71 ((i71 - 0).toNat+1) 0 c d e g h i f
def Yw  (c:sb) (d:Int) (e:Int) (f:Int) (g:List pb) (h:List Int) (a:Int) (i:Int) (j:Int) (p_2:Int):Option (Int×Int×Int×List pb×List Int×Int×Int×Int):=
  (at_ c.Ya p_2).bind fun b =>
  (Qm a).bind fun k =>
  (i64 (k - b.Params)).bind fun i57 =>
  Pv p_2 d e f g h a i j b i57
def Bv (c:Int) (b:Int×Int×Int×Int×List Int×Int×Int×Int) (d:List pb) (i111:Int) (i112:Int) (i113:Int) (e:List Int):Option (Int×Int×Int×Int×List pb×List Int×Int×Int×Int):=
  (Zj b.2.1 b.2.2.1 b.2.2.2.1 e i111 i112 i113 b.1).bind fun a =>
  some (a.1,a.2.1,a.2.2.1,c,d,a.2.2.2.1,a.2.2.2.2.1,a.2.2.2.2.2.1,a.2.2.2.2.2.2)
def Cv (c:Int) (a:Int×Int×Int×Int×List Int×Int×Int×Int) (i61:Int) (d:List pb):Option (Int×Int×Int×Int×List pb×List Int×Int×Int×Int):=
  (Qm a.2.2.2.2.2.1).bind fun e =>
  (i64 (e - i61)).bind fun i121 =>
  (dq a.2.2.2.2.1 a.2.2.2.2.2.1 a.2.2.2.2.2.2.1 a.2.2.2.2.2.2.2 i121).bind fun b =>
  Bv c a d b.2.1 b.2.2.1 b.2.2.2 b.1
def Dv (b:Int) (a:List pb) (c:Int×Int×Int×Int×List Int×Int×Int×Int) (i59:Int) (i60:Int) (i61:Int):Option (Int×Int×Int×Int×List pb×List Int×Int×Int×Int):=
  (i64 ((a.length:Int) - 1)).bind fun i99 =>
  (cut a 0 i99).bind fun d =>
  Cv b c i61 d
def Vp  (l:sb) (c:Int) (d:Int) (e:Int) (j:Int) (b:List pb) (f:List Int) (g:Int) (h:Int) (i:Int) (p_2:ud):Option (Int×Int×Int×Int×List pb×List Int×Int×Int×Int):=
  if p_2.Op=23 then
    (Yw l c d e b f g h i p_2.A).bind fun a =>
    some (a.1,a.2.1,a.2.2.1,j,a.2.2.2.1,a.2.2.2.2.1,a.2.2.2.2.2.1,a.2.2.2.2.2.2.1,a.2.2.2.2.2.2.2)
  else
    if p_2.Op=24 then
      (Dj c d e f g h i).bind fun m =>
      (i64 ((b.length:Int) - 1)).bind fun i62 =>
      (at_ b i62).bind fun k =>
      Dv j b m k.unit k.Rf k.base
    else
      if p_2.Op=25 then
        none
      else
        if p_2.Op=29 then
          none
        else
          if p_2.Op=30 then
            none
          else
            if p_2.Op=31 then
              (Dj c d e f g h i).bind fun n =>
              none
            else
              if p_2.Op=32 then
                none
              else
                some (c,d,e,j,b,f,g,h,i)
end Go.Y
namespace Go.Y
open Go.Ab Go.jc
def gi (b:sb) (i122:Int) (i123:Int) (i124:Int) (c:List Mc) (d:List Int) (i132:Int) (e:List pb) (i137:Int) (i138:Int) (i139:Int) (f:List Int):Option (Bool×List Mc×Int×Int×Int×List Int×Int×List pb×List Int×Int×Int×Int):=
  (kl b c i122 i123 i124 e).bind fun a =>
  some (true,a.1,a.2.1,a.2.2.1,a.2.2.2.1,d,i132,a.2.2.2.2,f,i137,i138,i139)
def Qv (c:sb) (d:List Int) (e:Int) (a:List Mc×Int×Int×Int×List pb) (i61:Int) (b:pb) (i119:Int) (i159:Int) (i160:Int) (i161:Int) (i162:Int) (i163:Int) (i164:Int) (f:List Int):Option (Bool×List Mc×Int×Int×Int×List Int×Int×List pb×List Int×Int×Int×Int):=
  gi c i159 i160 i161 a.1 d e (a.2.2.2.2.set i61.toNat (pb.mk b.unit i119 b.base)) i162 i163 i164 f
def Rv (d:sb) (e:List Int) (f:Int) (b:List Mc×Int×Int×Int×List pb) (i61:Int) (c:pb) (i119:Int) (a:Int×Int×Int×Int×List Int×Int×Int×Int) (g:List Int):Option (Bool×List Mc×Int×Int×Int×List Int×Int×List pb×List Int×Int×Int×Int):=
  gi d a.2.1 a.2.2.1 a.2.2.2.1 b.1 e f (b.2.2.2.2.set i61.toNat (pb.mk c.unit i119 c.base)) a.2.2.2.2.2.1 a.2.2.2.2.2.2.1 a.2.2.2.2.2.2.2 g
def Mp (f:sb) (g:List Int) (h:Int) (c:List Mc×Int×Int×Int×List pb) (i61:Int) (d:pb) (i:ud) (i119:Int) (j:Int×Int×Int×Int×List Int×Int×Int×Int) (a:Int×Int×Int×Int×List Int×Int×Int×Int) (k:Bool):Option (Bool×List Mc×Int×Int×Int×List Int×Int×List pb×List Int×Int×Int×Int):=
  if k=true then
    (Tk a.2.1 a.2.2.1 a.2.2.2.1 1).bind fun e =>
    gi f e.1 e.2.1 e.2.2 c.1 g h (c.2.2.2.2.set i61.toNat (pb.mk d.unit i119 d.base)) a.2.2.2.2.2.1 a.2.2.2.2.2.2.1 a.2.2.2.2.2.2.2 a.2.2.2.2.1
  else
    (uu i.Op a.1 j.1).bind fun l =>
    (Zj a.2.1 a.2.2.1 a.2.2.2.1 a.2.2.2.2.1 a.2.2.2.2.2.1 a.2.2.2.2.2.2.1 a.2.2.2.2.2.2.2 l).bind fun b =>
    gi f b.1 b.2.1 b.2.2.1 c.1 g h (c.2.2.2.2.set i61.toNat (pb.mk d.unit i119 d.base)) b.2.2.2.2.1 b.2.2.2.2.2.1 b.2.2.2.2.2.2 b.2.2.2.1
def Np (f:sb) (g:List Int) (h:Int) (l:List Int) (m:Int) (n:Int) (o:Int) (a:List Mc×Int×Int×Int×List pb) (i61:Int) (b:pb) (c:ud) (i119:Int) (u:Bool):Option (Bool×List Mc×Int×Int×Int×List Int×Int×List pb×List Int×Int×Int×Int):=
  if u=true then
    (Dj a.2.1 a.2.2.1 a.2.2.2.1 l m n o).bind fun e =>
    (Dj e.2.1 e.2.2.1 e.2.2.2.1 e.2.2.2.2.1 e.2.2.2.2.2.1 e.2.2.2.2.2.2.1 e.2.2.2.2.2.2.2).bind fun q =>
    if c.Op=11 then
      Mp f g h a i61 b c i119 e q (decide (e.1=0))
    else
      if c.Op=12 then
        Mp f g h a i61 b c i119 e q (decide (e.1=0))
      else
        Mp f g h a i61 b c i119 e q false
  else
    if c.Op=21 then
      (at_ (a.2.2.2.2.set i61.toNat (pb.mk b.unit i119 b.base)) i61).bind fun s =>
      gi f a.2.1 a.2.2.1 a.2.2.2.1 a.1 g h ((a.2.2.2.2.set i61.toNat (pb.mk b.unit i119 b.base)).set i61.toNat (pb.mk s.unit c.A s.base)) m n o l
    else
      if c.Op=22 then
        (Dj a.2.1 a.2.2.1 a.2.2.2.1 l m n o).bind fun d =>
        if d.1=0 then
          (at_ (a.2.2.2.2.set i61.toNat (pb.mk b.unit i119 b.base)) i61).bind fun t =>
          gi f d.2.1 d.2.2.1 d.2.2.2.1 a.1 g h ((a.2.2.2.2.set i61.toNat (pb.mk b.unit i119 b.base)).set i61.toNat (pb.mk t.unit c.A t.base)) d.2.2.2.2.2.1 d.2.2.2.2.2.2.1 d.2.2.2.2.2.2.2 d.2.2.2.2.1
        else
          gi f d.2.1 d.2.2.1 d.2.2.2.1 a.1 g h (a.2.2.2.2.set i61.toNat (pb.mk b.unit i119 b.base)) d.2.2.2.2.2.1 d.2.2.2.2.2.2.1 d.2.2.2.2.2.2.2 d.2.2.2.2.1
      else
        if c.Op=26 then
          (Dj a.2.1 a.2.2.1 a.2.2.2.1 l m n o).bind fun i =>
          (vu a.1 c.A i.1).bind fun v =>
          (Aj 2 c.A i.1).bind fun x =>
          gi f i.2.1 i.2.2.1 i.2.2.2.1 v g h (a.2.2.2.2.set i61.toNat (pb.mk b.unit i119 b.base)) i.2.2.2.2.2.1 i.2.2.2.2.2.2.1 i.2.2.2.2.2.2.2 i.2.2.2.2.1
        else
          if c.Op=27 then
            (ju a.1 c.A).bind fun r =>
            (Aj 3 c.A r.1).bind fun y =>
            (Zj a.2.1 a.2.2.1 a.2.2.2.1 l m n o r.1).bind fun p =>
            gi f p.1 p.2.1 p.2.2.1 r.2 g h (a.2.2.2.2.set i61.toNat (pb.mk b.unit i119 b.base)) p.2.2.2.2.1 p.2.2.2.2.2.1 p.2.2.2.2.2.2 p.2.2.2.1
          else
            if c.Op=28 then
              (Dj a.2.1 a.2.2.1 a.2.2.2.1 l m n o).bind fun j =>
              (app g [j.1]).bind fun w =>
              (Aj 1 0 j.1).bind fun z =>
              gi f j.2.1 j.2.2.1 j.2.2.2.1 a.1 w h (a.2.2.2.2.set i61.toNat (pb.mk b.unit i119 b.base)) j.2.2.2.2.2.1 j.2.2.2.2.2.2.1 j.2.2.2.2.2.2.2 j.2.2.2.2.1
            else
              (Vp f a.2.1 a.2.2.1 a.2.2.2.1 h (a.2.2.2.2.set i61.toNat (pb.mk b.unit i119 b.base)) l m n o c).bind fun k =>
              gi f k.1 k.2.1 k.2.2.1 a.1 g k.2.2.2.1 k.2.2.2.2.1 k.2.2.2.2.2.2.1 k.2.2.2.2.2.2.2.1 k.2.2.2.2.2.2.2.2 k.2.2.2.2.2.1
def dr (d:sb) (f:List Int) (g:Int) (e:List Int) (h:Int) (i:Int) (j:Int) (a:List Mc×Int×Int×Int×List pb) (i61:Int):Option (Bool×List Mc×Int×Int×Int×List Int×Int×List pb×List Int×Int×Int×Int):=
  (at_ a.2.2.2.2 i61).bind fun b =>
  (at_ d.Ya b.unit).bind fun t =>
  (at_ t.Code b.Rf).bind fun c =>
  (i64 (b.Rf+1)).bind fun i119 =>
  if c.Op=1 then
    (Zj a.2.1 a.2.2.1 a.2.2.2.1 e h i j c.N).bind fun m =>
    gi d m.1 m.2.1 m.2.2.1 a.1 f g (a.2.2.2.2.set i61.toNat (pb.mk b.unit i119 b.base)) m.2.2.2.2.1 m.2.2.2.2.2.1 m.2.2.2.2.2.2 m.2.2.2.1
  else
    if c.Op=2 then
      (Zj a.2.1 a.2.2.1 a.2.2.2.1 e h i j c.A).bind fun n =>
      gi d n.1 n.2.1 n.2.2.1 a.1 f g (a.2.2.2.2.set i61.toNat (pb.mk b.unit i119 b.base)) n.2.2.2.2.1 n.2.2.2.2.2.1 n.2.2.2.2.2.2 n.2.2.2.1
    else
      if c.Op=3 then
        (i64 (b.base+c.A)).bind fun i169 =>
        (at_ e i169).bind fun u =>
        (Zj a.2.1 a.2.2.1 a.2.2.2.1 e h i j u).bind fun o =>
        Qv d f g a i61 b i119 o.1 o.2.1 o.2.2.1 o.2.2.2.2.1 o.2.2.2.2.2.1 o.2.2.2.2.2.2 o.2.2.2.1
      else
        if c.Op=4 then
          (Dj a.2.1 a.2.2.1 a.2.2.2.1 e h i j).bind fun s =>
          (i64 (b.base+c.A)).bind fun i205 =>
          (at_ s.2.2.2.2.1 i205).bind fun v =>
          Rv d f g a i61 b i119 s (s.2.2.2.2.1.set i205.toNat s.1)
        else
          if c.Op=5 then
            (Dj a.2.1 a.2.2.1 a.2.2.2.1 e h i j).bind fun p =>
            gi d p.2.1 p.2.2.1 p.2.2.2.1 a.1 f g (a.2.2.2.2.set i61.toNat (pb.mk b.unit i119 b.base)) p.2.2.2.2.2.1 p.2.2.2.2.2.2.1 p.2.2.2.2.2.2.2 p.2.2.2.2.1
          else
            if c.Op=6 then
              (Dj a.2.1 a.2.2.1 a.2.2.2.1 e h i j).bind fun k =>
              (Zj k.2.1 k.2.2.1 k.2.2.2.1 k.2.2.2.2.1 k.2.2.2.2.2.1 k.2.2.2.2.2.2.1 k.2.2.2.2.2.2.2 (Un (0 - k.1))).bind fun q =>
              gi d q.1 q.2.1 q.2.2.1 a.1 f g (a.2.2.2.2.set i61.toNat (pb.mk b.unit i119 b.base)) q.2.2.2.2.1 q.2.2.2.2.2.1 q.2.2.2.2.2.2 q.2.2.2.1
            else
              if c.Op=7 then
                (Dj a.2.1 a.2.2.1 a.2.2.2.1 e h i j).bind fun l =>
                (Zj l.2.1 l.2.2.1 l.2.2.2.1 l.2.2.2.2.1 l.2.2.2.2.2.1 l.2.2.2.2.2.2.1 l.2.2.2.2.2.2.2 (Un (1 - l.1))).bind fun r =>
                gi d r.1 r.2.1 r.2.2.1 a.1 f g (a.2.2.2.2.set i61.toNat (pb.mk b.unit i119 b.base)) r.2.2.2.2.1 r.2.2.2.2.2.1 r.2.2.2.2.2.2 r.2.2.2.1
              else
                if (8:Int)≤c.Op then
                  Np d f g e h i j a i61 b c i119 (decide (c.Op≤20))
                else
                  Np d f g e h i j a i61 b c i119 false
def Ko  (b:sb) (i:List Mc) (j:Int) (k:Int) (l:Int) (c:List Int) (d:Int) (m:List pb) (e:List Int) (f:Int) (g:Int) (h:Int):Option (Bool×List Mc×Int×Int×Int×List Int×Int×List pb×List Int×Int×Int×Int):=
  (kl b i j k l m).bind fun a =>
  if a.2.1≠1 then
    some (false,a.1,a.2.1,a.2.2.1,a.2.2.2.1,c,d,a.2.2.2.2,e,f,g,h)
  else
    (i64 ((a.2.2.2.2.length:Int) - 1)).bind fun i63 =>
    (at_ a.2.2.2.2 i63).bind fun n =>
    dr b c d e f g h a i63
end Go.Y
namespace Go.Y
open Go.Ab Go.jc
def Qq (i74:Int) (i75:Int) (i76:Int) (i77:Int) (b:List Int) (c:Int→Int→Int→Int→(List Int)→Option (Int×List pb×List Int×Int×Int×Int)) (i102:Int):Option (Int×List pb×List Int×Int×Int×Int):=
  (Jo b i75 i76 i77 i102).bind fun a =>
  (i64 (i74+1)).bind fun i119 =>
  c i119 a.2.2.1 a.2.2.2.1 a.2.2.2.2 a.2.1
def vn (p_2:Int) (a:List Int) (b:Xc):Nat→Int→Int→Int→Int→(List Int)→Option (Int×List pb×List Int×Int×Int×Int)
  | 0,_,_,_,_,_=>none
  | n+1,i74,i75,i76,i77,c =>
    if i74<(b.Gc.length:Int) then
      if i74<(a.length:Int) then
        (at_ a i74).bind fun d =>
        Qq i74 i75 i76 i77 c (vn p_2 a b n) d
      else
        Qq i74 i75 i76 i77 c (vn p_2 a b n) 0
    else
      some (0,([(pb.mk p_2 0 0)]:List pb),c,i75,i76,i77)
def Dr  (c:sb) (p_2:Int) (d:List Int):Option (Int×List pb×List Int×Int×Int×Int):=
  (mx 8 400).bind fun a =>
  (at_ c.Ya p_2).bind fun b =>
  vn p_2 d b (b.Gc.length+1) 0 a.2.1 a.2.2.1 a.2.2.2 a.1
def Tt  (a:List Int) (b:Int) (e:Int) (f:Int):Option (List Int):=
  (cut a 0 b).bind fun c =>
  (app ([]:List Int) c).bind fun d =>
  some d
def ku  (g:Int) (h:Int) (i:Int) (c:List Int) (b:Int) (d:Int) (e:Int) (p_2:Int):Option (List Int×Int×Int×Int×List Int×Int×Int×Int):=
  (Tt c b d e).bind fun f =>
  (Qm b).bind fun j =>
  (i64 (j - p_2)).bind fun i36 =>
  (cut f i36 f.length).bind fun k =>
  (dq c b d e p_2).bind fun a =>
  some (k,g,h,i,a.1,a.2.1,a.2.2.1,a.2.2.2)
end Go.Y
namespace Go.Y
open Go.Ab Go.jc
structure se where
  state:Int
  up:Option Nat
  fr:List pb
  l:List Int
  live:Int
  Ig:Int
  fg:Int
structure xc where
  cs:List se
  now:Nat
def xc.length (p:xc):Nat:=p.cs.length
def xc.put (p:xc) (c:se):xc:=⟨p.cs.set p.now c,p.now⟩
def Kr (m:sb) (p:xc) (s bx t:Int) (Sb:List Mc):Option (xc×Int×Int×Int×List Mc):=
  (p.cs[p.now]?).bind fun c =>
  (kl m Sb s bx t c.fr).bind fun r =>
  some (p.put { c with fr:=r.2.2.2.2 },r.2.1,r.2.2.1,r.2.2.2.1,r.1)
def Lo (p:xc) (s bx t v:Int):Option (xc×Int×Int×Int):=
  (p.cs[p.now]?).bind fun c =>
  (Zj s bx t c.l c.live c.Ig c.fg v).bind fun r =>
  some (p.put { c with l:=r.2.2.2.1,live:=r.2.2.2.2.1,Ig:=r.2.2.2.2.2.1,fg:=r.2.2.2.2.2.2 },r.1,r.2.1,r.2.2.1)
def fq (p:xc) (s bx t:Int):Option (Int×xc×Int×Int×Int):=
  (p.cs[p.now]?).bind fun c =>
  (Dj s bx t c.l c.live c.Ig c.fg).bind fun r =>
  some (r.1,p.put { c with l:=r.2.2.2.2.1,live:=r.2.2.2.2.2.1,Ig:=r.2.2.2.2.2.2.1,fg:=r.2.2.2.2.2.2.2 },r.2.1,r.2.2.1,r.2.2.2.1)
def Zw (p:xc) (s bx t n:Int):Option (List Int×xc×Int×Int×Int):=
  (p.cs[p.now]?).bind fun c =>
  (ku s bx t c.l c.live c.Ig c.fg n).bind fun r =>
  some (r.1,p.put { c with l:=r.2.2.2.2.1,live:=r.2.2.2.2.2.1,Ig:=r.2.2.2.2.2.2.1,fg:=r.2.2.2.2.2.2.2 },r.2.1,r.2.2.1,r.2.2.2.1)
def uz (m:sb) (p:xc) (s bx t:Int) (x:ud):Option (xc×Int×Int×Int):=
  (at_ m.Ya x.A).bind fun u =>
  (Zw p s bx t u.Params).bind fun a =>
  if (30:Int)<a.2.1.length then (Tk a.2.2.1 a.2.2.2.1 a.2.2.2.2 5).bind fun q=>some (a.2.1,q) else
  (Dr m x.A a.1).bind fun b =>
  (Aj 6 0 x.A).bind fun _ =>
  (i64 (((a.2.1.cs++[se.mk b.1 none b.2.1 b.2.2.1 b.2.2.2.1 b.2.2.2.2.1 b.2.2.2.2.2]).length:Int) - 1)).bind fun n =>
  Lo ⟨a.2.1.cs++[se.mk b.1 none b.2.1 b.2.2.1 b.2.2.2.1 b.2.2.2.2.1 b.2.2.2.2.2],a.2.1.now⟩ a.2.2.1 a.2.2.2.1 a.2.2.2.2 n
def Dt (p:xc) (s bx t:Int) (j:Nat) (v:Int):Option (xc×Int×Int×Int):=
  (p.cs[j]?).bind fun d =>
  if d.state=3 then (Tk s bx t 2).bind fun q=>some (p,q)
  else if d.state=2 then (Tk s bx t 3).bind fun q=>some (p,q)
  else if d.state=0 then some (⟨p.cs.set j { d with state:=2,up:=some p.now },j⟩,s,bx,t)
  else Lo ⟨p.cs.set j { d with state:=2,up:=some p.now },j⟩ s bx t v
def Lr (p:xc) (s bx t st v:Int):Option (xc×Int×Int×Int):=
  (p.cs[p.now]?).bind fun c=>c.up.bind fun j =>
  Lo ⟨p.cs.set p.now { c with state:=st,up:=none },j⟩ s bx t v
def px (p:xc) (s bx t:Int):Option (xc×Int×Int×Int):=
  (p.cs[p.now]?).bind fun c =>
  if c.up=none then (Aj 4 0 0).bind fun _=>some (p.put { c with state:=3 },4,bx,t)
  else Lr p s bx t 3 0
def Eh (m:sb) (p:xc) (s bx t:Int) (x:ud):Option (xc×Int×Int×Int):=
  if x.Op=25 then px p s bx t
  else if x.Op=29 then uz m p s bx t x
  else if x.Op=30 then (fq p s bx t).bind fun a=>(fq a.2.1 a.2.2.1 a.2.2.2.1 a.2.2.2.2).bind fun b =>
    if b.1<0 then none else Dt b.2.1 b.2.2.1 b.2.2.2.1 b.2.2.2.2 b.1.toNat a.1
  else if x.Op=31 then (fq p s bx t).bind fun a=>Lr a.2.1 a.2.2.1 a.2.2.2.1 a.2.2.2.2 1 a.1
  else if x.Op=32 then (fq p s bx t).bind fun a=>if a.1<0 then none else (a.2.1.cs[a.1.toNat]?).bind fun d =>
    (jl (decide (d.state≠3))).bind fun b=>Lo a.2.1 a.2.2.1 a.2.2.2.1 a.2.2.2.2 b
  else none
abbrev Fx:=Option (Bool×xc×Int×Int×Int×List Int×List Mc)
def Et (m:sb) (p:xc) (c:se) (out:List Int) (r:List Mc×Int×Int×Int×List pb) (i:Int):Fx :=
  (at_ r.2.2.2.2 i).bind fun x =>
  (at_ m.Ya x.unit).bind fun u =>
  (at_ u.Code x.Rf).bind fun y =>
  (i64 (x.Rf+1)).bind fun k =>
  (Eh m (p.put { c with fr:=r.2.2.2.2.set i.toNat (pb.mk x.unit k x.base) }) r.2.1 r.2.2.1 r.2.2.2.1 y).bind fun q =>
  (Kr m q.1 q.2.1 q.2.2.1 q.2.2.2 r.1).bind fun z =>
  some (true,z.1,z.2.1,z.2.2.1,z.2.2.2.1,out,z.2.2.2.2)
def qm (m:sb) (p:xc) (s bx t:Int) (out:List Int) (Sb:List Mc):Fx :=
  (p.cs[p.now]?).bind fun c =>
  (kl m Sb s bx t c.fr).bind fun r =>
  if r.2.1≠1 then none else
  (i64 ((r.2.2.2.2.length:Int) - 1)).bind fun i =>
  (at_ r.2.2.2.2 i).bind fun x =>
  Et m p c out r i
def Ut (m:sb) (p:xc) (s bx t:Int) (out:List Int) (Sb:List Mc):Fx :=
  (p.cs[p.now]?).bind fun c =>
  (Ko m Sb s bx t out c.state c.fr c.l c.live c.Ig c.fg).bind fun r =>
  some (r.1,p.put { c with state:=r.2.2.2.2.2.2.1,fr:=r.2.2.2.2.2.2.2.1,l:=r.2.2.2.2.2.2.2.2.1,live:=r.2.2.2.2.2.2.2.2.2.1,Ig:=r.2.2.2.2.2.2.2.2.2.2.1,fg:=r.2.2.2.2.2.2.2.2.2.2.2 },r.2.2.1,r.2.2.2.1,r.2.2.2.2.1,r.2.2.2.2.2.1,r.2.1)
def Mo (m:sb) (p:xc) (s bx t:Int) (out:List Int) (Sb:List Mc):Fx :=
  match qm m p s bx t out Sb with
  | some r=>some r
  | none=>Ut m p s bx t out Sb
def wu (m:sb) (u:Int):Option (xc×Int×Int×Int×List Int):=
  (Dr m u ([]:List Int)).bind fun r =>
  some (⟨[se.mk 2 none r.2.1 r.2.2.1 r.2.2.2.1 r.2.2.2.2.1 r.2.2.2.2.2],0⟩,1,0,0,([]:List Int))
end Go.Y
namespace Go.Y
open Go.Ab Go.jc
structure Dk where
  Hk:xc
  s:Int
  bx:Int
  t:Int
  out:List Int
structure ed where
  m:sb
  tasks:List Dk
  boxes:List Mc
def ed.length (x:ed):Nat:=x.tasks.length
def Yp (x:ed) (i:Int):Option ed :=
  (at_ x.tasks i).bind fun k =>
  (Kr x.m k.Hk k.s k.bx k.t x.boxes).bind fun r =>
  some { x with tasks:=x.tasks.set i.toNat { k with Hk:=r.1,s:=r.2.1,bx:=r.2.2.1,t:=r.2.2.2.1 },boxes:=r.2.2.2.2 }
def lu (x:ed) (i:Int):Option (Bool×ed):=
  (at_ x.tasks i).bind fun k =>
  (Mo x.m k.Hk k.s k.bx k.t k.out x.boxes).bind fun r =>
  some (r.1,{ x with tasks:=x.tasks.set i.toNat ⟨r.2.1,r.2.2.1,r.2.2.2.1,r.2.2.2.2.1,r.2.2.2.2.2.1⟩,boxes:=r.2.2.2.2.2.2 })
def Aw (x:ed) (i:Int):Option (List Int):=(at_ x.boxes i).bind fun b=>zw b.l b.first b.n
end Go.Y
namespace Go.Y
open Go.Ab Go.jc
def Bp:List np→List Mc→Option (List Mc)
  | [],acc=>some acc
  | b::Jc,acc=>(nx b.cg).bind fun r=>if 4294967295<acc.length then none else Bp Jc (acc++[⟨r.1,r.2.1,r.2.2⟩])
def Cp (m:sb):List Int→List Dk→Option (List Dk)
  | [],acc=>some acc
  | u::us,acc=>(wu m u).bind fun r=>if 4294967295<acc.length then none else Cp m us (acc++[⟨r.1,r.2.1,r.2.2.1,r.2.2.2.1,r.2.2.2.2⟩])
def Vt (m:sb):Option (ed×Int):=
  (Bp m.sc []).bind fun bx=>(Up m).bind fun us=>(Cp m us []).bind fun ts=>some (⟨m,ts,bx⟩,0)
end Go.Y
namespace Go.Y
open Go.Ab Go.jc
structure xi where
  Task:Int
  Uk:Int
  deriving DecidableEq,Inhabited,Repr
instance:Ja xi where
  sz:=2
  pos:=by decide
  cs μ l x:=l=[.int .i64 x.Task,.int .i64 x.Uk]
  Hg h:=by obtain rfl:=h;rfl
  up le h:=by exact h
  wg h:=by obtain rfl:=h;rfl
structure tl where
  xf:Int
  Steps:Int
  deriving DecidableEq,Inhabited,Repr
structure jj where
  State:Int
  Vj:Int
  Nx:Int
  Out:List Int
  deriving DecidableEq,Inhabited,Repr
instance:Ja jj where
  sz:=4
  pos:=by decide
  cs μ l x:=∃ pa c1,l=[.int .i64 x.State,.int .i64 x.Vj,.int .i64 x.Nx,.slice pa x.Out.length c1]∧Da μ pa c1 x.Out
  Hg h:=by obtain ⟨pa,c1,rfl,m1⟩:=h;rfl
  up le h:=by obtain ⟨pa,c1,rfl,m1⟩:=h;exact ⟨pa,c1,rfl,m1.up le⟩
  wg h:=by obtain ⟨pa,c1,rfl,m1⟩:=h;rfl
theorem jj.i {μ:M}{l:List Value}{x:jj}(h:∃ pa c1,l=[.int .i64 x.State,.int .i64 x.Vj,.int .i64 x.Nx,.slice pa x.Out.length c1]∧Da μ pa c1 x.Out):Ja.cs μ l x:=h
structure Ch where
  gh:List jj
  sc:List (List Int)
  Steps:Int
  deriving DecidableEq,Inhabited,Repr
def xo (i50:Int) (i51:Int) (b:Int→Int→ed→Option (tl×ed×Int)) (c:Bool) (a:ed):Option (tl×ed×Int):=
  if c=true then
    (i64 (i50+1)).bind fun i86 =>
    (i64 (i51+1)).bind fun i88 =>
    b i86 i88 a
  else
    if i50=0 then
      some ((tl.mk 10 0),a,i51)
    else
      some ((tl.mk 0 i50),a,i51)
def Im (p_2:xi):Nat→Int→Int→ed→Option (tl×ed×Int)
  | 0,_,_,_=>none
  | n+1,i50,i51,a =>
    if i50<p_2.Uk then
      if i51<20000 then
        (lu a p_2.Task).bind fun b =>
        xo i50 i51 (Im p_2 n) b.1 b.2
      else
        xo i50 i51 (Im p_2 n) false a
    else
      xo i50 i51 (Im p_2 n) false a
def gr (fu:Nat) (a:ed) (p_2:xi) (b:Int) (d:Bool):Option (tl×ed×Int):=
  if d=true then
    some ((tl.mk 5 0),a,b)
  else
    (at_ a.tasks p_2.Task).bind fun f =>
    (Yp a p_2.Task).bind fun c =>
    (at_ c.tasks p_2.Task).bind fun e =>
    if e.s≠1 then
      some ((tl.mk 11 0),c,b)
    else
      Im p_2 fu 0 b c
def Pp (fu:Nat) (a:ed) (p_2:xi) (b:Int) (bh:Bool):Option (tl×ed×Int):=
  if bh=true then
    some ((tl.mk 3 0),a,b)
  else
    if p_2.Uk<1 then
      gr fu a p_2 b true
    else
      gr fu a p_2 b (decide ((10000:Int)<p_2.Uk))
def Mr (fu:Nat)  (a:ed) (b:Int) (p_2:xi):Option (tl×ed×Int):=
  if p_2.Task<0 then
    Pp fu a p_2 b true
  else
    Pp fu a p_2 b (decide ((a.length:Int)≤p_2.Task))
def Dp (a:ed) (b:Int):Nat→Int→ed→(List Int)→Option (List Int×ed×Int)
  | 0,_,_,_=>none
  | n+1,i39,c,d =>
    if i39<(a.length:Int) then
      (at_ c.tasks i39).bind fun h =>
      (Yp c i39).bind fun e =>
      (at_ e.tasks i39).bind fun f =>
      if f.s=1 then
        (app d [i39]).bind fun g =>
        (i64 (i39+1)).bind fun i98 =>
        Dp a b n i98 e g
      else
        (i64 (i39+1)).bind fun i100 =>
        Dp a b n i100 e d
    else
      some (d,c,b)
def Wt  (a:ed) (b:Int):Option (List Int×ed×Int):=
  Dp a b (a.length+1) 0 a []
def Ev (i71:Int) (a:ed) (b:Int→ed→(List jj)→Option (Ch×ed×Int)) (c:List jj):Option (Ch×ed×Int):=
  (i64 (i71+1)).bind fun i189 =>
  b i189 a c
def Fv (i213:Int) (a:Int→(List (List Int))→Option (Ch×ed×Int)) (b:List (List Int)):Option (Ch×ed×Int):=
  (i64 (i213+1)).bind fun i267 =>
  a i267 b
def Ep (b:Int) (a:ed) (c:List jj):Nat→Int→(List (List Int))→Option (Ch×ed×Int)
  | 0,_,_=>none
  | n+1,i213,d =>
    if i213<(a.boxes.length:Int) then
      (at_ a.boxes i213).bind fun g =>
      (Aw a i213).bind fun e =>
      (app d [e]).bind fun f =>
      Fv i213 (Ep b a c n) f
    else
      some ((Ch.mk c d b),a,b)
def Fp (c:ed) (d:Int):Nat→Int→ed→(List jj)→Option (Ch×ed×Int)
  | 0,_,_,_=>none
  | n+1,i71,b,e =>
    if i71<(c.length:Int) then
      (at_ b.tasks i71).bind fun l =>
      (Yp b i71).bind fun a =>
      (at_ a.tasks i71).bind fun f =>
      (at_ a.tasks i71).bind fun g =>
      (at_ a.tasks i71).bind fun h =>
      (at_ a.tasks i71).bind fun i =>
      (app ([]:List Int) i.out).bind fun j =>
      (app e [(jj.mk f.s g.bx h.t j)]).bind fun k =>
      Ev i71 a (Fp c d n) k
    else
      Ep d b e (b.boxes.length+1) 0 []
def Bw  (a:ed) (b:Int):Option (Ch×ed×Int):=
  Fp a b (a.length+1) 0 a []
end Go.Y
namespace Go.Y
open Go.Ab Go.jc
def Cw (fu:Nat)  (p_1:sb) (p_2:Int):Option Int :=
  (Ct fu p_1).bind fun a =>
  if a.xf≠0 then
    some a.xf
  else
    if (400:Int)<p_2 then
      some 5
    else
      some 0
def Iq (fu:Nat) (c:Int) (i168:Int) (d:ed) (e:Int→(List Int)→Int→ed→Option (Ch×Int)) (i237:Int):Option (Ch×Int):=
  (Mr fu d i168 (xi.mk i237 c)).bind fun a =>
  if a.1.xf≠0 then
    some ((Ch.mk ([]:List jj) ([]:List (List Int)) 0),10)
  else
    (Wt a.2.1 a.2.2).bind fun b =>
    e i237 b.1 b.2.2 b.2.1
def Jq (fu:Nat) (a:Int) (i163:Int) (b:List Int) (i168:Int) (c:ed) (e:Int) (d:Int→(List Int)→Int→ed→Option (Ch×Int)):Nat→Int→Option (Ch×Int)
  | 0,_=>none
  | n+1,i248 =>
    if i248<(b.length:Int) then
      (at_ b i248).bind fun f =>
      if i163<f then
        Iq fu a i168 c d f
      else
        (i64 (i248+1)).bind fun i270 =>
        Jq fu a i163 b i168 c e d n i270
    else
      Iq fu a i168 c d e
def mo (fu:Nat) (b:Int):Nat→Int→(List Int)→Int→ed→Option (Ch×Int)
  | 0,_,_,_,_=>none
  | n+1,i163,a,i168,c =>
    if (0:Int)<(a.length:Int) then
      (at_ a 0).bind fun d =>
      Jq fu b i163 a i168 c d (mo fu b n) (a.length+1) 0
    else
      (Bw c i168).bind fun e =>
      some (e.1,0)
def yp (fu:Nat) (p_2:List xi) (b:Int):Nat→Int→Int→Int→ed→Option (Ch×Int)
  | 0,_,_,_,_=>none
  | n+1,i55,i56,i57,d =>
    if i56<(p_2.length:Int) then
      (at_ p_2 i56).bind fun e =>
      (Mr fu d i57 e).bind fun a =>
      if a.1.xf=0 then
        (i64 (i56+1)).bind fun i98 =>
        yp fu p_2 b n e.Task i98 a.2.2 a.2.1
      else
        (i64 (i56+1)).bind fun i100 =>
        yp fu p_2 b n i55 i100 a.2.2 a.2.1
    else
      (Wt d i57).bind fun c =>
      mo fu b fu i55 c.1 c.2.2 c.2.1
def Kq (fu:Nat) (p_1:sb) (p_2:List xi) (b:Int) (Ef:Bool):Option (Ch×Int):=
  if Ef=true then
    some ((Ch.mk ([]:List jj) ([]:List (List Int)) 0),3)
  else
    (Vt p_1).bind fun a =>
    yp fu p_2 b (p_2.length+1) (-1) 0 a.2 a.1
def ur (fu:Nat)  (p_1:sb) (p_2:List xi) (a:Int):Option (Ch×Int):=
  (Cw fu p_1 (p_2.length:Int)).bind fun b =>
  if b≠0 then
    some ((Ch.mk ([]:List jj) ([]:List (List Int)) 0),b)
  else
    if a<1 then
      Kq fu p_1 p_2 a true
    else
      Kq fu p_1 p_2 a (decide ((10000:Int)<a))
def Gp (a:Int) (b:List Int) (d:ud) (c:Int→(List Int)→Option Bool) (e:Bool):Option Bool :=
  if e=true then
    (app b [d.A]).bind fun f =>
    (i64 (a+1)).bind fun g =>
    c g f
  else
    (i64 (a+1)).bind fun h =>
    c h b
def Rq (c:Int) (b:List Int) (a:ud) (d:Int→(List Int)→Option Bool) (e:Bool):Option Bool :=
  if e=true then
    some true
  else
    if a.Op=23 then
      Gp c b a d (!(b.contains a.A))
    else
      if a.Op=29 then
        Gp c b a d (!(b.contains a.A))
      else
        Gp c b a d false
def im (d:Int) (e:Int) (i138:Int) (a:Xc) (f:Int→(List Int)→Option Bool):Nat→Int→(List Int)→Option Bool
  | 0,_,_=>none
  | n+1,b,g =>
    if b<(a.Code.length:Int) then
      (at_ a.Code b).bind fun c =>
      if c.Op=d then
        Rq b g c (im d e i138 a f n) (decide (c.A=e))
      else
        Rq b g c (im d e i138 a f n) false
    else
      (i64 (i138+1)).bind fun h =>
      f h g
def xn (p_1:sb) (b:Int) (c:Int):Nat→Int→(List Int)→Option Bool
  | 0,_,_=>none
  | n+1,i138,a =>
    if i138<(a.length:Int) then
      (at_ a i138).bind fun e =>
      (at_ p_1.Ya e).bind fun d =>
      im b c i138 d (xn p_1 b c n) (d.Code.length+1) 0 a
    else
      some false
def Dw (fu:Nat)  (p_1:sb) (p_2:Int) (a:Int) (b:Int):Option Bool :=
  xn p_1 a b fu 0 ([p_2]:List Int)
def Sq (d:Int) (a:Int) (b:Int) (c:Int→Int→Int→Option (List Int×Int)) (e:Bool):Option (List Int×Int):=
  if e=true then
    (i64 (a+1)).bind fun f =>
    (i64 (b+1)).bind fun g =>
    c a f g
  else
    (i64 (a+1)).bind fun h =>
    (i64 (b+1)).bind fun i =>
    c d h i
def Fm (fu:Nat) (p_1:sb) (i149:Int) (c:List Int) (a:jj) (d:Int→(List Int)→Option (List Int×Int)):Nat→Int→Int→Int→Option (List Int×Int)
  | 0,_,_,_=>none
  | n+1,e,f,b =>
    if b<(p_1.Ya.length:Int) then
      (at_ p_1.Ya b).bind fun g =>
      if g.Kind≠4 then
        (i64 (b+1)).bind fun h =>
        Fm fu p_1 i149 c a d n e f h
      else
        if ((zc (Gd (Gd ([]:List (Int×Int)) 2 27) 3 26) a.State).getD 0)≠0 then
          (Dw fu p_1 b ((zc (Gd (Gd ([]:List (Int×Int)) 2 27) 3 26) a.State).getD 0) a.Vj).bind fun i =>
          Sq e f b (Fm fu p_1 i149 c a d n) i
        else
          Sq e f b (Fm fu p_1 i149 c a d n) false
    else
      (app c [e]).bind fun j =>
      (i64 (i149+1)).bind fun k =>
      d k j
def yn (fu:Nat) (p_1:sb) (a:Ch×Int):Nat→Int→(List Int)→Option (List Int×Int)
  | 0,_,_=>none
  | n+1,i149,b =>
    if i149<(a.1.gh.length:Int) then
      (at_ a.1.gh i149).bind fun c =>
      Fm fu p_1 i149 b c (yn fu p_1 a n) (p_1.Ya.length+1) (-1) 0 0
    else
      some (b,0)
def Ew (fu:Nat)  (p_1:sb) (p_2:List xi) (b:Int):Option (List Int×Int):=
  (ur fu p_1 p_2 b).bind fun a =>
  if a.2≠0 then
    some (([]:List Int),a.2)
  else
    yn fu p_1 a (a.1.gh.length+1) 0 []
end Go.Y
namespace Go.Y
open Go.Ab Go.jc
def Hp (i75:Int) (a:Int→Option Bool) (b:Bool):Option Bool :=
  if b=true then
    some false
  else
    (i64 (i75+1)).bind fun i153 =>
    a i153
def Tq (c:List Int×Int) (i75:Int) (b:Int) (a:Int→Option Bool) (d:Bool):Option Bool :=
  if (c.1.length:Int)≤b then
    Hp i75 a true
  else
    if (0:Int)≤b then
      Hp i75 a (!d)
    else
      Hp i75 a false
def jt (a:List Int×Int) (i184:Int) (b:List (Int×Bool)) (c:Int→(List (Int×Bool))→Option Bool) (d:Bool):Option Bool :=
  if d=true then
    (at_ a.1 i184).bind fun e =>
    if e<0 then
      some true
    else
      (at_ a.1 i184).bind fun f =>
      c f (Gd b i184 true)
  else
    some (decide ((0:Int)<(b.length:Int)))
def oo (a:List Int×Int):Nat→Int→(List (Int×Bool))→Option Bool
  | 0,_,_=>none
  | n+1,i184,b =>
    if (0:Int)≤i184 then
      jt a i184 b (oo a n) (!((zc b i184).getD false))
    else
      jt a i184 b (oo a n) false
def Uq (fu:Nat) (a:Int) (b:List Int×Int) (c:Bool):Option Bool :=
  if c=true then
    some true
  else
    oo b fu a ([]:List (Int×Bool))
def jm (fu:Nat) (b:Int) (a:List Int×Int) (c:Ch×Int):Nat→Int→Option Bool
  | 0,_=>none
  | n+1,i75 =>
    if i75<(a.1.length:Int) then
      (at_ a.1 i75).bind fun d =>
      (at_ c.1.gh i75).bind fun e =>
      if e.State=2 then
        Tq a i75 d (jm fu b a c n) true
      else
        (at_ c.1.gh i75).bind fun f =>
        Tq a i75 d (jm fu b a c n) (decide (f.State=3))
    else
      if b<0 then
        Uq fu b a true
      else
        Uq fu b a (decide ((a.1.length:Int)≤b))
def Vq (fu:Nat) (c:Int) (a:List Int×Int) (b:Ch×Int) (d:Bool):Option Bool :=
  if d=true then
    some (decide (a.2=b.2))
  else
    if (a.1.length:Int)≠(b.1.gh.length:Int) then
      some false
    else
      jm fu c a b (a.1.length+1) 0
def Xt (fu:Nat)  (p_1:sb) (p_2:List xi) (c:Int) (d:Int):Option Bool :=
  (gw fu).bind fun e =>
  if e=true then
    (Ew fu p_1 p_2 c).bind fun a =>
    (ur fu p_1 p_2 c).bind fun b =>
    if a.2≠0 then
      Vq fu d a b true
    else
      Vq fu d a b (decide (b.2≠0))
  else
    some false
end Go.Y
