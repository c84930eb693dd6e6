/- Texts of Md. -/
import Derived.Test.YticaondbdmcpoaaGreatDoorCXu
set_option linter.unusedSimpArgs false
set_option linter.unusedVariables false
set_option linter.unusedSectionVars false
namespace Go.Y
open Go.Rb Go.ec
structure Da where
  Kind:Int
  N:Int
  Name:List UInt8
  Kids:List Da
  deriving Inhabited,Repr
structure Ea where
  Kind:Int
  Name:List UInt8
  X:Da
  Body:List Ea
  me:List Ea
  deriving Inhabited,Repr
def Wn {α:Type}(sz:Nat) (μ:M) (a:Option Addr) (c:Nat) (xs:List α) (g:Nat→List Value):Prop :=
  xs.length≤c∧c≤maxLen∧(xs=[]∨∃ b o,a=some ⟨b,o,none⟩∧∀ (i:Nat) (y:α),xs[i]?=some y→Aa μ b (o+i*sz) (g i))
inductive cr (μ:M):List Value→Da→Prop where
  | mk (x:Da) (a:Option Addr) (c:Nat) (g:Nat→List Value) (h:Wn 4 μ a c x.Kids g) (k:∀ (i:Nat) (y:Da),x.Kids[i]?=some y→cr μ (g i) y) :
    cr μ [.int .i64 x.Kind,.int .i64 x.N,S x.Name,.slice a x.Kids.length c] x
theorem Wn.Av {α:Type}{sz:Nat}{μ:M}{a:Option Addr}{c:Nat}{xs:List α}{g:Nat→List Value}{R:List Value→α→Prop}(h:Wn sz μ a c xs g) (k:∀ (i:Nat) (y:α),xs[i]?=some y→R (g i) y):ad sz R μ a c xs:=by
  refine ⟨h.1,h.2.1,?_⟩;rcases h.2.2 with h | ⟨b,o,e,f⟩
  · exact .inl h
  · exact .inr ⟨b,o,e,g,fun i x d=>⟨f i x d,k i x d⟩⟩
theorem Wn.of {α:Type}{sz:Nat}{μ:M}{a:Option Addr}{c:Nat}{xs:List α}{R:List Value→α→Prop}(h:ad sz R μ a c xs):∃ g,Wn sz μ a c xs g∧∀ (i:Nat) (y:α),xs[i]?=some y→R (g i) y:=by
  rcases h.el with e | ⟨b,o,j,g,f⟩
  · exact ⟨fun _=>[],⟨h.le,h.cap,.inl e⟩,fun i y d=>by simp [e] at d⟩
  · exact ⟨g,⟨h.le,h.cap,.inr ⟨b,o,j,fun i y d=>(f i y d).1⟩⟩,fun i y d=>(f i y d).2⟩
theorem Wn.up {α:Type}{sz:Nat}{μ J:M}{a:Option Addr}{c:Nat}{xs:List α}{g:Nat→List Value}(h:Wn sz μ a c xs g) (l:ga μ J):Wn sz J a c xs g:=by
  refine ⟨h.1,h.2.1,?_⟩;rcases h.2.2 with h | ⟨b,o,d,e⟩
  · exact .inl h
  · exact .inr ⟨b,o,d,fun i y f=>(e i y f).up l⟩
theorem cr.up {μ J:M}(l:ga μ J){cs:List Value}{x:Da}(h:cr μ cs x):cr J cs x:=by
  induction h with
  | mk x a c g h k b=>exact .mk x a c g (h.up l) b
instance:ab Da where
  sz:=4
  pos:=by decide
  cs:=cr
  sj h:=by cases h;rfl
  up l h:=cr.up l h
  Yh h:=by cases h;rfl
theorem Da.o {μ:M}{l:List Value}{x:Da}(h:ab.cs μ l x):∃ a c,l=[.int .i64 x.Kind,.int .i64 x.N,S x.Name,.slice a x.Kids.length c]∧Ja μ a c x.Kids:=by
  have b:cr μ l x:=h;cases b with
  | mk _ a c g d k1=>exact ⟨a,c,rfl,d.Av k1⟩
theorem Da.i {μ:M}{l:List Value}{x:Da}(h:∃ a c,l=[.int .i64 x.Kind,.int .i64 x.N,S x.Name,.slice a x.Kids.length c]∧Ja μ a c x.Kids):ab.cs μ l x:=by
  obtain ⟨a,c,rfl,h⟩:=h;obtain ⟨g,h,k⟩:=Wn.of h;exact cr.mk x a c g h k
inductive Zp (μ:M):List Value→Ea→Prop where
  | mk (x:Ea) (oa:Option Addr) (jb:Nat) (a2:Option Addr) (c2:Nat) (a3:Option Addr) (c3:Nat) (g2 g3:Nat→List Value) (a:Ja μ oa jb x.X.Kids)
      (b:Wn 8 μ a2 c2 x.Body g2) (c:∀ (i:Nat) (y:Ea),x.Body[i]?=some y→Zp μ (g2 i) y)
      (d:Wn 8 μ a3 c3 x.me g3) (e:∀ (i:Nat) (y:Ea),x.me[i]?=some y→Zp μ (g3 i) y) :
    Zp μ [.int .i64 x.Kind,S x.Name,.int .i64 x.X.Kind,.int .i64 x.X.N,S x.X.Name,.slice oa x.X.Kids.length jb,.slice a2 x.Body.length c2,.slice a3 x.me.length c3] x
theorem Zp.up {μ J:M}(l:ga μ J){cs:List Value}{x:Ea}(h:Zp μ cs x):Zp J cs x:=by
  induction h with
  | mk x oa jb a2 c2 a3 c3 g2 g3 a b f c g d e=>exact .mk x oa jb a2 c2 a3 c3 g2 g3 (a.up l) (b.up l) d (c.up l) e
instance:ab Ea where
  sz:=8
  pos:=by decide
  cs:=Zp
  sj h:=by cases h;rfl
  up l h:=Zp.up l h
  Yh h:=by cases h;rfl
theorem Ea.o {μ:M}{l:List Value}{x:Ea}(h:ab.cs μ l x):∃ oa jb a2 c2 a3 c3,l=[.int .i64 x.Kind,S x.Name,.int .i64 x.X.Kind,.int .i64 x.X.N,S x.X.Name,.slice oa x.X.Kids.length jb,.slice a2 x.Body.length c2,.slice a3 x.me.length c3]∧Ja μ oa jb x.X.Kids∧Ja μ a2 c2 x.Body∧Ja μ a3 c3 x.me:=by
  have a:Zp μ l x:=h;cases a with
  | mk _ oa jb a2 c2 a3 c3 g2 g3 b c d e f=>exact ⟨oa,jb,a2,c2,a3,c3,rfl,b,c.Av d,e.Av f⟩
theorem Ea.i {μ:M}{l:List Value}{x:Ea}(h:∃ oa jb a2 c2 a3 c3,l=[.int .i64 x.Kind,S x.Name,.int .i64 x.X.Kind,.int .i64 x.X.N,S x.X.Name,.slice oa x.X.Kids.length jb,.slice a2 x.Body.length c2,.slice a3 x.me.length c3]∧Ja μ oa jb x.X.Kids∧Ja μ a2 c2 x.Body∧Ja μ a3 c3 x.me):ab.cs μ l x:=by
  obtain ⟨oa,jb,a2,c2,a3,c3,rfl,c,a,b⟩:=h;obtain ⟨g2,a,d⟩:=Wn.of a;obtain ⟨g3,b,e⟩:=Wn.of b;exact Zp.mk x oa jb a2 c2 a3 c3 g2 g3 c a d b e
structure Dc where
  Kind:Int
  Text:List UInt8
  jG:Int
  Aa:Int
  deriving DecidableEq,Inhabited,Repr
instance:ab Dc where
  sz:=4
  pos:=by decide
  cs μ l x:=l=[.int .i64 x.Kind,S x.Text,.int .i64 x.jG,.int .i64 x.Aa]
  sj h:=by obtain rfl:=h;rfl
  up le h:=by exact h
  Yh h:=by obtain rfl:=h;rfl
structure df where
  Hg:Int
  Aa:Int
  deriving DecidableEq,Inhabited,Repr
structure Sa where
  Kind:Int
  bc:List UInt8
  deriving DecidableEq,Inhabited,Repr
instance:ab Sa where
  sz:=2
  pos:=by decide
  cs μ l x:=l=[.int .i64 x.Kind,S x.bc]
  sj h:=by obtain rfl:=h;rfl
  up le h:=by exact h
  Yh h:=by obtain rfl:=h;rfl
structure TParam where
  Name:List UInt8
  vb:Sa
  deriving DecidableEq,Inhabited,Repr
instance:ab TParam where
  sz:=3
  pos:=by decide
  cs μ l x:=l=[S x.Name,.int .i64 x.vb.Kind,S x.vb.bc]
  sj h:=by obtain rfl:=h;rfl
  up le h:=by exact h
  Yh h:=by obtain rfl:=h;rfl
structure sa where
  Kind:Int
  Name:List UInt8
  vb:Sa
  Cd:Sa
  Jf:Int
  Params:List TParam
  Body:List Ea
  deriving Inhabited,Repr
instance:ab sa where
  sz:=9
  pos:=by decide
  cs μ l x:=∃ oa jb a2 c2,l=[.int .i64 x.Kind,S x.Name,.int .i64 x.vb.Kind,S x.vb.bc,.int .i64 x.Cd.Kind,S x.Cd.bc,.int .i64 x.Jf,.slice oa x.Params.length jb,.slice a2 x.Body.length c2]∧Ja μ oa jb x.Params∧Ja μ a2 c2 x.Body
  sj h:=by obtain ⟨oa,jb,a2,c2,rfl,m1,m2⟩:=h;rfl
  up le h:=by obtain ⟨oa,jb,a2,c2,rfl,m1,m2⟩:=h;exact ⟨oa,jb,a2,c2,rfl,m1.up le,m2.up le⟩
  Yh h:=by obtain ⟨oa,jb,a2,c2,rfl,m1,m2⟩:=h;rfl
theorem sa.i {μ:M}{l:List Value}{x:sa}(h:∃ oa jb a2 c2,l=[.int .i64 x.Kind,S x.Name,.int .i64 x.vb.Kind,S x.vb.bc,.int .i64 x.Cd.Kind,S x.Cd.bc,.int .i64 x.Jf,.slice oa x.Params.length jb,.slice a2 x.Body.length c2]∧Ja μ oa jb x.Params∧Ja μ a2 c2 x.Body):ab.cs μ l x:=h
structure Rh where
  du:List UInt8
  Writer:List UInt8
  Reader:List UInt8
  deriving DecidableEq,Inhabited,Repr
instance:ab Rh where
  sz:=3
  pos:=by decide
  cs μ l x:=l=[S x.du,S x.Writer,S x.Reader]
  sj h:=by obtain rfl:=h;rfl
  up le h:=by exact h
  Yh h:=by obtain rfl:=h;rfl
instance:Zh Sa:=⟨ku,ku.up⟩
instance:Zh sa:=⟨We,We.up⟩
structure pb where
  defs:List sa
  named:List (List UInt8×sa)
  deriving Inhabited,Repr
structure jf where
  calls:List (List UInt8)
  Dk:List (List UInt8)
  Rj:List (List UInt8)
  deriving DecidableEq,Inhabited,Repr
instance:ab jf where
  sz:=3
  pos:=by decide
  cs μ l x:=∃ oa jb a2 c2 a3 c3,l=[.slice oa x.calls.length jb,.slice a2 x.Dk.length c2,.slice a3 x.Rj.length c3]∧Ja μ oa jb x.calls∧Ja μ a2 c2 x.Dk∧Ja μ a3 c3 x.Rj
  sj h:=by obtain ⟨oa,jb,a2,c2,a3,c3,rfl,m1,m2,m3⟩:=h;rfl
  up le h:=by obtain ⟨oa,jb,a2,c2,a3,c3,rfl,m1,m2,m3⟩:=h;exact ⟨oa,jb,a2,c2,a3,c3,rfl,m1.up le,m2.up le,m3.up le⟩
  Yh h:=by obtain ⟨oa,jb,a2,c2,a3,c3,rfl,m1,m2,m3⟩:=h;rfl
theorem jf.i {μ:M}{l:List Value}{x:jf}(h:∃ oa jb a2 c2 a3 c3,l=[.slice oa x.calls.length jb,.slice a2 x.Dk.length c2,.slice a3 x.Rj.length c3]∧Ja μ oa jb x.calls∧Ja μ a2 c2 x.Dk∧Ja μ a3 c3 x.Rj):ab.cs μ l x:=h
structure oi where
  hv:List (List UInt8×Int)
  once:Bool
  deriving DecidableEq,Inhabited,Repr
instance:ab oi where
  sz:=2
  pos:=by decide
  cs μ l x:=∃ za,l=[.map (some za),.bool x.once]∧Oh μ za x.hv
  sj h:=by obtain ⟨za,rfl,m1⟩:=h;rfl
  up le h:=by obtain ⟨za,rfl,m1⟩:=h;exact ⟨za,rfl,m1.up le⟩
  Yh h:=by obtain ⟨za,rfl,m1⟩:=h;rfl
theorem oi.i {μ:M}{l:List Value}{x:oi}(h:∃ za,l=[.map (some za),.bool x.once]∧Oh μ za x.hv):ab.cs μ l x:=h
instance:Zh jf:=⟨ku,ku.up⟩
end Go.Y
namespace Go.Y
open Go.Rb Go.ec
def LN:List UInt8:=[32,98,111,120,32,102,110,32,103,101,110,32,116,97,115,107,32,116,97,107,101,115,32,121,105,101,108,100,115,32,108,101,116,32,105,102,32,101,108,115,101,32,119,104,105,108,101,32,114,101,116,117,114,110,32,115,116,111,112,32,115,101,110,100,32,111,117,116,32,100,111,32,114,101,99,118,32,121,105,101,108,100,32,115,116,97,114,116,32,114,101,115,117,109,101,32,97,108,105,118,101,32,110,117,109,32,98,111,111,108,32,116,114,117,101,32,102,97,108,115,101,32,97,110,100,32,111,114,32,110,111,116,32]
def Tr  (p_1:UInt8):Option Bool :=
  if (97:Int)≤(p_1.toNat:Int) then
    if (p_1.toNat:Int)≤122 then
      some true
    else
      some (decide ((p_1.toNat:Int)=95))
  else
    some (decide ((p_1.toNat:Int)=95))
def Wr  (p_1:UInt8):Option Bool :=
  if (48:Int)≤(p_1.toNat:Int) then
    some (decide ((p_1.toNat:Int)≤57))
  else
    some false
def Qr (i13:Int) (a:Int→Option Int) (b:Bool):Option Int :=
  if b=true then
    (i64 (i13+1)).bind fun i33 =>
    a i33
  else
    some i13
def xn (p_1:List UInt8) (a:UInt8→Option Bool):Nat→Int→Option Int
  | 0,_=>none
  | n+1,i13 =>
    if i13<(p_1.length:Int) then
      (at_ p_1 i13).bind fun b =>
      (a b).bind fun c =>
      Qr i13 (xn p_1 a n) c
    else
      Qr i13 (xn p_1 a n) false
def At (fu:Nat)  (p_1:List UInt8) (a:UInt8→Option Bool):Option Int :=
  xn p_1 a fu 0
def wB  (p_1:UInt8):Option Bool :=
  (Tr p_1).bind fun a =>
  if a=true then
    some true
  else
    (Wr p_1).bind fun b =>
    some b
def Fs  (p_1:UInt8):Option Bool :=
  (Tr p_1).bind fun a =>
  if a=true then
    some true
  else
    (Wr p_1).bind fun b =>
    some b
def Xo (fu:Nat) (p_1:List UInt8) (za:Bool):Option Bool :=
  if za=true then
    some false
  else
    (At fu p_1 Fs).bind fun a =>
    some (decide (a=(p_1.length:Int)))
def ai (fu:Nat)  (p_1:List UInt8):Option Bool :=
  if (p_1.length:Int)<1 then
    Xo fu p_1 true
  else
    if (12:Int)<(p_1.length:Int) then
      Xo fu p_1 true
    else
      (at_ p_1 0).bind fun a =>
      (Tr a).bind fun b =>
      if b=true then
        (cat [32] p_1).bind fun c =>
        (cat c [32]).bind fun d =>
        (Ny LN d).bind fun e =>
        Xo fu p_1 e
      else
        Xo fu p_1 true
def fB  (p_1:List UInt8) (a:List UInt8):Option Bool :=
  if (a.length:Int)≤(p_1.length:Int) then
    (cut p_1 0 (a.length:Int)).bind fun s2 =>
    some (decide (s2=a))
  else
    some false
def xB  (p_1:List UInt8) (a:List UInt8):Option Bool :=
  (fB p_1 a).bind fun b =>
  some b
def Jx (p_1:List UInt8):Nat→Int→Option (List UInt8)
  | 0,_=>none
  | n+1,i18 =>
    if i18<18 then
      (at_ [[61,61],[33,61],[60,61],[62,61],[60],[62],[61],[43],[45],[42],[47],[37],[40],[41],[123],[125],[44],[59]] i18).bind fun a =>
      (xB p_1 a).bind fun b =>
      if b=true then
        some a
      else
        (i64 (i18+1)).bind fun i46 =>
        Jx p_1 n i46
    else
      none
def MA  (p_1:List UInt8):Option (List UInt8):=
  Jx p_1 19 0
def wx (i6:Int) (a:UInt8) (b:Int→Option Int) (c:Bool):Option Int :=
  if c=true then
    (i64 (i6+1)).bind fun i21 =>
    b i21
  else
    if (a.toNat:Int)=35 then
      none
    else
      some i6
def Du (p_1:List UInt8):Nat→Int→Option Int
  | 0,_=>none
  | n+1,i6 =>
    if i6<(p_1.length:Int) then
      (at_ p_1 i6).bind fun a =>
      if (a.toNat:Int)=32 then
        wx i6 a (Du p_1 n) (decide ((a.toNat:Int)=32))
      else
        if (a.toNat:Int)=9 then
          none
        else
          wx i6 a (Du p_1 n) (decide ((a.toNat:Int)=10))
    else
      some i6
def cy (fu:Nat)  (p_1:List UInt8):Option Int :=
  Du p_1 fu 0
def Iv (fu:Nat) (p_1:List UInt8) (i58:Int) (b:List Dc) (c:Int→(List Dc)→Option (List Dc×df)) (i118:Int) (a:List UInt8) (i120:Int):Option (List Dc×df):=
  (app b [(Dc.mk i118 a i120 i58)]).bind fun d =>
  (i64 (i58+(a.length:Int))).bind fun i154 =>
  (cut p_1 i154 p_1.length).bind fun e =>
  (cy fu e).bind fun f =>
  (i64 (i154+f)).bind fun i161 =>
  c i161 d
def ft (fu:Nat) (p_1:List UInt8):Nat→Int→(List Dc)→Option (List Dc×df)
  | 0,_,_=>none
  | n+1,i58,b =>
    if i58<(p_1.length:Int) then
      (cut p_1 i58 p_1.length).bind fun a =>
      (at_ a 0).bind fun d =>
      (Tr d).bind fun f =>
      if f=true then
        (At fu a wB).bind fun g =>
        (cut a 0 g).bind fun h =>
        Iv fu p_1 i58 b (ft fu p_1 n) 1 h 0
      else
        (Wr d).bind fun i =>
        if i=true then
          (At fu a Wr).bind fun j =>
          (cut a 0 j).bind fun c =>
          if (15:Int)<(c.length:Int) then
            none
          else
            (QB c).bind fun i140 =>
            Iv fu p_1 i58 b (ft fu p_1 n) 2 c i140
        else
          (MA a).bind fun e =>
          if e=[] then
            none
          else
            Iv fu p_1 i58 b (ft fu p_1 n) 3 e 0
    else
      some (b,(df.mk 0 0))
def Sz (fu:Nat)  (p_1:List UInt8):Option (List Dc×df):=
  if (6000:Int)<(p_1.length:Int) then
    none
  else
    (cy fu p_1).bind fun a =>
    ft fu p_1 fu a []
end Go.Y
namespace Go.Y
open Go.Rb Go.ec
def yx  (a:Bool):Option Int :=
  if a=true then
    some 2
  else
    some (-1)
def Eu (p_1:Int) (a:Bool):Option Int :=
  if a=true then
    some 1
  else
    if p_1≤18 then
      yx true
    else
      yx (decide (p_1=23))
def Mv (p_1:Int) (za:Bool):Option Int :=
  if za=true then
    some 0
  else
    if p_1≤5 then
      Eu p_1 true
    else
      if p_1=21 then
        Eu p_1 true
      else
        Eu p_1 (decide (p_1=24))
def Vv  (p_1:Int):Option Int :=
  if p_1≤3 then
    Mv p_1 true
  else
    Mv p_1 (decide (p_1=20))
def Ax (i3:Int) (a:Bool):Option (Int×Int):=
  if a=true then
    some (4,i3)
  else
    some (0,i3)
def Bt  (a:Int) (b:Int):Option (Int×Int):=
  (i64 (a+1)).bind fun i3 =>
  if (2000:Int)<i3 then
    Ax i3 true
  else
    Ax i3 (decide ((40:Int)<b))
def Ov  (a:Bool):Option Int :=
  if a=true then
    some 7
  else
    some 0
def Zo (fu:Nat) (p_1:Sa) (Nb:Bool):Option Int :=
  if Nb=true then
    some 1
  else
    if p_1.Kind=3 then
      (ai fu p_1.bc).bind fun a =>
      Ov (!a)
    else
      Ov false
def Vm (fu:Nat)  (p_1:Sa):Option Int :=
  if p_1.Kind<1 then
    Zo fu p_1 true
  else
    Zo fu p_1 (decide ((3:Int)<p_1.Kind))
structure Ao where
  ei:Int→Da→Int→Option (Int×Int)
def xk (self:Ao) (b:Da) (p_3:Int):Nat→Int→Int→Option (Int×Int)
  | 0,_,_=>none
  | n+1,i72,i73 =>
    if i72<(b.Kids.length:Int) then
      (at_ b.Kids i72).bind fun c =>
      (i64 (p_3+1)).bind fun i105 =>
      (self.ei i73 c i105).bind fun a =>
      if a.1≠0 then
        some (a.1,a.2)
      else
        (i64 (i72+1)).bind fun i111 =>
        xk self b p_3 n i111 a.2
    else
      some (0,i73)
def yn (self:Ao) (a:Da) (p_3:Int) (b:Int×Int) (c:Bool):Option (Int×Int):=
  if c=true then
    some (5,b.2)
  else
    xk self a p_3 (a.Kids.length+1) 0 b.2
def zn (self:Ao) (a:Da) (p_3:Int) (b:Int×Int) (d:Int) (c:Bool):Option (Int×Int):=
  if c=true then
    yn self a p_3 b c
  else
    if d<0 then
      yn self a p_3 b (decide ((6:Int)<(a.Kids.length:Int)))
    else
      yn self a p_3 b false
def im (self:Ao) (b:Da) (p_3:Int) (c:Int×Int) (a:Int) (d:Bool):Option (Int×Int):=
  if d=true then
    some (7,c.2)
  else
    if (0:Int)≤a then
      zn self b p_3 c a (decide ((b.Kids.length:Int)≠a))
    else
      zn self b p_3 c a false
def Pm (fu:Nat) (self:Ao) (a:Da) (p_3:Int) (b:Int×Int) (c:Int) (d:Bool):Option (Int×Int):=
  if d=true then
    some (3,b.2)
  else
    if a.Kind=3 then
      (ai fu a.Name).bind fun e =>
      im self a p_3 b c (!e)
    else
      if a.Kind=20 then
        (ai fu a.Name).bind fun f =>
        im self a p_3 b c (!f)
      else
        if c<0 then
          (ai fu a.Name).bind fun g =>
          im self a p_3 b c (!g)
        else
          im self a p_3 b c false
def An (fu:Nat) (self:Ao) (a:Da) (p_3:Int) (b:Int×Int) (c:Int) (d:Bool):Option (Int×Int):=
  if d=true then
    Pm fu self a p_3 b c d
  else
    if a.Kind=2 then
      if a.N≠0 then
        Pm fu self a p_3 b c (decide (a.N≠1))
      else
        Pm fu self a p_3 b c false
    else
      Pm fu self a p_3 b c false
def Il (fu:Nat) (self:Ao) (a:Da) (p_3:Int) (b:Int×Int) (d:Bool):Option (Int×Int):=
  if d=true then
    some (1,b.2)
  else
    (Vv a.Kind).bind fun c =>
    if a.Kind=1 then
      if a.N<0 then
        An fu self a p_3 b c true
      else
        An fu self a p_3 b c (decide ((999999999999999:Int)<a.N))
    else
      An fu self a p_3 b c false
def ei (fu:Nat) (self:Ao) (c:Int) (b:Da) (p_3:Int):Option (Int×Int):=
  (Bt c p_3).bind fun a =>
  if a.1≠0 then
    some (a.1,a.2)
  else
    if b.Kind<1 then
      Il fu self b p_3 a true
    else
      Il fu self b p_3 a (decide ((24:Int)<b.Kind))
def Pg:Nat→Ao
  | 0=>⟨fun _ _ _=>none⟩
  | n+1=>⟨ei n (Pg n)⟩
structure Bo where
  ah:Int→(List Ea)→Int→Option (Int×Int)
  jj:Int→Ea→Int→Option (Int×Int)
def fo (self:Bo) (b:List Ea) (p_3:Int):Nat→Int→Int→Option (Int×Int)
  | 0,_,_=>none
  | n+1,i29,i30 =>
    if i29<(b.length:Int) then
      (at_ b i29).bind fun c =>
      (self.jj i30 c p_3).bind fun a =>
      if a.1≠0 then
        some (a.1,a.2)
      else
        (i64 (i29+1)).bind fun i76 =>
        fo self b p_3 n i76 a.2
    else
      some (0,i30)
def ah (self:Bo) (b:Int) (a:List Ea) (p_3:Int):Option (Int×Int):=
  if (50:Int)<(a.length:Int) then
    some (5,b)
  else
    fo self a p_3 (a.length+1) 0 b
def po (self:Bo) (a:Ea) (p_3:Int) (i48:Int):Option (Int×Int):=
  if a.Kind=3 then
    (i64 (p_3+1)).bind fun i58 =>
    (self.ah i48 a.me i58).bind fun b =>
    some (b.1,b.2)
  else
    some (0,i48)
def qo (self:Bo) (b:Ea) (p_3:Int) (c:Int×Int) (d:Bool):Option (Int×Int):=
  if d=true then
    (i64 (p_3+1)).bind fun i50 =>
    (self.ah c.2 b.Body i50).bind fun a =>
    if a.1≠0 then
      some (a.1,a.2)
    else
      po self b p_3 a.2
  else
    po self b p_3 c.2
def jm (fu:Nat) (self:Bo) (a:Ea) (p_3:Int) (c:Int×Int) (d:Bool):Option (Int×Int):=
  if d=true then
    some (7,c.2)
  else
    if a.Kind=6 then
      some (0,c.2)
    else
      (i64 (p_3+1)).bind fun i39 =>
      ((Pg fu).ei c.2 a.X i39).bind fun b =>
      if b.1≠0 then
        some (b.1,b.2)
      else
        if a.Kind=3 then
          qo self a p_3 b true
        else
          qo self a p_3 b (decide (a.Kind=4))
def Qm (fu:Nat) (self:Bo) (a:Ea) (p_3:Int) (b:Int×Int) (c:Bool):Option (Int×Int):=
  if c=true then
    some (1,b.2)
  else
    if a.Kind=1 then
      (ai fu a.Name).bind fun d =>
      jm fu self a p_3 b (!d)
    else
      if a.Kind=2 then
        (ai fu a.Name).bind fun e =>
        jm fu self a p_3 b (!e)
      else
        if a.Kind=7 then
          (ai fu a.Name).bind fun f =>
          jm fu self a p_3 b (!f)
        else
          jm fu self a p_3 b false
def jj (fu:Nat) (self:Bo) (c:Int) (b:Ea) (p_3:Int):Option (Int×Int):=
  (Bt c p_3).bind fun a =>
  if a.1≠0 then
    some (a.1,a.2)
  else
    if b.Kind<1 then
      Qm fu self b p_3 a true
    else
      Qm fu self b p_3 a (decide ((9:Int)<b.Kind))
def Qg:Nat→Bo
  | 0=>⟨fun _ _ _=>none,fun _ _ _=>none⟩
  | n+1=>⟨ah (Qg n),jj n (Qg n)⟩
def Lu (Kf:Int×Int) (a:Bool):Option (Int×Int):=
  if a=true then
    some (3,Kf.2)
  else
    some (0,Kf.2)
def uo (fu:Nat) (a:sa) (Kf:Int×Int):Option (Int×Int):=
  if a.Kind≠1 then
    ((Qg fu).ah Kf.2 a.Body 2).bind fun b =>
    some (b.1,b.2)
  else
    if a.Jf<1 then
      Lu Kf true
    else
      Lu Kf (decide ((20:Int)<a.Jf))
def vo (fu:Nat) (a:sa) (Kf:Int×Int):Option (Int×Int):=
  if a.Kind≠4 then
    (Vm fu a.vb).bind fun b =>
    if b≠0 then
      some (b,Kf.2)
    else
      uo fu a Kf
  else
    uo fu a Kf
def Rm (fu:Nat) (a:sa) (Kf:Int×Int):Option (Int×Int):=
  if a.Kind=3 then
    (Vm fu a.Cd).bind fun b =>
    if b≠0 then
      some (b,Kf.2)
    else
      vo fu a Kf
  else
    vo fu a Kf
def wo (fu:Nat) (a:sa) (Kf:Int×Int):Nat→Int→Option (Int×Int)
  | 0,_=>none
  | n+1,i47 =>
    if i47<(a.Params.length:Int) then
      (at_ a.Params i47).bind fun b =>
      (ai fu b.Name).bind fun d =>
      if d=true then
        (Vm fu b.vb).bind fun c =>
        if c≠0 then
          some (c,Kf.2)
        else
          (i64 (i47+1)).bind fun i87 =>
          wo fu a Kf n i87
      else
        some (7,Kf.2)
    else
      Rm fu a Kf
def xo (fu:Nat) (a:sa) (Kf:Int×Int) (b:Bool):Option (Int×Int):=
  if b=true then
    if (6:Int)<(a.Params.length:Int) then
      some (5,Kf.2)
    else
      wo fu a Kf (a.Params.length+1) 0
  else
    Rm fu a Kf
def Sm (fu:Nat) (a:sa) (Kf:Int×Int) (b:Bool):Option (Int×Int):=
  if b=true then
    some (1,Kf.2)
  else
    (ai fu a.Name).bind fun c =>
    if c=true then
      if a.Kind=2 then
        xo fu a Kf true
      else
        xo fu a Kf (decide (a.Kind=3))
    else
      some (7,Kf.2)
def Co (fu:Nat)  (b:Int) (a:sa):Option (Int×Int):=
  (Bt b 1).bind fun Kf =>
  if Kf.1≠0 then
    some (Kf.1,Kf.2)
  else
    if a.Kind<1 then
      Sm fu a Kf true
    else
      Sm fu a Kf (decide ((4:Int)<a.Kind))
def ho (fu:Nat) (p_1:List sa):Nat→Int→Int→Option df
  | 0,_,_=>none
  | n+1,i28,i29 =>
    if i28<(p_1.length:Int) then
      (at_ p_1 i28).bind fun b =>
      (Co fu i29 b).bind fun a =>
      if a.1≠0 then
        some (df.mk a.1 i28)
      else
        (i64 (i28+1)).bind fun i69 =>
        ho fu p_1 n i69 a.2
    else
      some (df.mk 0 0)
def zo (fu:Nat)  (p_1:List sa):Option df :=
  if (30:Int)<(p_1.length:Int) then
    some (df.mk 5 0)
  else
    ho fu p_1 (p_1.length+1) 0 0
end Go.Y
namespace Go.Y
open Go.Rb Go.ec
def Zy  (a:List Dc) (c:Int) (d:Int):Option Int :=
  if (a.length:Int)=0 then
    none
  else
    (at_ a 0).bind fun b =>
    some b.Aa
def dr  (a:List Dc) (d:Int) (e:Int) (b:List UInt8):Option Bool :=
  if (0:Int)<(a.length:Int) then
    (at_ a 0).bind fun c =>
    some (decide (c.Text=b))
  else
    none
def Kh  (a:List Dc) (b:Int) (c:Int) (d:List UInt8):Option (Bool×List Dc×Int×Int):=
  (dr a b c d).bind fun e =>
  if e=true then
    (cut a 1 a.length).bind fun f =>
    some (true,f,b,c)
  else
    some (false,a,b,c)
def Sx (b:List (List UInt8)):Nat→Int→(List Dc)→Int→Int→Option (List Dc×Int×Int)
  | 0,_,_,_,_=>none
  | n+1,i30,c,i35,i36 =>
    if i30<(b.length:Int) then
      (at_ b i30).bind fun d =>
      (Kh c i35 i36 d).bind fun a =>
      if a.1=true then
        (i64 (i30+1)).bind fun i71 =>
        Sx b n i71 a.2.1 a.2.2.1 a.2.2.2
      else
        none
    else
      some (c,i35,i36)
def It  (b:List Dc) (c:Int) (d:Int) (a:List (List UInt8)):Option (List Dc×Int×Int):=
  Sx a (a.length+1) 0 b c d
def Zu (fu:Nat)  (a:List Dc) (c:Int) (d:Int):Option (List UInt8×List Dc×Int×Int):=
  if (a.length:Int)=0 then
    none
  else
    (at_ a 0).bind fun e =>
    if e.Kind≠1 then
      none
    else
      (at_ a 0).bind fun b =>
      (ai fu b.Text).bind fun f =>
      if f=true then
        (cut a 1 a.length).bind fun g =>
        some (b.Text,g,c,d)
      else
        none
def dy  (a:List Dc) (b:Int) (c:Int):Option (Int×List Dc×Int×Int):=
  if (a.length:Int)=0 then
    none
  else
    (at_ a 0).bind fun d =>
    if d.Kind≠2 then
      none
    else
      (at_ a 0).bind fun e =>
      (cut a 1 a.length).bind fun f =>
      some (e.jG,f,b,c)
def yB  (b:List Dc) (c:Int) (d:Int):Option (Sa×List Dc×Int×Int):=
  (Kh b c d [110,117,109]).bind fun a =>
  if a.1=true then
    some ((Sa.mk 1 []),a.2.1,a.2.2.1,a.2.2.2)
  else
    none
def uA  :Option (List oi):=
  some [(oi.mk (zd ([]:List (List UInt8×Int)) [111,114] 18) false),(oi.mk (zd ([]:List (List UInt8×Int)) [97,110,100] 17) false),(oi.mk (zd (zd (zd (zd (zd (zd ([]:List (List UInt8×Int)) [61,61] 11) [33,61] 12) [60] 13) [60,61] 14) [62] 15) [62,61] 16) true),(oi.mk (zd (zd ([]:List (List UInt8×Int)) [43] 6) [45] 7) false),(oi.mk (zd (zd (zd ([]:List (List UInt8×Int)) [42] 8) [47] 9) [37] 10) false)]
def By  (a:List Dc) (b:Int) (c:Int):Option (List Dc×Int×Int):=
  (i64 (c+1)).bind fun i14 =>
  if (200:Int)<i14 then
    none
  else
    some (a,b,i14)
def Oy  (a:List Dc) (b:Int) (c:Int):Option (List Dc×Int×Int):=
  (i64 (c - 1)).bind fun i12 =>
  some (a,b,i12)
end Go.Y
namespace Go.Y
open Go.Rb Go.ec
structure rp where
  aq:(List Dc)→Int→Int→Option (Da×List Dc×Int×Int)
  Eo:(List Dc)→Int→Int→Int→Option (Da×List Dc×Int×Int)
  fs:(List Dc)→Int→Int→Option (Da×List Dc×Int×Int)
  Wq:(List Dc)→Int→Int→Option (Da×List Dc×Int×Int)
def aq (self:rp) (d:List Dc) (e:Int) (f:Int):Option (Da×List Dc×Int×Int):=
  (By d e f).bind fun b =>
  (self.Eo b.1 b.2.1 b.2.2 0).bind fun a =>
  (Oy a.2.1 a.2.2.1 a.2.2.2).bind fun c =>
  some (a.1,c.1,c.2.1,c.2.2)
def Tz (a:Int) (b:List oi) (c:oi) (d:Dc) (e:(List Dc)→Int→Int→Int→Int→(List UInt8)→(List Da)→Option (Da×List Dc×Int×Int)) (f:List Dc) (i204:Int) (i205:Int) (g:List Da):Option (Da×List Dc×Int×Int):=
  (at_ b a).bind fun h =>
  if h.once=true then
    none
  else
    e f i204 i205 ((Ua c.hv d.Text).getD 0) 0 [] g
def Pv (self:rp) (b:Int) (d:List oi):Nat→(List Dc)→Int→Int→Int→Int→(List UInt8)→(List Da)→Option (Da×List Dc×Int×Int)
  | 0,_,_,_,_,_,_,_=>none
  | n+1,a,i103,i104,i105,i106,e,f =>
    if (0:Int)<(a.length:Int) then
      (at_ d b).bind fun g =>
      (at_ a 0).bind fun h =>
      if ((Ua g.hv h.Text).getD 0)=0 then
        some ((Da.mk i105 i106 e f),a,i103,i104)
      else
        (cut a 1 a.length).bind fun i =>
        (i64 (b+1)).bind fun i218 =>
        (self.Eo i i103 i104 i218).bind fun c =>
        Tz b d g h (Pv self b d n) c.2.1 c.2.2.1 c.2.2.2 [(Da.mk i105 i106 e f),c.1]
    else
      none
def Eo (fu:Nat) (self:rp) (d:List Dc) (e:Int) (f:Int) (c:Int):Option (Da×List Dc×Int×Int):=
  (uA ).bind fun g =>
  if c=(g.length:Int) then
    (self.fs d e f).bind fun b =>
    some (b.1,b.2.1,b.2.2.1,b.2.2.2)
  else
    (i64 (c+1)).bind fun i33 =>
    (self.Eo d e f i33).bind fun a =>
    Pv self c g fu a.2.1 a.2.2.1 a.2.2.2 a.1.Kind a.1.N a.1.Name a.1.Kids
def fs (self:rp) (d:List Dc) (e:Int) (f:Int):Option (Da×List Dc×Int×Int):=
  (Kh d e f [45]).bind fun a =>
  if a.1=true then
    none
  else
    (Kh a.2.1 a.2.2.1 a.2.2.2 [110,111,116]).bind fun b =>
    if b.1=true then
      none
    else
      (self.Wq b.2.1 b.2.2.1 b.2.2.2).bind fun c =>
      some (c.1,c.2.1,c.2.2.1,c.2.2.2)
def Wq (fu:Nat) (self:rp) (a:List Dc) (j:Int) (k:Int):Option (Da×List Dc×Int×Int):=
  if (0:Int)<(a.length:Int) then
    (at_ a 0).bind fun l =>
    if l.Kind=2 then
      (dy a j k).bind fun b =>
      some ((Da.mk 1 b.1 [] ([]:List Da)),b.2.1,b.2.2.1,b.2.2.2)
    else
      (Kh a j k [116,114,117,101]).bind fun c =>
      if c.1=true then
        none
      else
        (Kh c.2.1 c.2.2.1 c.2.2.2 [102,97,108,115,101]).bind fun d =>
        if d.1=true then
          none
        else
          (Kh d.2.1 d.2.2.1 d.2.2.2 [40]).bind fun e =>
          if e.1=true then
            none
          else
            (Kh e.2.1 e.2.2.1 e.2.2.2 [114,101,99,118]).bind fun f =>
            if f.1=true then
              (It f.2.1 f.2.2.1 f.2.2.2 [[40]]).bind fun h =>
              (Zu fu h.1 h.2.1 h.2.2).bind fun g =>
              (It g.2.1 g.2.2.1 g.2.2.2 [[41]]).bind fun i =>
              some ((Da.mk 20 0 g.1 ([]:List Da)),i.1,i.2.1,i.2.2)
            else
              none
  else
    none
def Ct:Nat→rp
  | 0=>⟨fun _ _ _=>none,fun _ _ _ _=>none,fun _ _ _=>none,fun _ _ _=>none⟩
  | n+1=>⟨aq (Ct n),Eo n (Ct n),fs (Ct n),Wq n (Ct n)⟩
structure Vt where
  ns:(List Dc)→Int→Int→Option (List Ea×List Dc×Int×Int)
  ps:(List Dc)→Int→Int→Option (Ea×List Dc×Int×Int)
def Tx (self:Vt):Nat→(List Dc)→Int→Int→(List Ea)→Option (List Ea×List Dc×Int×Int)
  | 0,_,_,_,_=>none
  | n+1,e,i65,i66,c =>
    (Kh e i65 i66 [125]).bind fun a =>
    if a.1=true then
      (Oy a.2.1 a.2.2.1 a.2.2.2).bind fun d =>
      some (c,d.1,d.2.1,d.2.2)
    else
      if (c.length:Int)=50 then
        none
      else
        (self.ps a.2.1 a.2.2.1 a.2.2.2).bind fun b =>
        (app c [b.1]).bind fun f =>
        Tx self n b.2.1 b.2.2.1 b.2.2.2 f
def ns (fu:Nat) (self:Vt) (c:List Dc) (d:Int) (e:Int):Option (List Ea×List Dc×Int×Int):=
  (By c d e).bind fun a =>
  (It a.1 a.2.1 a.2.2 [[123]]).bind fun b =>
  Tx self fu b.1 b.2.1 b.2.2 []
def Ux  (b:List Dc) (i28:Int) (i29:Int) (i30:Int) (c:List UInt8) (i33:Int) (i34:Int) (d:List UInt8) (e:List Da):Option (Ea×List Dc×Int×Int):=
  (It b i28 i29 [[59]]).bind fun a =>
  some ((Ea.mk i30 c (Da.mk i33 i34 d e) ([]:List Ea) ([]:List Ea)),a.1,a.2.1,a.2.2)
def ps (fu:Nat) (self:Vt) (k:List Dc) (l:Int) (m:Int):Option (Ea×List Dc×Int×Int):=
  (Kh k l m [105,102]).bind fun d =>
  if d.1=true then
    none
  else
    (Kh d.2.1 d.2.2.1 d.2.2.2 [119,104,105,108,101]).bind fun e =>
    if e.1=true then
      none
    else
      (Kh e.2.1 e.2.2.1 e.2.2.2 [108,101,116]).bind fun f =>
      if f.1=true then
        none
      else
        (Kh f.2.1 f.2.2.1 f.2.2.2 [114,101,116,117,114,110]).bind fun g =>
        if g.1=true then
          none
        else
          (Kh g.2.1 g.2.2.1 g.2.2.2 [115,116,111,112]).bind fun h =>
          if h.1=true then
            none
          else
            (Kh h.2.1 h.2.2.1 h.2.2.2 [115,101,110,100]).bind fun a =>
            if a.1=true then
              (Zu fu a.2.1 a.2.2.1 a.2.2.2).bind fun i =>
              ((Ct fu).aq i.2.1 i.2.2.1 i.2.2.2).bind fun b =>
              Ux b.2.1 b.2.2.1 b.2.2.2 7 i.1 b.1.Kind b.1.N b.1.Name b.1.Kids
            else
              (Kh a.2.1 a.2.2.1 a.2.2.2 [111,117,116]).bind fun j =>
              if j.1=true then
                ((Ct fu).aq j.2.1 j.2.2.1 j.2.2.2).bind fun c =>
                Ux c.2.1 c.2.2.1 c.2.2.2 8 [] c.1.Kind c.1.N c.1.Name c.1.Kids
              else
                none
def ey:Nat→Vt
  | 0=>⟨fun _ _ _=>none,fun _ _ _=>none⟩
  | n+1=>⟨ns n (ey n),ps n (ey n)⟩
def zB (fu:Nat)  (k:List Dc) (l:Int) (m:Int):Option (sa×List Dc×Int×Int):=
  (Zy k l m).bind fun n =>
  (Kh k l m [98,111,120]).bind fun b =>
  if b.1=true then
    (Zu fu b.2.1 b.2.2.1 b.2.2.2).bind fun d =>
    (yB d.2.1 d.2.2.1 d.2.2.2).bind fun a =>
    (Zy a.2.1 a.2.2.1 a.2.2.2).bind fun o =>
    (dy a.2.1 a.2.2.1 a.2.2.2).bind fun c =>
    if c.1<1 then
      none
    else
      if (20:Int)<c.1 then
        none
      else
        (It c.2.1 c.2.2.1 c.2.2.2 [[59]]).bind fun j =>
        some ((sa.mk 1 d.1 (Sa.mk a.1.Kind a.1.bc) (Sa.mk 0 []) c.1 ([]:List TParam) ([]:List Ea)),j.1,j.2.1,j.2.2)
  else
    (Kh b.2.1 b.2.2.1 b.2.2.2 [102,110]).bind fun e =>
    if e.1=true then
      none
    else
      (Kh e.2.1 e.2.2.1 e.2.2.2 [103,101,110]).bind fun f =>
      if f.1=true then
        none
      else
        (Kh f.2.1 f.2.2.1 f.2.2.2 [116,97,115,107]).bind fun g =>
        if g.1=true then
          (Zu fu g.2.1 g.2.2.1 g.2.2.2).bind fun h =>
          ((ey fu).ns h.2.1 h.2.2.1 h.2.2.2).bind fun i =>
          some ((sa.mk 4 h.1 (Sa.mk 0 []) (Sa.mk 0 []) 0 ([]:List TParam) i.1),i.2.1,i.2.2.1,i.2.2.2)
        else
          none
end Go.Y
namespace Go.Y
open Go.Rb Go.ec
theorem XJ {α:Type}{l:List Dc}{e d:Int}{k1 b:List UInt8}(j:¬ k1=b){A B C:Bool×List Dc×Int×Int→Option α}{r:α}
    (h:(Option.bind (Kh l e d k1) fun x=>if x.1=true then A x else Option.bind (Kh x.2.1 x.2.2.1 x.2.2.2 b) fun y=>if y.1=true then B y else C y)=some r) :
    (Option.bind (Kh l e d b) fun y=>if y.1=true then B y else Option.bind (Kh y.2.1 y.2.2.1 y.2.2.2 k1) fun x=>if x.1=true then A x else C x)=some r:=by
  have key:∀ k,(dr l e d k=some false∧Kh l e d k=some (false,l,e,d))∨(∃ t a,l=t::a∧t.Text=k∧Kh l e d k=some (true,a,e,d)):=by
    intro k;cases l with
    | nil=>first | (left; simp [dr,Kh]; done) | (exfalso; simp [dr,Kh] at h)
    | cons t a =>
      by_cases c:t.Text=k
      · right;refine ⟨t,a,rfl,c,?_⟩;have f:(0:Int)<((a.length+1:Nat):Int):=by omega
        have m:(1:Int)≤((a.length+1:Nat):Int):=by omega
        have n:cut (t::a) 1 ((t::a).length)=some a:=by
          unfold cut;rw [if_pos ⟨by omega,by simpa using m,by simp⟩];simp
        have o:dr (t::a) e d k=some true:=by
          unfold dr;rw [if_pos (by simp)];simp [at_,c]
        unfold Kh;rw [o,Option.bind_some];simp only [if_true];rw [n];rfl
      · left;have f:(0:Int)<((a.length+1:Nat):Int):=by omega
        simp [Kh,dr,at_,c,f]
  rcases key k1 with ⟨s1,i1⟩ | ⟨t,a,ia,g,i1⟩
  · rw [i1,Option.bind_some] at h;simp only [Bool.false_eq_true,if_false] at h;rcases key b with ⟨s2,i2⟩ | ⟨t,a,ia,g,i2⟩
    · rw [i2,Option.bind_some] at h ⊢;simp only [Bool.false_eq_true,if_false] at h ⊢;rw [i1,Option.bind_some];simpa using h
    · rw [i2,Option.bind_some] at h ⊢;simp only [if_true] at h ⊢;exact h
  · rw [i1,Option.bind_some] at h;simp only [if_true] at h;rcases key b with ⟨s2,i2⟩ | ⟨t2,q,i,p,i2⟩
    · rw [i2,Option.bind_some];simp only [Bool.false_eq_true,if_false];rw [i1,Option.bind_some];simpa using h
    · rw [ia] at i;obtain ⟨rfl,rfl⟩:=List.cons.inj i;exact absurd (g.symm.trans p) j
end Go.Y
namespace Go.Y
open Go.Rb Go.ec
def cF:Option Unit:=some ()
def Kz (a:(List Dc)→Int→Int→(List sa)→Option (List sa×df)) (b:List Dc) (i75:Int) (i76:Int) (c:List sa):Option (List sa×df):=
  a b i75 i76 c
def Lz (a:List Dc×df) (b:List sa):Option (List sa×df):=
  (cF ).bind fun c =>
  some (b,a.2)
def Nv (fu:Nat) (c:List Dc×df):Nat→(List Dc)→Int→Int→(List sa)→Option (List sa×df)
  | 0,_,_,_,_=>none
  | n+1,d,i41,i42,a =>
    if (0:Int)<(d.length:Int) then
      if (a.length:Int)=30 then
        none
      else
        (zB fu d i41 i42).bind fun b =>
        (app a [b.1]).bind fun e =>
        Kz (Nv fu c n) b.2.1 b.2.2.1 b.2.2.2 e
    else
      (zo fu a).bind fun f =>
      if f.Hg≠0 then
        none
      else
        Lz c a
def vA (fu:Nat)  (p_1:List UInt8):Option (List sa×df):=
  (Sz fu p_1).bind fun a =>
  if a.2.Hg≠0 then
    none
  else
    Nv fu a fu a.1 (p_1.length:Int) 0 []
end Go.Y
namespace Go.Y
open Go.Rb Go.ec
def bp  (p_1:Sa):Option Bool :=
  some (decide (p_1.Kind≠3))
def Ur  (p_1:pb) (a:Int) (p_3:List UInt8):Option (Option sa×Bool):=
  if (Ua p_1.named p_3).isSome=true then
    ((Ua p_1.named p_3)).bind fun b =>
    some ((Ua p_1.named p_3),decide (b.Kind=a))
  else
    some ((Ua p_1.named p_3),false)
def Sp  (p_1:pb) (a:Sa):Option Int :=
  (bp a).bind fun b =>
  if b=true then
    some 0
  else
    (Ur p_1 3 a.bc).bind fun c =>
    if c.2=true then
      some 0
    else
      some 7
def qx (p_1:Sa) (a:List UInt8):Option Sa :=
  some (Sa.mk p_1.Kind a)
def Pp  (p_1:Sa):Option Sa :=
  (bp p_1).bind fun a =>
  if a=true then
    qx p_1 []
  else
    qx p_1 p_1.bc
def Vk  :Option Sa :=
  some (Sa.mk 1 [])
def gj  :Option Sa :=
  some (Sa.mk 2 [])
def Mr (a:List UInt8) (b:List (List (List UInt8×Sa))):Nat→Int→Option (Sa×Bool)
  | 0,_=>none
  | n+1,i48 =>
    if (0:Int)≤i48 then
      (at_ b i48).bind fun c =>
      if (Ua c a).isSome=true then
        some (((Ua c a).getD (Sa.mk 0 [])),true)
      else
        (i64 (i48 - 1)).bind fun i88 =>
        Mr a b n i88
    else
      some ((Sa.mk 0 []),false)
def cp (fu:Nat)  (c:pb) (d:sa) (a:List (List (List UInt8×Sa))) (b:List UInt8):Option (Sa×Bool):=
  (i64 ((a.length:Int) - 1)).bind fun i27 =>
  Mr b a fu i27
structure ll where
  Rg:pb→sa→(List (List (List UInt8×Sa)))→Da→Sa→Option Int
  Lj:pb→sa→(List (List (List UInt8×Sa)))→Da→Int→Option (Option sa×Int)
  yk:pb→sa→(List (List (List UInt8×Sa)))→Da→Option (Sa×Int)
  Kj:pb→sa→(List (List (List UInt8×Sa)))→Da→Option (Option sa×Int)
  Ah:pb→sa→(List (List (List UInt8×Sa)))→Da→Option (Sa×Int)
def lx  (i44:Int):Option Int :=
  some i44
def Jv (a:Sa×Int) (b:Bool):Option Int :=
  if b=true then
    lx 9
  else
    lx a.2
def Rg (self:ll) (c:pb) (d:sa) (e:List (List (List UInt8×Sa))) (f:Da) (p_3:Sa):Option Int :=
  (self.Ah c d e f).bind fun a =>
  if a.2=0 then
    (Pp p_3).bind fun b =>
    Jv a (!(jk [(decide (a.1.Kind=b.Kind)),(decide (a.1.bc=b.bc))]))
  else
    Jv a false
def jo (self:ll) (b:Da) (c:pb) (d:sa) (e:List (List (List UInt8×Sa))) (f:Option sa×Bool) (a:sa):Nat→Int→Option (Option sa×Int)
  | 0,_=>none
  | n+1,i104 =>
    if i104<(a.Params.length:Int) then
      (at_ a.Params i104).bind fun h =>
      (at_ b.Kids i104).bind fun i =>
      (self.Rg c d e i h.vb).bind fun g =>
      if g≠0 then
        some (none,g)
      else
        (i64 (i104+1)).bind fun i158 =>
        jo self b c d e f a n i158
    else
      some (f.1,0)
def kt (self:ll) (c:Da) (d:pb) (e:sa) (f:List (List (List UInt8×Sa))) (a:Option sa×Bool) (g:Bool):Option (Option sa×Int):=
  if g=true then
    some (none,5)
  else
    (a.1).bind fun b =>
    jo self c d e f a b (b.Params.length+1) 0
def Lj (self:ll) (c:pb) (d:sa) (e:List (List (List UInt8×Sa))) (a:Da) (p_3:Int):Option (Option sa×Int):=
  (Ur c p_3 a.Name).bind fun b =>
  if b.2=true then
    (b.1).bind fun f =>
    kt self a c d e b (decide ((f.Params.length:Int)≠(a.Kids.length:Int)))
  else
    some (none,7)
def sx (a:Sa×Int) (i73:Int):Option (Sa×Int):=
  some (a.1,i73)
def nt (a:Sa×Int) (b:Sa×Int) (c:Bool):Option (Sa×Int):=
  if c=true then
    sx a 9
  else
    sx a b.2
def yk (self:ll) (c:pb) (d:sa) (e:List (List (List UInt8×Sa))) (f:Da):Option (Sa×Int):=
  (at_ f.Kids 0).bind fun g =>
  (self.Ah c d e g).bind fun a =>
  if a.2≠0 then
    some (a.1,a.2)
  else
    (at_ f.Kids 1).bind fun h =>
    (self.Ah c d e h).bind fun b =>
    if b.2=0 then
      if (jk [(decide (a.1.Kind=b.1.Kind)),(decide (a.1.bc=b.1.bc))])=true then
        (bp a.1).bind fun i =>
        nt a b (!i)
      else
        nt a b true
    else
      nt a b false
def Kj (self:ll) (b:pb) (c:sa) (d:List (List (List UInt8×Sa))) (e:Da):Option (Option sa×Int):=
  (self.Ah b c d e).bind fun a =>
  if a.2≠0 then
    some (none,a.2)
  else
    (bp a.1).bind fun f =>
    if f=true then
      some (none,9)
    else
      some ((Ua b.named a.1.bc),0)
def Ez  (i52:Int) (i53:Int) (a:List UInt8):Option (Sa×Int):=
  some ((Sa.mk i53 a),i52)
def Fz  (i77:Int) (i78:Int) (a:List UInt8):Option (Sa×Int):=
  some ((Sa.mk i78 a),i77)
def Gz  (i170:Int) (i171:Int) (a:List UInt8):Option (Sa×Int):=
  some ((Sa.mk i171 a),i170)
def Hz  (i218:Int) (i219:Int) (a:List UInt8):Option (Sa×Int):=
  some ((Sa.mk i219 a),i218)
def ko (self:ll) (a:Da) (c:pb) (d:sa) (e:List (List (List UInt8×Sa))) (i282:Int) (f:List UInt8) (i284:Int) (b:List UInt8):Nat→Int→Option (Sa×Int)
  | 0,_=>none
  | n+1,i314 =>
    if i314<(a.Kids.length:Int) then
      (at_ a.Kids i314).bind fun h =>
      (self.Rg c d e h (Sa.mk i282 f)).bind fun g =>
      if g≠0 then
        some ((Sa.mk i284 b),g)
      else
        (i64 (i314+1)).bind fun i348 =>
        ko self a c d e i282 f i284 b n i348
    else
      some ((Sa.mk i284 b),0)
def Yo (self:ll) (a:Da) (b:pb) (c:sa) (d:List (List (List UInt8×Sa))) (i282:Int) (e:List UInt8) (i284:Int) (f:List UInt8):Option (Sa×Int):=
  ko self a b c d i282 e i284 f (a.Kids.length+1) 0
def lo (self:ll) (a:Da) (c:pb) (b:sa) (d:List (List (List UInt8×Sa))) (p:Bool):Option (Sa×Int):=
  if p=true then
    (self.yk c b d a).bind fun q =>
    (gj ).bind fun r =>
    some (r,q.2)
  else
    if a.Kind=19 then
      (self.Lj c b d a 2).bind fun f =>
      if f.2≠0 then
        (Vk ).bind fun s =>
        some (s,f.2)
      else
        (f.1).bind fun t =>
        (Pp t.vb).bind fun u =>
        some (u,0)
    else
      if a.Kind=20 then
        (Ur c 1 a.Name).bind fun h =>
        if h.2=true then
          (h.1).bind fun v =>
          (Pp v.vb).bind fun w =>
          some (w,0)
        else
          (Vk ).bind fun x =>
          some (x,7)
      else
        if a.Kind=21 then
          if b.Kind≠3 then
            (Vk ).bind fun y =>
            some (y,8)
          else
            (at_ a.Kids 0).bind fun z =>
            (Pp b.Cd).bind fun i =>
            (self.Rg c b d z b.vb).bind fun A =>
            Gz A i.Kind i.bc
        else
          if a.Kind=22 then
            (self.Lj c b d a 3).bind fun B =>
            some ((Sa.mk 3 a.Name),B.2)
          else
            if a.Kind=23 then
              (at_ a.Kids 0).bind fun C =>
              (self.Kj c b d C).bind fun g =>
              if g.2≠0 then
                (Vk ).bind fun D =>
                some (D,g.2)
              else
                (g.1).bind fun j =>
                (at_ a.Kids 1).bind fun E =>
                (Pp j.vb).bind fun k =>
                (self.Rg c b d E j.Cd).bind fun F =>
                Hz F k.Kind k.bc
            else
              if a.Kind=24 then
                (at_ a.Kids 0).bind fun G =>
                (self.Kj c b d G).bind fun H =>
                (gj ).bind fun K =>
                some (K,H.2)
              else
                (Vk ).bind fun e =>
                (Vk ).bind fun l =>
                if (17:Int)≤a.Kind then
                  (gj ).bind fun m =>
                  (gj ).bind fun n =>
                  Yo self a c b d m.Kind m.bc n.Kind n.bc
                else
                  if (13:Int)≤a.Kind then
                    (gj ).bind fun o =>
                    Yo self a c b d e.Kind e.bc o.Kind o.bc
                  else
                    Yo self a c b d e.Kind e.bc l.Kind l.bc
def Ah (fu:Nat) (self:ll) (b:pb) (c:sa) (d:List (List (List UInt8×Sa))) (a:Da):Option (Sa×Int):=
  if a.Kind=1 then
    (Vk ).bind fun h =>
    some (h,0)
  else
    if a.Kind=2 then
      (gj ).bind fun i =>
      some (i,0)
    else
      if a.Kind=3 then
        (cp fu b c d a.Name).bind fun e =>
        if e.2=true then
          some (e.1,0)
        else
          (Vk ).bind fun j =>
          some (j,7)
      else
        if a.Kind=4 then
          (at_ a.Kids 0).bind fun k =>
          (Vk ).bind fun f =>
          (Vk ).bind fun l =>
          (self.Rg b c d k l).bind fun m =>
          Ez m f.Kind f.bc
        else
          if a.Kind=5 then
            (at_ a.Kids 0).bind fun n =>
            (gj ).bind fun g =>
            (gj ).bind fun o =>
            (self.Rg b c d n o).bind fun p =>
            Fz p g.Kind g.bc
          else
            if a.Kind=11 then
              lo self a b c d (decide (a.Kind=11))
            else
              lo self a b c d (decide (a.Kind=12))
def se:Nat→ll
  | 0=>⟨fun _ _ _ _ _=>none,fun _ _ _ _ _=>none,fun _ _ _ _=>none,fun _ _ _ _=>none,fun _ _ _ _=>none⟩
  | n+1=>⟨Rg (se n),Lj (se n),yk (se n),Kj (se n),Ah n (se n)⟩
end Go.Y
namespace Go.Y
open Go.Rb Go.ec
def Bx  (a:List (List (List UInt8×Sa))):Option (List (List (List UInt8×Sa))):=
  some a
def Tp  (c:pb) (d:sa) (a:List (List (List UInt8×Sa))):Option (List (List (List UInt8×Sa))):=
  (i64 ((a.length:Int) - 1)).bind fun i33 =>
  (cut a 0 i33).bind fun b =>
  Bx b
structure dq where
  ij:pb→sa→(List (List (List UInt8×Sa)))→(List Ea)→Option (Int×List (List (List UInt8×Sa)))
  zk:pb→sa→(List (List (List UInt8×Sa)))→Ea→Option (Int×List (List (List UInt8×Sa)))
def eo (self:dq) (d:List Ea) (a:pb) (b:sa):Nat→Int→(List (List (List UInt8×Sa)))→Option (Int×List (List (List UInt8×Sa)))
  | 0,_,_=>none
  | n+1,i74,e =>
    if i74<(d.length:Int) then
      (at_ d i74).bind fun f =>
      (self.zk a b e f).bind fun c =>
      if c.1≠0 then
        (Tp a b c.2).bind fun g =>
        some (c.1,g)
      else
        (i64 (i74+1)).bind fun i137 =>
        eo self d a b n i137 c.2
    else
      (Tp a b e).bind fun h =>
      some (0,h)
def ht (self:dq) (a:List Ea) (b:pb) (c:sa) (d:List (List (List UInt8×Sa))):Option (Int×List (List (List UInt8×Sa))):=
  eo self a b c (a.length+1) 0 d
def ij (self:dq) (a:pb) (b:sa) (c:List (List (List UInt8×Sa))) (d:List Ea):Option (Int×List (List (List UInt8×Sa))):=
  (app c [[]]).bind fun e =>
  ht self d a b e
def ot  (a:List (List (List UInt8×Sa))):Option (Int×List (List (List UInt8×Sa))):=
  some (0,a)
def Ip (self:dq) (c:Ea) (d:pb) (e:sa) (a:Int×List (List (List UInt8×Sa))) (f:Bool):Option (Int×List (List (List UInt8×Sa))):=
  if f=true then
    some (a.1,a.2)
  else
    (self.ij d e a.2 c.me).bind fun b =>
    some (b.1,b.2)
def tx (a:List (List (List UInt8×Sa))) (i153:Int):Option (Int×List (List (List UInt8×Sa))):=
  some (i153,a)
def Kv (a:List (List (List UInt8×Sa))) (b:Sa×Int) (c:Bool):Option (Int×List (List (List UInt8×Sa))):=
  if c=true then
    tx a 9
  else
    tx a b.2
def mo (fu:Nat) (self:dq) (b:Ea) (d:pb) (c:sa) (a:List (List (List UInt8×Sa))) (i:Bool):Option (Int×List (List (List UInt8×Sa))):=
  if i=true then
    (gj ).bind fun j =>
    ((se fu).Rg d c a b.X j).bind fun g =>
    if g≠0 then
      some (g,a)
    else
      (self.ij d c a b.Body).bind fun f =>
      if f.1≠0 then
        Ip self b d c f true
      else
        Ip self b d c f (decide (b.Kind=4))
  else
    if b.Kind=5 then
      if c.Kind≠2 then
        some (8,a)
      else
        ((se fu).Rg d c a b.X c.vb).bind fun k =>
        some (k,a)
    else
      if b.Kind=6 then
        if c.Kind=2 then
          some (8,a)
        else
          ot a
      else
        if b.Kind=7 then
          (Ur d 1 b.Name).bind fun h =>
          if h.2=true then
            (h.1).bind fun l =>
            ((se fu).Rg d c a b.X l.vb).bind fun m =>
            some (m,a)
          else
            some (7,a)
        else
          if b.Kind=8 then
            ((se fu).Ah d c a b.X).bind fun e =>
            if e.2=0 then
              (bp e.1).bind fun n =>
              Kv a e (!n)
            else
              Kv a e false
          else
            if b.Kind=9 then
              ((se fu).Ah d c a b.X).bind fun o =>
              some (o.2,a)
            else
              ot a
def zk (fu:Nat) (self:dq) (c:pb) (d:sa) (a:List (List (List UInt8×Sa))) (b:Ea):Option (Int×List (List (List UInt8×Sa))):=
  if b.Kind=1 then
    ((se fu).Ah c d a b.X).bind fun e =>
    if e.2≠0 then
      some (e.2,a)
    else
      (cp fu c d a b.Name).bind fun g =>
      if g.2=true then
        some (7,a)
      else
        (i64 ((a.length:Int) - 1)).bind fun i57 =>
        (at_ a i57).bind fun h =>
        ot (a.set i57.toNat (zd h b.Name e.1))
  else
    if b.Kind=2 then
      (cp fu c d a b.Name).bind fun f =>
      if f.2=true then
        ((se fu).Rg c d a b.X f.1).bind fun i =>
        some (i,a)
      else
        some (7,a)
    else
      if b.Kind=3 then
        mo fu self b c d a (decide (b.Kind=3))
      else
        mo fu self b c d a (decide (b.Kind=4))
def di:Nat→dq
  | 0=>⟨fun _ _ _ _=>none,fun _ _ _ _=>none⟩
  | n+1=>⟨ij (di n),zk n (di n)⟩
def Nr  (a:Bool):Option Int :=
  if a=true then
    some 9
  else
    some 0
def Jp (a:sa):Option Int :=
  if a.Kind=3 then
    (bp a.Cd).bind fun b =>
    if b=true then
      if a.Kind≠4 then
        (bp a.vb).bind fun c =>
        Nr (!c)
      else
        Nr false
    else
      Nr true
  else
    if a.Kind≠4 then
      (bp a.vb).bind fun d =>
      Nr (!d)
    else
      Nr false
def Kp (p_1:pb) (b:sa):Nat→Int→(List (List UInt8×Int))→Option Int
  | 0,_,_=>none
  | n+1,i48,c =>
    if i48<(b.Params.length:Int) then
      (at_ b.Params i48).bind fun a =>
      (i64 (((Ua c a.Name).getD 0)+1)).bind fun i92 =>
      if (1:Int)<((Ua (zd c a.Name i92) a.Name).getD 0) then
        some 7
      else
        (Sp p_1 a.vb).bind fun d =>
        if d≠0 then
          some d
        else
          (i64 (i48+1)).bind fun i104 =>
          Kp p_1 b n i104 (zd c a.Name i92)
    else
      Jp b
def Lp (p_1:pb) (a:sa) (b:Bool):Option Int :=
  if b=true then
    Kp p_1 a (a.Params.length+1) 0 ([]:List (List UInt8×Int))
  else
    Jp a
def Qp  (p_1:pb) (a:sa):Option Int :=
  if a.Kind=2 then
    Lp p_1 a true
  else
    Lp p_1 a (decide (a.Kind=3))
def oo (fu:Nat) (p_1:pb) (a:sa) (b:List (List (List UInt8×Sa))):Option Int :=
  ((di fu).ij p_1 a b a.Body).bind fun c =>
  some c.1
def pt (i63:Int) (a:Int→(List (List (List UInt8×Sa)))→Option Int) (b:List (List (List UInt8×Sa))):Option Int :=
  (i64 (i63+1)).bind fun i135 =>
  a i135 b
def vn (fu:Nat) (p_1:pb) (a:sa):Nat→Int→(List (List (List UInt8×Sa)))→Option Int
  | 0,_,_=>none
  | n+1,i63,b =>
    if i63<(a.Params.length:Int) then
      (at_ a.Params i63).bind fun c =>
      (at_ b 0).bind fun d =>
      (Pp c.vb).bind fun e =>
      pt i63 (vn fu p_1 a n) (b.set (0:Int).toNat (zd d c.Name e))
    else
      oo fu p_1 a b
def Tm (fu:Nat)  (p_1:pb) (a:sa):Option Int :=
  if a.Kind=1 then
    some 0
  else
    if a.Kind≠4 then
      vn fu p_1 a (a.Params.length+1) 0 [([]:List (List UInt8×Sa))]
    else
      oo fu p_1 a [([]:List (List UInt8×Sa))]
def rn (fu:Nat) (p_1:List sa) (a:List (List UInt8×sa)):Nat→Int→Option (pb×df)
  | 0,_=>none
  | n+1,i329 =>
    if i329<(p_1.length:Int) then
      (at_ p_1 i329).bind fun c =>
      (Tm fu (pb.mk p_1 a) c).bind fun b =>
      if b≠0 then
        some ((pb.mk p_1 a),(df.mk b i329))
      else
        (i64 (i329+1)).bind fun i369 =>
        rn fu p_1 a n i369
    else
      some ((pb.mk p_1 a),(df.mk 0 0))
def sn (fu:Nat) (p_1:List sa) (a:List (List UInt8×sa)):Nat→Int→Option (pb×df)
  | 0,_=>none
  | n+1,i270 =>
    if i270<(p_1.length:Int) then
      (at_ p_1 i270).bind fun c =>
      (Qp (pb.mk p_1 a) c).bind fun b =>
      if b≠0 then
        some ((pb.mk p_1 a),(df.mk b i270))
      else
        (i64 (i270+1)).bind fun i310 =>
        sn fu p_1 a n i310
    else
      rn fu p_1 a (p_1.length+1) 0
def tn (fu:Nat) (p_1:List sa):Nat→Int→Int→(List (List UInt8×sa))→Option (pb×df)
  | 0,_,_,_=>none
  | n+1,i94,i95,a =>
    if i95<(p_1.length:Int) then
      (at_ p_1 i95).bind fun d =>
      if (Ua a d.Name).isSome=true then
        some ((pb.mk p_1 a),(df.mk 7 i95))
      else
        (at_ p_1 i95).bind fun b =>
        (at_ p_1 i95).bind fun c =>
        (at_ p_1 i95).bind fun e =>
        if e.Kind=4 then
          (i64 (i94+1)).bind fun i236 =>
          (i64 (i95+1)).bind fun i238 =>
          tn fu p_1 n i236 i238 (zd a b.Name c)
        else
          (i64 (i95+1)).bind fun i240 =>
          tn fu p_1 n i94 i240 (zd a b.Name c)
    else
      if i94=0 then
        some ((pb.mk p_1 a),(df.mk 6 (p_1.length:Int)))
      else
        sn fu p_1 a (p_1.length+1) 0
def yo (fu:Nat)  (p_1:List sa):Option (pb×df):=
  (zo fu p_1).bind fun a =>
  if a.Hg≠0 then
    some ((pb.mk p_1 ([]:List (List UInt8×sa))),a)
  else
    tn fu p_1 (p_1.length+1) 0 0 ([]:List (List UInt8×sa))
end Go.Y
namespace Go.Y
open Go.Rb Go.ec
structure ir where
  Cn:(List (List UInt8))→(List (List UInt8))→(List (List UInt8))→Da→Option (List (List UInt8)×List (List UInt8)×List (List UInt8))
def vu (self:ir) (a:Da):Nat→Int→(List (List UInt8))→(List (List UInt8))→(List (List UInt8))→Option (List (List UInt8)×List (List UInt8)×List (List UInt8))
  | 0,_,_,_,_=>none
  | n+1,i96,c,d,e =>
    if i96<(a.Kids.length:Int) then
      (at_ a.Kids i96).bind fun f =>
      (self.Cn c d e f).bind fun b =>
      (i64 (i96+1)).bind fun i162 =>
      vu self a n i162 b.1 b.2.1 b.2.2
    else
      some (c,d,e)
def qt (self:ir) (a:Da) (b:List (List UInt8)) (c:List (List UInt8)) (d:List (List UInt8)):Option (List (List UInt8)×List (List UInt8)×List (List UInt8)):=
  vu self a (a.Kids.length+1) 0 c b d
def ux (self:ir) (a:Da) (b:List (List UInt8)) (c:List (List UInt8)) (d:List (List UInt8)):Option (List (List UInt8)×List (List UInt8)×List (List UInt8)):=
  qt self a b d c
def vx (self:ir) (a:List (List UInt8)) (b:Da) (c:List (List UInt8)) (d:List (List UInt8)):Option (List (List UInt8)×List (List UInt8)×List (List UInt8)):=
  qt self b c a d
def wu (self:ir) (b:List (List UInt8)) (a:Da) (c:List (List UInt8)) (d:List (List UInt8)) (e:Bool):Option (List (List UInt8)×List (List UInt8)×List (List UInt8)):=
  if e=true then
    (app b [a.Name]).bind fun f =>
    ux self a c d f
  else
    if a.Kind=20 then
      (app d [a.Name]).bind fun g =>
      vx self b a c g
    else
      qt self a c b d
def Cn (self:ir) (b:List (List UInt8)) (c:List (List UInt8)) (d:List (List UInt8)) (a:Da):Option (List (List UInt8)×List (List UInt8)×List (List UInt8)):=
  if a.Kind=19 then
    wu self b a c d (decide (a.Kind=19))
  else
    wu self b a c d (decide (a.Kind=22))
def Vr:Nat→ir
  | 0=>⟨fun _ _ _ _=>none⟩
  | n+1=>⟨Cn (Vr n)⟩
structure fq where
  Jl:(List (List UInt8))→(List (List UInt8))→(List (List UInt8))→(List Ea)→Option (List (List UInt8)×List (List UInt8)×List (List UInt8))
def qu (self:fq) (i130:Int) (b:Ea) (c:Int→(List (List UInt8))→(List (List UInt8))→(List (List UInt8))→Option (List (List UInt8)×List (List UInt8)×List (List UInt8))) (d:List (List UInt8)) (e:List (List UInt8)) (f:List (List UInt8)):Option (List (List UInt8)×List (List UInt8)×List (List UInt8)):=
  if b.Kind=3 then
    (self.Jl d e f b.me).bind fun a =>
    (i64 (i130+1)).bind fun i363 =>
    c i363 a.1 a.2.1 a.2.2
  else
    (i64 (i130+1)).bind fun i365 =>
    c i365 d e f
def ru (self:fq) (i130:Int) (a:Ea) (c:List (List UInt8)) (d:List (List UInt8)) (e:List (List UInt8)) (f:Int→(List (List UInt8))→(List (List UInt8))→(List (List UInt8))→Option (List (List UInt8)×List (List UInt8)×List (List UInt8))) (g:Bool):Option (List (List UInt8)×List (List UInt8)×List (List UInt8)):=
  if g=true then
    (self.Jl c d e a.Body).bind fun b =>
    qu self i130 a f b.1 b.2.1 b.2.2
  else
    qu self i130 a f c d e
def su (self:fq) (i130:Int) (a:Ea) (b:Int→(List (List UInt8))→(List (List UInt8))→(List (List UInt8))→Option (List (List UInt8)×List (List UInt8)×List (List UInt8))) (c:List (List UInt8)) (d:List (List UInt8)) (e:List (List UInt8)):Option (List (List UInt8)×List (List UInt8)×List (List UInt8)):=
  if a.Kind=3 then
    ru self i130 a c d e b true
  else
    ru self i130 a c d e b (decide (a.Kind=4))
def tu (fu:Nat) (self:fq) (i130:Int) (c:List (List UInt8)) (d:List (List UInt8)) (a:Ea) (e:Int→(List (List UInt8))→(List (List UInt8))→(List (List UInt8))→Option (List (List UInt8)×List (List UInt8)×List (List UInt8))) (f:List (List UInt8)):Option (List (List UInt8)×List (List UInt8)×List (List UInt8)):=
  if a.Kind≠6 then
    ((Vr fu).Cn c f d a.X).bind fun b =>
    su self i130 a e b.1 b.2.1 b.2.2
  else
    su self i130 a e c f d
def mx (fu:Nat) (self:fq) (i130:Int) (a:List (List UInt8)) (b:List (List UInt8)) (c:Ea) (d:Int→(List (List UInt8))→(List (List UInt8))→(List (List UInt8))→Option (List (List UInt8)×List (List UInt8)×List (List UInt8))) (e:List (List UInt8)):Option (List (List UInt8)×List (List UInt8)×List (List UInt8)):=
  tu fu self i130 a b c d e
def Hl (fu:Nat) (self:fq) (a:List Ea):Nat→Int→(List (List UInt8))→(List (List UInt8))→(List (List UInt8))→Option (List (List UInt8)×List (List UInt8)×List (List UInt8))
  | 0,_,_,_,_=>none
  | n+1,i130,c,d,e =>
    if i130<(a.length:Int) then
      (at_ a i130).bind fun b =>
      if b.Kind=7 then
        (app d [b.Name]).bind fun f =>
        mx fu self i130 c e b (Hl fu self a n) f
      else
        tu fu self i130 c e b (Hl fu self a n) d
    else
      some (c,d,e)
def Jl (fu:Nat) (self:fq) (b:List (List UInt8)) (c:List (List UInt8)) (d:List (List UInt8)) (a:List Ea):Option (List (List UInt8)×List (List UInt8)×List (List UInt8)):=
  Hl fu self a (a.length+1) 0 b c d
def mm:Nat→fq
  | 0=>⟨fun _ _ _ _=>none⟩
  | n+1=>⟨Jl n (mm n)⟩
def jt (p_1:pb) (a:List (List UInt8)×List (List UInt8)×List (List UInt8)) (d:List (List UInt8)) (e:List (List UInt8)) (f:(List (List UInt8))→(List (Option sa))→(List (List UInt8))→(List (List UInt8))→Option jf):Nat→Int→(List (List UInt8))→(List (Option sa))→Option jf
  | 0,_,_,_=>none
  | n+1,b,c,g =>
    if b<(a.1.length:Int) then
      (at_ a.1 b).bind fun h =>
      if c.contains h=true then
        (i64 (b+1)).bind fun i =>
        jt p_1 a d e f n i c g
      else
        (app c [h]).bind fun j =>
        (app g [(Ua p_1.named h)]).bind fun k =>
        (i64 (b+1)).bind fun l =>
        jt p_1 a d e f n l j k
    else
      f c g d e
def nx (p_1:pb) (b:List (List UInt8)) (c:List (Option sa)) (a:List (List UInt8)×List (List UInt8)×List (List UInt8)) (d:(List (List UInt8))→(List (Option sa))→(List (List UInt8))→(List (List UInt8))→Option jf) (g:List (List UInt8)) (h:List (List UInt8)) (e:List (List UInt8)) (f:List (List UInt8)):Option jf :=
  jt p_1 a e f d (a.1.length+1) 0 b c
def Lr (fu:Nat) (p_1:pb):Nat→(List (List UInt8))→(List (Option sa))→(List (List UInt8))→(List (List UInt8))→Option jf
  | 0,_,_,_,_=>none
  | n+1,e,b,c,d =>
    if (0:Int)<(b.length:Int) then
      (at_ b 0).bind fun f =>
      (cut b 1 b.length).bind fun g =>
      (f).bind fun h =>
      ((mm fu).Jl ([]:List (List UInt8)) ([]:List (List UInt8)) ([]:List (List UInt8)) h.Body).bind fun a =>
      (app c a.2.1).bind fun i =>
      (app d a.2.2).bind fun j =>
      nx p_1 e g a (Lr fu p_1 n) a.2.1 a.2.2 i j
    else
      some (jf.mk ([]:List (List UInt8)) c d)
def Kx (fu:Nat)  (p_1:pb) (a:sa):Option jf :=
  Lr fu p_1 fu ([]:List (List UInt8)) ([(some a)]:List (Option sa)) [] []
def jx (i88:Int) (a:Int→(List (List UInt8×jf))→Option (List Rh×df)) (b:List (List UInt8×jf)):Option (List Rh×df):=
  (i64 (i88+1)).bind fun i223 =>
  a i223 b
def nu (a:Int) (b:List UInt8) (c:Int→(List UInt8)→(List UInt8)→Option (List Rh×df)) (d:List UInt8):Option (List Rh×df):=
  (i64 (a+1)).bind fun e =>
  c e b d
def ou (f:List (List UInt8×jf)) (g:Int) (h:sa) (a:Int) (b:List UInt8) (c:sa) (d:Int→(List UInt8)→(List UInt8)→Option (List Rh×df)) (e:List UInt8):Option (List Rh×df):=
  if (((Ua f c.Name).getD (jf.mk ([]:List (List UInt8)) ([]:List (List UInt8)) ([]:List (List UInt8)))).Rj).contains h.Name=true then
    if b≠[] then
      some (([]:List Rh),(df.mk 8 g))
    else
      nu a e d c.Name
  else
    nu a e d b
def Wo (p_1:List sa) (c:List (List UInt8×jf)) (a:Int) (f:List Rh) (b:sa) (g:Int→(List Rh)→Option (List Rh×df)):Nat→Int→(List UInt8)→(List UInt8)→Option (List Rh×df)
  | 0,_,_,_=>none
  | n+1,d,h,i =>
    if d<(p_1.length:Int) then
      (at_ p_1 d).bind fun e =>
      if e.Kind≠4 then
        (i64 (d+1)).bind fun j =>
        Wo p_1 c a f b g n j h i
      else
        if (((Ua c e.Name).getD (jf.mk ([]:List (List UInt8)) ([]:List (List UInt8)) ([]:List (List UInt8)))).Dk).contains b.Name=true then
          if h≠[] then
            some (([]:List Rh),(df.mk 8 a))
          else
            ou c a b d i e (Wo p_1 c a f b g n) e.Name
        else
          ou c a b d i e (Wo p_1 c a f b g n) h
    else
      (app f [(Rh.mk b.Name h i)]).bind fun k =>
      (i64 (a+1)).bind fun l =>
      g l k
def Hp (p_1:List sa) (b:List (List UInt8×jf)):Nat→Int→(List Rh)→Option (List Rh×df)
  | 0,_,_=>none
  | n+1,a,c =>
    if a<(p_1.length:Int) then
      (at_ p_1 a).bind fun d =>
      if d.Kind≠1 then
        (i64 (a+1)).bind fun e =>
        Hp p_1 b n e c
      else
        Wo p_1 b a c d (Hp p_1 b n) (p_1.length+1) 0 [] []
    else
      some (c,(df.mk 0 0))
def Kr (fu:Nat) (p_1:List sa) (a:pb×df):Nat→Int→(List (List UInt8×jf))→Option (List Rh×df)
  | 0,_,_=>none
  | n+1,i88,b =>
    if i88<(p_1.length:Int) then
      (at_ p_1 i88).bind fun c =>
      if c.Kind=4 then
        (at_ p_1 i88).bind fun d =>
        (at_ p_1 i88).bind fun e =>
        (Kx fu a.1 e).bind fun f =>
        jx i88 (Kr fu p_1 a n) (zd b d.Name f)
      else
        (i64 (i88+1)).bind fun i225 =>
        Kr fu p_1 a n i225 b
    else
      Hp p_1 b (p_1.length+1) 0 []
def Uq (fu:Nat)  (p_1:List sa):Option (List Rh×df):=
  (yo fu p_1).bind fun a =>
  if a.2.Hg≠0 then
    some (([]:List Rh),a.2)
  else
    Kr fu p_1 a (p_1.length+1) 0 ([]:List (List UInt8×jf))
def Vq (fu:Nat)  (p_1:List sa):Option df :=
  (Uq fu p_1).bind fun a =>
  some a.2
end Go.Y
namespace Go.Y
open Go.Rb Go.ec
abbrev Te:=List UInt8
mutual
inductive ff where
  | all (l:List Da) (s:Option Nat) (Sd:List Int) (k:gl)
  | stat (l:List Ea) (s:Option Nat) (e:lh) (k:xe)
  | rf (x:Ea) (s:Option Nat) (e:lh) (k:xe)
inductive gl where
  | ex (x:Da) (k:ff)
inductive xe where
  | zero (k:ff)
  | recv (n:Te) (k:ff)
  | send (n:Te) (v:Int) (k:xe)
  | done (g:Nat)
  | stats (l:List Ea) (s:Option Nat) (e:lh) (k:xe)
  | rf (x:Ea) (s:Option Nat) (e:lh) (k:xe)
  | fin
  | Ti (d:sa)
inductive lh where
  | ret (k:ff)
  | stop (k:xe)
end
structure hi where
  name:Te
  v:Int
  up:Option Nat
structure Vg where
  Cm:sa
  args:Option Nat
  begun:Bool
  going:Bool
  ended:Bool
  up:Option Nat
  back:Option ff
  Ck:Option ff
structure Pd where
  cap:Int
  words:List Int
structure Qd where
  ue:List hi
  Tb:List Vg
  now:Nat
  Yl:Option xe
  state:Int
  box:Int
  Fe:Int
  out:List Int
structure oe where
  defs:List (Te×sa)
  order:List (Te×Int)
structure Zc where
  t:Qd
  boxes:List Pd
  nodes:Int
inductive kh where
  | expr (x:Da) (s:Option Nat) (k:ff)
  | all (l:List Da) (s:Option Nat) (Sd:List Int) (k:gl)
  | stats (l:List Ea) (s:Option Nat) (e:lh) (k:xe)
  | rf (x:Ea) (s:Option Nat) (e:lh) (k:xe)
  | gf (k:ff) (v:Int)
  | Sd (k:gl) (l:List Int)
  | Hd (k:xe)
  | recv (n:Te) (k:ff)
  | send (n:Te) (v:Int) (k:xe)
  | resume (g:Nat) (v:Int) (k:ff)
inductive nk where
  | call (c:kh) (x:Zc)
  | ret (k:Option xe) (x:Zc)
  | rr
def tm (S:List hi) (n:Te):Nat→Option Nat→Option Nat
  | 0,_=>none
  | _+1,none=>none
  | fu+1,some i=>(S[i]?).bind fun c=>if c.name=n then some i else tm S n fu c.up
def Oj:List TParam→List Int→List hi→Option Nat→Option (List hi×Option Nat)
  | [],_,S,s=>some (S,s)
  | p::Nf,[],_,_=>none
  | p::Nf,v::vs,S,s=>Oj Nf vs (S++[⟨p.Name,v,s⟩]) (some S.length)
def ik (b:Bool):Int:=if b then 1 else 0
def Ln (k a b:Int):Option Int :=
  let whole:=a=-9223372036854775808∧b=-1
  if k=6 then some (Fm (a+b)) else
  if k=7 then some (Fm (a - b)) else
  if k=8 then some (Fm (a*b)) else
  if k=9 then (if whole then some a else quo a b) else
  if k=10 then (if whole then some 0 else lv a b) else
  if k=11 then some (ik (decide (a=b))) else
  if k=12 then some (ik (decide (a≠b))) else
  if k=13 then some (ik (decide (a<b))) else
  if k=14 then some (ik (decide (a≤b))) else
  if k=15 then some (ik (decide (b<a))) else
  if k=16 then some (ik (decide (b≤a))) else
  if k=17 then some (min a b) else some (max a b)
def Zc.task (x:Zc) (f:Qd→Qd):Zc:={ x with t:=f x.t }
def qs (x:Zc) (n:Int):nk:=.ret none (x.task fun t=>{ t with state:=5,Fe:=n })
def qL (e:lh):Option xe:=match e with | .ret _=>none | .stop k=>some k
def hs (x:Zc) (f:Zc→Option nk):Option nk:=if 20000<x.nodes+1 then some .rr else f { x with nodes:=x.nodes+1 }
def Qd.jn (t:Qd) (g:Nat) (f:Vg→Vg):Qd:=match t.Tb[g]? with | none=>t | some c=>{ t with Tb:=t.Tb.set g (f c) }
def Mn (E:oe) (x:Da) (k:ff) (l:List Int) (z:Zc):Option nk :=
  if x.Kind=4 then (at_ l 0).bind fun a=>some (.call (.gf k (Fm (-a))) z) else
  if x.Kind=5 then (at_ l 0).bind fun a=>some (.call (.gf k (Fm (1 - a))) z) else
  if x.Kind=19 then (Ua E.defs x.Name).bind fun d=>(Oj d.Params l z.t.ue none).bind fun r=>some (.call (.stats d.Body r.2 (.ret k) (.zero k)) (z.task fun t=>{ t with ue:=r.1 })) else
  if x.Kind=21 then (at_ l 0).bind fun a=>(z.t.Tb[z.t.now]?).bind fun c=>c.up.bind fun u=>c.back.bind fun b=>some (.call (.gf b a) (z.task fun t=>{ t.jn t.now fun c=>{ c with Ck:=some k,going:=false } with now:=u })) else
  if x.Kind=22 then
    if (z.t.Tb.length:Int) - 1=30 then some (qs z 5) else
    (Ua E.defs x.Name).bind fun d=>(Oj d.Params l z.t.ue none).bind fun r =>
    some (.call (.gf k (z.t.Tb.length - 1)) (z.task fun t=>{ t with ue:=r.1,Tb:=t.Tb++[⟨d,r.2,false,false,false,none,none,none⟩] })) else
  if x.Kind=23 then (at_ l 0).bind fun a=>(at_ l 1).bind fun b=>if 0≤a∧a<(z.t.Tb.length:Int) - 1 then some (.call (.resume (a.toNat+1) b k) z) else none else
  if x.Kind=24 then (at_ l 0).bind fun a=>if 0≤a then (z.t.Tb[a.toNat+1]?).bind fun c=>some (.call (.gf k (ik !c.ended)) z) else none else
  (if x.Kind=9∨x.Kind=10 then (at_ l 1).bind fun b=>some (decide (b=0)) else some false).bind fun q =>
  if q=true then some (qs z 1) else
  (at_ l 0).bind fun a=>(at_ l 1).bind fun b=>(Ln x.Kind a b).bind fun v=>some (.call (.gf k v) z)
def dF (E:oe) (z:Zc) (s:Int) (n:Te) (again:xe):nk:=.ret none (z.task fun t=>{ t with state:=s,box:=(Ua E.order n).getD 0,Yl:=some again })
def Jt (E:oe) (n:Te) (k:ff) (z:Zc):Option nk :=
  (Ua E.order n).bind fun i=>(at_ z.boxes i).bind fun b =>
  match b.words with
  | []=>some (dF E z 3 n (.recv n k))
  | v::ws=>some (.call (.gf k v) { z with boxes:=z.boxes.set i.toNat { b with words:=ws } })
def Kt (E:oe) (n:Te) (v:Int) (k:xe) (z:Zc):Option nk :=
  (Ua E.order n).bind fun i=>(at_ z.boxes i).bind fun b =>
  if (b.words.length:Int)=b.cap then some (dF E z 2 n (.send n v k)) else
  (app b.words [v]).bind fun ws=>some (.ret (some k) { z with boxes:=z.boxes.set i.toNat { b with words:=ws } })
def Dt (g:Nat) (v:Int) (k:ff) (z:Zc):Option nk :=
  (z.t.Tb[g]?).bind fun c =>
  if c.ended=true then some (qs z 2) else
  if c.going=true∨g=z.t.now then some (qs z 3) else
  let a:=z.task fun t=>{ t.jn g fun c=>{ c with going:=true,up:=some t.now,back:=some k } with now:=g }
  if c.begun=true then c.Ck.bind fun o=>some (.call (.gf o v) a) else
  some (.call (.stats c.Cm.Body c.args (.stop (.done g)) (.done g)) (a.task fun t=>t.jn g fun c=>{ c with begun:=true }))
def lp (x:Ea) (l:List Ea) (s:Option Nat) (e:lh) (k:xe) (v:Int) (z:Zc):Option nk :=
  if x.Kind=1 then some (.ret (some (.stats l (some z.t.ue.length) e k)) (z.task fun t=>{ t with ue:=t.ue++[⟨x.Name,v,s⟩] })) else
  if x.Kind=2 then (tm z.t.ue x.Name (z.t.ue.length+1) s).bind fun i=>(z.t.ue[i]?).bind fun c=>some (.ret (some (.stats l s e k)) (z.task fun t=>{ t with ue:=t.ue.set i { c with v:=v } })) else
  if x.Kind=3 then some (.call (.stats (if v≠0 then x.Body else x.me) s e (.stats l s e k)) z) else
  if x.Kind=5 then (match e with | .ret q=>some (.call (.gf q v) z) | .stop _=>none) else
  if x.Kind=7 then some (.call (.send x.Name v (.stats l s e k)) z) else
  if x.Kind=8 then (app z.t.out [v]).bind fun o=>some (.ret (some (.stats l s e k)) (z.task fun t=>{ t with out:=o })) else
  some (.ret (some (.stats l s e k)) z)
def qe (E:oe):kh→Zc→Option nk
  | .expr x s k,z=>hs z fun z =>
    if x.Kind=1∨x.Kind=2 then some (.call (.gf k x.N) z) else
    if x.Kind=3 then (tm z.t.ue x.Name (z.t.ue.length+1) s).bind fun i=>(z.t.ue[i]?).bind fun c=>some (.call (.gf k c.v) z) else
    if x.Kind=20 then some (.call (.recv x.Name k) z) else
    some (.call (.all x.Kids s [] (.ex x k)) z)
  | .all l s Sd k,z=>if l.length=Sd.length then some (.call (.Sd k Sd) z) else (l[Sd.length]?).bind fun x=>some (.call (.expr x s (.all l s Sd k)) z)
  | .stats [] s e k,z=>some (.ret (some k) z)
  | .stats (x::l) s e k,z=>hs z fun z =>
    if x.Kind=6 then some (.ret (qL e) z) else
    if x.Kind=4 then some (.call (.rf x s e (.stats l s e k)) z) else
    some (.call (.expr x.X s (.stat (x::l) s e k)) z)
  | .rf x s e k,z=>some (.call (.expr x.X s (.rf x s e k)) z)
  | .gf (.all l s Sd k) v,z=>(app Sd [v]).bind fun g=>some (.call (.all l s g k) z)
  | .gf (.stat l s e k) v,z=>match l with | []=>none | x::l=>lp x l s e k v z
  | .gf (.rf x s e k) v,z=>if v=0 then some (.ret (some k) z) else some (.call (.stats x.Body s e (.rf x s e k)) z)
  | .Sd (.ex x k) l,z=>Mn E x k l z
  | .Hd (.zero k),z=>some (.call (.gf k 0) z)
  | .Hd (.recv n k),z=>Jt E n k z
  | .Hd (.send n v k),z=>Kt E n v k z
  | .Hd (.done g),z=>(z.t.Tb[g]?).bind fun c=>c.up.bind fun u=>c.back.bind fun b=>some (.call (.gf b 0) (z.task fun t=>{ t.jn g fun c=>{ c with ended:=true,going:=false } with now:=u }))
  | .Hd (.stats l s e k),z=>some (.call (.stats l s e k) z)
  | .Hd (.rf x s e k),z=>some (.call (.rf x s e k) z)
  | .Hd .fin,z=>some (.ret none (z.task fun t=>{ t with state:=4 }))
  | .Hd (.Ti d),z=>some (.call (.stats d.Body none (.stop .fin) .fin) z)
  | .recv n k,z=>Jt E n k z
  | .send n v k,z=>Kt E n v k z
  | .resume g v k,z=>Dt g v k z
def hp (E:oe):Nat→kh→Zc→Option (Option (Option xe×Zc))
  | 0,_,_=>none
  | n+1,c,z=>(qe E c z).bind fun o=>match o with
    | .call c z=>hp E n c z
    | .ret k z=>some (some (k,z))
    | .rr=>some none
end Go.Y
namespace Go.Y
open Go.Rb Go.ec
def ss (E:oe):Nat→Option xe→Zc→Option (Option Zc)
  | _,none,z=>some (some z)
  | 0,some _,_=>none
  | n+1,some k,z=>(hp E n (.Hd k) z).bind fun r=>match r with
    | none=>some none
    | some (k',a)=>ss E n k' a
def pw (E:oe) (n:Nat) (z:Zc):Option (Option Zc):=ss E n z.t.Yl (z.task fun t=>{ t with state:=1,box:=0 })
def gq (t:Qd) (bs:List Pd):Option Bool :=
  if t.state=1 then some true else
  if t.state=2 then (at_ bs t.box).bind fun b=>some (decide ((b.words.length:Int)<b.cap)) else
  if t.state=3 then (at_ bs t.box).bind fun b=>some (decide ((0:Int)<b.words.length)) else
  some false
def Wp (E:oe) (n:Nat):List Qd→List Qd→List Pd→Int→Bool→Option (Option (List Qd×List Pd×Int×Bool))
  | pre,[],bs,nd,td=>some (some (pre,bs,nd,td))
  | pre,t::la,bs,nd,td=>(gq t bs).bind fun c =>
    if c=true then (pw E n ⟨t,bs,nd⟩).bind fun r=>match r with
      | none=>some none
      | some z=>Wp E n (pre++[z.t]) la z.boxes z.nodes true
    else Wp E n (pre++[t]) la bs nd td
def Yq (E:oe) (n:Nat):Nat→List Qd→List Pd→Int→Option (Option (List Qd×List Pd×Int))
  | 0,_,_,_=>none
  | m+1,la,bs,nd=>(Wp E n [] la bs nd false).bind fun r=>match r with
    | none=>some none
    | some (la,bs,nd,td)=>if td=true then Yq E n m la bs nd else some (some (la,bs,nd))
structure Rn where
  D:List (Te×sa)
  O:List (Te×Int)
  bs:List Pd
  la:List Qd
def Ol (d:sa):Qd:=⟨[],[⟨d,none,false,false,false,none,none,none⟩],0,some (.Ti d),1,0,0,[]⟩
def Gs (u:Rn) (d:sa):Rn:=if d.Kind=1 then { u with O:=zd u.O d.Name (u.bs.length:Int),bs:=u.bs++[⟨d.Jf,[]⟩] } else u
def Hs (u:Rn) (d:sa):Rn:=if d.Kind=4 then { u with la:=u.la++[Ol d] } else u
def Sh (u:Rn) (d:sa):Rn:=Hs (Gs { u with D:=zd u.D d.Name d } d) d
def Uf (l:List sa):Rn:=l.foldl Sh ⟨[],[],[],[]⟩
def Rn.env (u:Rn):oe:=⟨u.D,u.O⟩
def eF (n:Nat) (l:List sa):Option (Option (List Qd×List Pd×Int)):=Yq (Uf l).env n n (Uf l).la (Uf l).bs 0
end Go.Y
namespace Go.Y
open Go.Rb Go.ec
structure Uj where
  State:Int
  du:Int
  TB:Int
  Out:List Int
  deriving DecidableEq,Inhabited,Repr
instance:ab Uj where
  sz:=4
  pos:=by decide
  cs μ l x:=∃ oa jb,l=[.int .i64 x.State,.int .i64 x.du,.int .i64 x.TB,.slice oa x.Out.length jb]∧Ja μ oa jb x.Out
  sj h:=by obtain ⟨oa,jb,rfl,m1⟩:=h;rfl
  up le h:=by obtain ⟨oa,jb,rfl,m1⟩:=h;exact ⟨oa,jb,rfl,m1.up le⟩
  Yh h:=by obtain ⟨oa,jb,rfl,m1⟩:=h;rfl
structure er where
  Ym:List Uj
  hq:List (List Int)
  Steps:Int
  deriving DecidableEq,Inhabited,Repr
end Go.Y
namespace Go.Y
open Go.Rb Go.ec
def gi (t:Qd):Uj:=⟨t.state,t.box,t.Fe,t.out⟩
def eA (r:Option (List Qd×List Pd×Int)):Option (er×df):=
  match r with
  | none=>some (⟨[],[],0⟩,⟨10,0⟩)
  | some (la,bs,nd)=>if la.length≤4294967295∧bs.length≤4294967295∧(bs.all fun c=>decide (c.words.length≤4294967295))=true then some (⟨la.map gi,bs.map Pd.words,nd⟩,⟨0,0⟩) else none
def ep (fu:Nat) (l:List sa):Option (er×df):=
  (Vq fu l).bind fun f =>
  if f.Hg≠0 then some (⟨[],[],0⟩,f) else
  if l.length≤4294967295 then (eF fu l).bind eA else none
end Go.Y
namespace Go.Y
open Go.Rb Go.ec
def MN:List UInt8:=[98,111,120,32,98,32,110,117,109,32,49,32,59,32,116,97,115,107,32,97,32,123,32,115,101,110,100,32,98,32,55,32,59,32,125,32,116,97,115,107,32,99,32,123,32,111,117,116,32,114,101,99,118,32,40,32,98,32,41,32,43,32,49,32,59,32,125]
def Mu (p_1:List Int) (a:List Int):Nat→Int→Option Bool
  | 0,_=>none
  | n+1,i26 =>
    if i26<(p_1.length:Int) then
      (at_ p_1 i26).bind fun b =>
      (at_ a i26).bind fun c =>
      if b≠c then
        some false
      else
        (i64 (i26+1)).bind fun i65 =>
        Mu p_1 a n i65
    else
      some true
def Tu  (p_1:List Int) (a:List Int):Option Bool :=
  if (p_1.length:Int)≠(a.length:Int) then
    some false
  else
    Mu p_1 a (p_1.length+1) 0
def uu (p_1:List (List Int)) (a:List (List Int)):Nat→Int→Option Bool
  | 0,_=>none
  | n+1,i35 =>
    if i35<(p_1.length:Int) then
      (at_ p_1 i35).bind fun b =>
      (at_ a i35).bind fun c =>
      (Tu b c).bind fun d =>
      if d=true then
        (i64 (i35+1)).bind fun i91 =>
        uu p_1 a n i91
      else
        some false
    else
      some true
def Qv  (p_1:List (List Int)) (a:List (List Int)):Option Bool :=
  if (p_1.length:Int)≠(a.length:Int) then
    some false
  else
    uu p_1 a (p_1.length+1) 0
def Jr (i105:Int) (a:Int→Option Bool) (b:Bool):Option Bool :=
  if b=true then
    some false
  else
    (i64 (i105+1)).bind fun i302 =>
    a i302
def Gp (p_1:List Uj) (a:List Uj):Nat→Int→Option Bool
  | 0,_=>none
  | n+1,i105 =>
    if i105<(p_1.length:Int) then
      (at_ p_1 i105).bind fun b =>
      (at_ a i105).bind fun c =>
      if b.State≠c.State then
        Jr i105 (Gp p_1 a n) true
      else
        (at_ p_1 i105).bind fun d =>
        (at_ a i105).bind fun e =>
        if d.du≠e.du then
          Jr i105 (Gp p_1 a n) true
        else
          (at_ p_1 i105).bind fun f =>
          (at_ a i105).bind fun g =>
          if f.TB≠g.TB then
            Jr i105 (Gp p_1 a n) true
          else
            (at_ p_1 i105).bind fun h =>
            (at_ a i105).bind fun i =>
            (Tu h.Out i.Out).bind fun j =>
            Jr i105 (Gp p_1 a n) (!j)
    else
      some true
def Lv  (p_1:List Uj) (a:List Uj):Option Bool :=
  if (p_1.length:Int)≠(a.length:Int) then
    some false
  else
    Gp p_1 a (p_1.length+1) 0
def Xr  (p_1:er) (a:er):Option Bool :=
  if p_1.Steps=a.Steps then
    (Lv p_1.Ym a.Ym).bind fun b =>
    if b=true then
      (Qv p_1.hq a.hq).bind fun c =>
      some c
    else
      some false
  else
    some false
def Vx (fu:Nat)  :Option Bool :=
  (vA fu MN).bind fun b =>
  (ep fu b.1).bind fun a =>
  if b.2.Hg=0 then
    if a.2.Hg=0 then
      if (a.1.Ym.length:Int)=2 then
        (at_ a.1.Ym 1).bind fun c =>
        if c.State=4 then
          (at_ a.1.Ym 1).bind fun d =>
          if (d.Out.length:Int)=1 then
            (at_ a.1.Ym 1).bind fun e =>
            (at_ e.Out 0).bind fun f =>
            some (decide (f=8))
          else
            some false
        else
          some false
      else
        some false
    else
      some false
  else
    some false
end Go.Y
namespace Go.Y
open Go.Rb Go.ec
def Cx (p_1:Sa) (a:List UInt8):Option Sa :=
  some (Sa.mk p_1.Kind a)
def Et  (p_1:Sa):Option Sa :=
  if p_1.Kind≠3 then
    Cx p_1 []
  else
    Cx p_1 p_1.bc
structure jr where
  Dn:Da→Option Da
def Dx (i56:Int) (a:Int→(List Da)→Option Da) (b:List Da):Option Da :=
  (i64 (i56+1)).bind fun i124 =>
  a i124 b
def vt (self:jr) (p_1:Da) (i16:Int) (a:List UInt8):Nat→Int→(List Da)→Option Da
  | 0,_,_=>none
  | n+1,i56,b =>
    if i56<(p_1.Kids.length:Int) then
      (at_ p_1.Kids i56).bind fun c =>
      (self.Dn c).bind fun d =>
      (cn 2513169434916 b [d]).bind fun e =>
      Dx i56 (vt self p_1 i16 a n) e
    else
      some (Da.mk p_1.Kind i16 a b)
def Fu (self:jr) (p_1:Da) (i16:Int) (a:List UInt8):Option Da :=
  vt self p_1 i16 a (p_1.Kids.length+1) 0 []
def Rr (self:jr) (p_1:Da) (i16:Int) (a:Bool):Option Da :=
  if a=true then
    Fu self p_1 i16 p_1.Name
  else
    Fu self p_1 i16 []
def Gu (self:jr) (p_1:Da) (i16:Int):Option Da :=
  if p_1.Kind=3 then
    Rr self p_1 i16 true
  else
    if p_1.Kind=20 then
      Rr self p_1 i16 true
    else
      if p_1.Kind=19 then
        Rr self p_1 i16 true
      else
        Rr self p_1 i16 (decide (p_1.Kind=22))
def Hu (self:jr) (p_1:Da) (a:Bool):Option Da :=
  if a=true then
    Gu self p_1 p_1.N
  else
    Gu self p_1 0
def Dn (self:jr) (p_1:Da):Option Da :=
  if p_1.Kind=1 then
    Hu self p_1 true
  else
    Hu self p_1 (decide (p_1.Kind=2))
def Rp:Nat→jr
  | 0=>⟨fun _=>none⟩
  | n+1=>⟨Dn (Rp n)⟩
structure iq where
  nm:(List Ea)→Option (List Ea)
def xu (i77:Int) (a:List Ea) (b:Ea) (c:List UInt8) (i182:Int) (i183:Int) (d:List UInt8) (e:List Da) (f:List Ea) (g:Int→(List Ea)→Option (List Ea)) (h:List Ea):Option (List Ea):=
  (cn 1099511627776 a [(Ea.mk b.Kind c (Da.mk i182 i183 d e) f h)]).bind fun i =>
  (i64 (i77+1)).bind fun i234 =>
  g i234 i
def yu (self:iq) (i77:Int) (b:List Ea) (a:Ea) (c:List UInt8) (i182:Int) (i183:Int) (d:List UInt8) (e:List Da) (f:Int→(List Ea)→Option (List Ea)) (g:List Ea):Option (List Ea):=
  if a.Kind=3 then
    (self.nm a.me).bind fun h =>
    xu i77 b a c i182 i183 d e g f h
  else
    xu i77 b a c i182 i183 d e g f []
def zu (self:iq) (i77:Int) (b:List Ea) (a:Ea) (c:List UInt8) (i182:Int) (i183:Int) (d:List UInt8) (e:List Da) (f:Int→(List Ea)→Option (List Ea)) (g:Bool):Option (List Ea):=
  if g=true then
    (self.nm a.Body).bind fun h =>
    yu self i77 b a c i182 i183 d e f h
  else
    yu self i77 b a c i182 i183 d e f []
def Au (self:iq) (i77:Int) (b:List Ea) (a:Ea) (c:List UInt8) (d:Int→(List Ea)→Option (List Ea)) (i182:Int) (i183:Int) (e:List UInt8) (f:List Da):Option (List Ea):=
  if a.Kind=3 then
    zu self i77 b a c i182 i183 e f d true
  else
    zu self i77 b a c i182 i183 e f d (decide (a.Kind=4))
def Bu (fu:Nat) (self:iq) (i77:Int) (c:List Ea) (a:Ea) (d:Int→(List Ea)→Option (List Ea)) (e:List UInt8):Option (List Ea):=
  if a.Kind≠6 then
    ((Rp fu).Dn a.X).bind fun b =>
    Au self i77 c a e d b.Kind b.N b.Name b.Kids
  else
    Au self i77 c a e d 0 0 [] []
def tt (fu:Nat) (self:iq) (i77:Int) (b:List Ea) (a:Ea) (c:Int→(List Ea)→Option (List Ea)) (d:Bool):Option (List Ea):=
  if d=true then
    Bu fu self i77 b a c a.Name
  else
    Bu fu self i77 b a c []
def wk (fu:Nat) (self:iq) (p_1:List Ea):Nat→Int→(List Ea)→Option (List Ea)
  | 0,_,_=>none
  | n+1,i77,b =>
    if i77<(p_1.length:Int) then
      (at_ p_1 i77).bind fun a =>
      if a.Kind=1 then
        tt fu self i77 b a (wk fu self p_1 n) true
      else
        if a.Kind=2 then
          tt fu self i77 b a (wk fu self p_1 n) true
        else
          tt fu self i77 b a (wk fu self p_1 n) (decide (a.Kind=7))
    else
      some b
def nm (fu:Nat) (self:iq) (p_1:List Ea):Option (List Ea):=
  wk fu self p_1 (p_1.length+1) 0 []
def jl:Nat→iq
  | 0=>⟨fun _=>none⟩
  | n+1=>⟨nm n (jl n)⟩
def xt (i139:Int) (b:List sa) (a:sa) (i296:Int) (c:List UInt8) (i303:Int) (d:List Ea) (i317:Int) (e:List UInt8) (f:Int→(List sa)→Option (List sa)) (g:List TParam):Option (List sa):=
  (cn 1099511627776 b [(sa.mk a.Kind a.Name (Sa.mk i296 c) (Sa.mk i317 e) i303 g d)]).bind fun h =>
  (i64 (i139+1)).bind fun i =>
  f i h
def Lx (i355:Int) (a:Int→(List TParam)→Option (List sa)) (b:List TParam):Option (List sa):=
  (i64 (i355+1)).bind fun c =>
  a c b
def yt (i139:Int) (b:List sa) (a:sa) (i296:Int) (c:List UInt8) (i303:Int) (d:List Ea) (i317:Int) (e:List UInt8) (f:Int→(List sa)→Option (List sa)):Nat→Int→(List TParam)→Option (List sa)
  | 0,_,_=>none
  | n+1,i355,g =>
    if i355<(a.Params.length:Int) then
      (at_ a.Params i355).bind fun h =>
      (Et h.vb).bind fun i =>
      (cn 3518437208883 g [(TParam.mk h.Name (Sa.mk i.Kind i.bc))]).bind fun j =>
      Lx i355 (yt i139 b a i296 c i303 d i317 e f n) j
    else
      xt i139 b a i296 c i303 d i317 e f g
def Nu (i139:Int) (b:List sa) (a:sa) (i296:Int) (c:List UInt8) (i303:Int) (d:List Ea) (i317:Int) (e:List UInt8) (f:Int→(List sa)→Option (List sa)) (g:Bool):Option (List sa):=
  if g=true then
    yt i139 b a i296 c i303 d i317 e f (a.Params.length+1) 0 []
  else
    xt i139 b a i296 c i303 d i317 e f []
def Ou (i139:Int) (b:List sa) (a:sa) (i296:Int) (c:List UInt8) (i303:Int) (d:List Ea) (e:Int→(List sa)→Option (List sa)) (i317:Int) (f:List UInt8):Option (List sa):=
  if a.Kind=2 then
    Nu i139 b a i296 c i303 d i317 f e true
  else
    Nu i139 b a i296 c i303 d i317 f e (decide (a.Kind=3))
def Pu (i139:Int) (b:List sa) (a:sa) (i296:Int) (c:List UInt8) (d:Int→(List sa)→Option (List sa)) (i303:Int) (e:List Ea):Option (List sa):=
  if a.Kind=3 then
    (Et a.Cd).bind fun f =>
    Ou i139 b a i296 c i303 e d f.Kind f.bc
  else
    Ou i139 b a i296 c i303 e d 0 []
def Qu (fu:Nat) (i139:Int) (b:List sa) (a:sa) (c:Int→(List sa)→Option (List sa)) (i296:Int) (d:List UInt8):Option (List sa):=
  if a.Kind=1 then
    Pu i139 b a i296 d c a.Jf []
  else
    ((jl fu).nm a.Body).bind fun e =>
    Pu i139 b a i296 d c 0 e
def hk (fu:Nat) (p_1:List sa):Nat→Int→(List sa)→Option (List sa)
  | 0,_,_=>none
  | n+1,i139,b =>
    if i139<(p_1.length:Int) then
      (at_ p_1 i139).bind fun a =>
      if a.Kind≠4 then
        (Et a.vb).bind fun c =>
        Qu fu i139 b a (hk fu p_1 n) c.Kind c.bc
      else
        Qu fu i139 b a (hk fu p_1 n) 0 []
    else
      some b
def Uu (fu:Nat)  (p_1:List sa):Option (List sa):=
  hk fu p_1 (p_1.length+1) 0 []
end Go.Y
namespace Go.Y
open Go.Rb Go.ec
def Rv (fu:Nat)  (p_1:List sa):Option Bool :=
  (Vx fu).bind fun c =>
  if c=true then
    (ep fu p_1).bind fun a =>
    (Uu fu p_1).bind fun d =>
    (ep fu d).bind fun b =>
    if (jk [(decide (a.2.Hg=b.2.Hg)),(decide (a.2.Aa=b.2.Aa))])=true then
      (Xr a.1 b.1).bind fun e =>
      some e
    else
      some false
  else
    some false
end Go.Y
