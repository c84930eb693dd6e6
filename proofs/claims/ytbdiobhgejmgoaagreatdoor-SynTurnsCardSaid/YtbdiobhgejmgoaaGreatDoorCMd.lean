/- Texts of Md. -/
import Derived.Test.YtbdiobhgejmgoaaGreatDoorCXu
set_option linter.unusedSimpArgs false
set_option linter.unusedVariables false
set_option linter.unusedSectionVars false
namespace Go.Y
open Go.Sb Go.ec
structure wa where
  Kind:Int
  N:Int
  Name:List UInt8
  Kids:List wa
  deriving Inhabited,Repr
structure ib where
  Kind:Int
  Name:List UInt8
  X:wa
  Body:List ib
  Nc:List ib
  deriving Inhabited,Repr
def Fk {α:Type}(Jb:Nat) (μ:M) (a:Option Addr) (c:Nat) (xs:List α) (g:Nat→List Value):Prop :=
  xs.length≤c∧c≤maxLen∧(xs=[]∨∃ b o,a=some ⟨b,o,none⟩∧∀ (i:Nat) (y:α),xs[i]?=some y→Ae μ b (o+i*Jb) (g i))
inductive pn (μ:M):List Value→wa→Prop where
  | mk (x:wa) (a:Option Addr) (c:Nat) (g:Nat→List Value) (h:Fk 4 μ a c x.Kids g) (k:∀ (i:Nat) (y:wa),x.Kids[i]?=some y→pn μ (g i) y) :
    pn μ [.int .i64 x.Kind,.int .i64 x.N,S x.Name,.slice a x.Kids.length c] x
theorem Fk.Iq {α:Type}{Jb:Nat}{μ:M}{a:Option Addr}{c:Nat}{xs:List α}{g:Nat→List Value}{R:List Value→α→Prop}(h:Fk Jb μ a c xs g) (k:∀ (i:Nat) (y:α),xs[i]?=some y→R (g i) y):nd Jb R μ a c xs:=by
  refine ⟨h.1,h.2.1,?_⟩;rcases h.2.2 with h | ⟨b,o,e,f⟩
  · exact .inl h
  · exact .inr ⟨b,o,e,g,fun i x d=>⟨f i x d,k i x d⟩⟩
theorem Fk.of {α:Type}{Jb:Nat}{μ:M}{a:Option Addr}{c:Nat}{xs:List α}{R:List Value→α→Prop}(h:nd Jb R μ a c xs):∃ g,Fk Jb μ a c xs g∧∀ (i:Nat) (y:α),xs[i]?=some y→R (g i) y:=by
  rcases h.el with e | ⟨b,o,j,g,f⟩
  · exact ⟨fun _=>[],⟨h.le,h.cap,.inl e⟩,fun i y d=>by simp [e] at d⟩
  · exact ⟨g,⟨h.le,h.cap,.inr ⟨b,o,j,fun i y d=>(f i y d).1⟩⟩,fun i y d=>(f i y d).2⟩
theorem Fk.up {α:Type}{Jb:Nat}{μ U:M}{a:Option Addr}{c:Nat}{xs:List α}{g:Nat→List Value}(h:Fk Jb μ a c xs g) (l:ra μ U):Fk Jb U a c xs g:=by
  refine ⟨h.1,h.2.1,?_⟩;rcases h.2.2 with h | ⟨b,o,d,e⟩
  · exact .inl h
  · exact .inr ⟨b,o,d,fun i y f=>(e i y f).up l⟩
theorem pn.up {μ U:M}(l:ra μ U){cs:List Value}{x:wa}(h:pn μ cs x):pn U cs x:=by
  induction h with
  | mk x a c g h k b=>exact .mk x a c g (h.up l) b
instance:Ob wa where
  Jb:=4
  pos:=by decide
  cs:=pn
  jk h:=by cases h;rfl
  up l h:=pn.up l h
  Fj h:=by cases h;rfl
theorem wa.o {μ:M}{l:List Value}{x:wa}(h:Ob.cs μ l x):∃ a c,l=[.int .i64 x.Kind,.int .i64 x.N,S x.Name,.slice a x.Kids.length c]∧mb μ a c x.Kids:=by
  have b:pn μ l x:=h;cases b with
  | mk _ a c g d k1=>exact ⟨a,c,rfl,d.Iq k1⟩
theorem wa.i {μ:M}{l:List Value}{x:wa}(h:∃ a c,l=[.int .i64 x.Kind,.int .i64 x.N,S x.Name,.slice a x.Kids.length c]∧mb μ a c x.Kids):Ob.cs μ l x:=by
  obtain ⟨a,c,rfl,h⟩:=h;obtain ⟨g,h,k⟩:=Fk.of h;exact pn.mk x a c g h k
inductive ym (μ:M):List Value→ib→Prop where
  | mk (x:ib) (a:Option Addr) (b:Nat) (a2:Option Addr) (c2:Nat) (a3:Option Addr) (c3:Nat) (g2 g3:Nat→List Value) (c:mb μ a b x.X.Kids)
      (d:Fk 8 μ a2 c2 x.Body g2) (e:∀ (i:Nat) (y:ib),x.Body[i]?=some y→ym μ (g2 i) y)
      (f:Fk 8 μ a3 c3 x.Nc g3) (g:∀ (i:Nat) (y:ib),x.Nc[i]?=some y→ym μ (g3 i) y) :
    ym μ [.int .i64 x.Kind,S x.Name,.int .i64 x.X.Kind,.int .i64 x.X.N,S x.X.Name,.slice a x.X.Kids.length b,.slice a2 x.Body.length c2,.slice a3 x.Nc.length c3] x
theorem ym.up {μ U:M}(l:ra μ U){cs:List Value}{x:ib}(h:ym μ cs x):ym U cs x:=by
  induction h with
  | mk x a b a2 c2 a3 c3 g2 g3 c d i e j f g=>exact .mk x a b a2 c2 a3 c3 g2 g3 (c.up l) (d.up l) f (e.up l) g
instance:Ob ib where
  Jb:=8
  pos:=by decide
  cs:=ym
  jk h:=by cases h;rfl
  up l h:=ym.up l h
  Fj h:=by cases h;rfl
theorem ib.o {μ:M}{l:List Value}{x:ib}(h:Ob.cs μ l x):∃ a b a2 c2 a3 c3,l=[.int .i64 x.Kind,S x.Name,.int .i64 x.X.Kind,.int .i64 x.X.N,S x.X.Name,.slice a x.X.Kids.length b,.slice a2 x.Body.length c2,.slice a3 x.Nc.length c3]∧mb μ a b x.X.Kids∧mb μ a2 c2 x.Body∧mb μ a3 c3 x.Nc:=by
  have c:ym μ l x:=h;cases c with
  | mk _ a b a2 c2 a3 c3 g2 g3 d e f g i=>exact ⟨a,b,a2,c2,a3,c3,rfl,d,e.Iq f,g.Iq i⟩
theorem ib.i {μ:M}{l:List Value}{x:ib}(h:∃ a b a2 c2 a3 c3,l=[.int .i64 x.Kind,S x.Name,.int .i64 x.X.Kind,.int .i64 x.X.N,S x.X.Name,.slice a x.X.Kids.length b,.slice a2 x.Body.length c2,.slice a3 x.Nc.length c3]∧mb μ a b x.X.Kids∧mb μ a2 c2 x.Body∧mb μ a3 c3 x.Nc):Ob.cs μ l x:=by
  obtain ⟨a,b,a2,c2,a3,c3,rfl,e,c,d⟩:=h;obtain ⟨g2,c,f⟩:=Fk.of c;obtain ⟨g3,d,g⟩:=Fk.of d;exact ym.mk x a b a2 c2 a3 c3 g2 g3 e c f d g
structure Ca where
  Kind:Int
  Text:List UInt8
  Tm:Int
  Ae:Int
  deriving DecidableEq,Inhabited,Repr
instance:Ob Ca where
  Jb:=4
  pos:=by decide
  cs μ l x:=l=[.int .i64 x.Kind,S x.Text,.int .i64 x.Tm,.int .i64 x.Ae]
  jk h:=by obtain rfl:=h;rfl
  up le h:=by exact h
  Fj h:=by obtain rfl:=h;rfl
structure yb where
  Wd:Int
  Ae:Int
  deriving DecidableEq,Inhabited,Repr
structure zc where
  Kind:Int
  Qc:List UInt8
  deriving DecidableEq,Inhabited,Repr
structure TParam where
  Name:List UInt8
  Rb:zc
  deriving DecidableEq,Inhabited,Repr
instance:Ob TParam where
  Jb:=3
  pos:=by decide
  cs μ l x:=l=[S x.Name,.int .i64 x.Rb.Kind,S x.Rb.Qc]
  jk h:=by obtain rfl:=h;rfl
  up le h:=by exact h
  Fj h:=by obtain rfl:=h;rfl
structure sb where
  Kind:Int
  Name:List UInt8
  Rb:zc
  Bd:zc
  re:Int
  Params:List TParam
  Body:List ib
  deriving Inhabited,Repr
instance:Ob sb where
  Jb:=9
  pos:=by decide
  cs μ l x:=∃ a b a2 c2,l=[.int .i64 x.Kind,S x.Name,.int .i64 x.Rb.Kind,S x.Rb.Qc,.int .i64 x.Bd.Kind,S x.Bd.Qc,.int .i64 x.re,.slice a x.Params.length b,.slice a2 x.Body.length c2]∧mb μ a b x.Params∧mb μ a2 c2 x.Body
  jk h:=by obtain ⟨a,b,a2,c2,rfl,m1,m2⟩:=h;rfl
  up le h:=by obtain ⟨a,b,a2,c2,rfl,m1,m2⟩:=h;exact ⟨a,b,a2,c2,rfl,m1.up le,m2.up le⟩
  Fj h:=by obtain ⟨a,b,a2,c2,rfl,m1,m2⟩:=h;rfl
structure Xe where
  og:List (List UInt8×Int)
  once:Bool
  deriving DecidableEq,Inhabited,Repr
instance:Ob Xe where
  Jb:=2
  pos:=by decide
  cs μ l x:=∃ ya,l=[.map (some ya),.bool x.once]∧Yr μ ya x.og
  jk h:=by obtain ⟨ya,rfl,m1⟩:=h;rfl
  up le h:=by obtain ⟨ya,rfl,m1⟩:=h;exact ⟨ya,rfl,m1.up le⟩
  Fj h:=by obtain ⟨ya,rfl,m1⟩:=h;rfl
end Go.Y
namespace Go.Y
open Go.Sb Go.ec
def Mv:List UInt8:=[32,98,111,120,32,102,110,32,103,101,110,32,116,97,115,107,32,116,97,107,101,115,32,121,105,101,108,100,115,32,108,101,116,32,105,102,32,101,108,115,101,32,119,104,105,108,101,32,114,101,116,117,114,110,32,115,116,111,112,32,115,101,110,100,32,111,117,116,32,100,111,32,114,101,99,118,32,121,105,101,108,100,32,115,116,97,114,116,32,114,101,115,117,109,101,32,97,108,105,118,101,32,110,117,109,32,98,111,111,108,32,116,114,117,101,32,102,97,108,115,101,32,97,110,100,32,111,114,32,110,111,116,32]
def ui  (a:UInt8):Option Bool :=
  if (97:Int)≤(a.toNat:Int) then
    if (a.toNat:Int)≤122 then
      some true
    else
      some (decide ((a.toNat:Int)=95))
  else
    some (decide ((a.toNat:Int)=95))
def Vk  (a:UInt8):Option Bool :=
  if (48:Int)≤(a.toNat:Int) then
    some (decide ((a.toNat:Int)≤57))
  else
    some false
def Hj (i13:Int) (a:Int→Option Int) (b:Bool):Option Int :=
  if b=true then
    (i64 (i13+1)).bind fun i33 =>
    a i33
  else
    some i13
def Rh (a:List UInt8) (b:UInt8→Option Bool):Nat→Int→Option Int
  | 0,_=>none
  | n+1,i13 =>
    if i13<(a.length:Int) then
      (at_ a i13).bind fun c =>
      (b c).bind fun d =>
      Hj i13 (Rh a b n) d
    else
      Hj i13 (Rh a b n) false
def Mj (fu:Nat)  (a:List UInt8) (b:UInt8→Option Bool):Option Int :=
  Rh a b fu 0
def Wo  (a:UInt8):Option Bool :=
  (ui a).bind fun b =>
  if b=true then
    some true
  else
    (Vk a).bind fun c =>
    some c
def Dr  (a:UInt8):Option Bool :=
  some (decide ((a.toNat:Int)≠10))
def Xj  (a:UInt8):Option Bool :=
  (ui a).bind fun b =>
  if b=true then
    some true
  else
    (Vk a).bind fun c =>
    some c
def sr  (b:List UInt8) (a:List UInt8):Option Bool :=
  if (a.length:Int)≤(b.length:Int) then
    (cut b 0 (a.length:Int)).bind fun s2 =>
    some (decide (s2=a))
  else
    some false
def Xo  (a:List UInt8) (b:List UInt8):Option Bool :=
  (sr a b).bind fun c =>
  some c
def Ln (a:List UInt8):Nat→Int→Option (List UInt8)
  | 0,_=>none
  | n+1,i18 =>
    if i18<18 then
      (at_ [[61,61],[33,61],[60,61],[62,61],[60],[62],[61],[43],[45],[42],[47],[37],[40],[41],[123],[125],[44],[59]] i18).bind fun b =>
      (Xo a b).bind fun c =>
      if c=true then
        some b
      else
        (i64 (i18+1)).bind fun i46 =>
        Ln a n i46
    else
      some []
def dq  (a:List UInt8):Option (List UInt8):=
  Ln a 19 0
def Ti (fu:Nat) (a:List UInt8) (i13:Int) (c:UInt8) (b:Int→Option Int) (d:Bool):Option Int :=
  if d=true then
    (i64 (i13+1)).bind fun i35 =>
    b i35
  else
    if (c.toNat:Int)=35 then
      (cut a i13 a.length).bind fun e =>
      (Mj fu e Dr).bind fun f =>
      (i64 (i13+f)).bind fun i43 =>
      b i43
    else
      some i13
def fi (fu:Nat) (a:List UInt8):Nat→Int→Option Int
  | 0,_=>none
  | n+1,i13 =>
    if i13<(a.length:Int) then
      (at_ a i13).bind fun b =>
      if (b.toNat:Int)=32 then
        Ti fu a i13 b (fi fu a n) (decide ((b.toNat:Int)=32))
      else
        if (b.toNat:Int)=9 then
          Ti fu a i13 b (fi fu a n) (decide ((b.toNat:Int)=9))
        else
          Ti fu a i13 b (fi fu a n) (decide ((b.toNat:Int)=10))
    else
      some i13
def Nj (fu:Nat)  (a:List UInt8):Option Int :=
  fi fu a fu 0
def Si (fu:Nat) (a:List UInt8) (ya:Bool):Option Bool :=
  if ya=true then
    some false
  else
    (Mj fu a Xj).bind fun b =>
    some (decide (b=(a.length:Int)))
def De (fu:Nat)  (a:List UInt8):Option Bool :=
  if (a.length:Int)<1 then
    Si fu a true
  else
    if (12:Int)<(a.length:Int) then
      Si fu a true
    else
      (at_ a 0).bind fun b =>
      (ui b).bind fun c =>
      if c=true then
        (cat [32] a).bind fun d =>
        (cat d [32]).bind fun e =>
        (vq Mv e).bind fun f =>
        Si fu a f
      else
        Si fu a true
def Xm (fu:Nat) (a:List UInt8) (i58:Int) (c:List Ca) (d:Int→(List Ca)→Option (List Ca×yb)) (i118:Int) (b:List UInt8) (i120:Int):Option (List Ca×yb):=
  (app c [(Ca.mk i118 b i120 i58)]).bind fun e =>
  (i64 (i58+(b.length:Int))).bind fun i154 =>
  (cut a i154 a.length).bind fun f =>
  (Nj fu f).bind fun g =>
  (i64 (i154+g)).bind fun i161 =>
  d i161 e
def ij (fu:Nat) (a:List UInt8):Nat→Int→(List Ca)→Option (List Ca×yb)
  | 0,_,_=>none
  | n+1,i58,c =>
    if i58<(a.length:Int) then
      (cut a i58 a.length).bind fun b =>
      (at_ b 0).bind fun e =>
      (ui e).bind fun g =>
      if g=true then
        (Mj fu b Wo).bind fun h =>
        (cut b 0 h).bind fun i =>
        Xm fu a i58 c (ij fu a n) 1 i 0
      else
        (Vk e).bind fun j =>
        if j=true then
          (Mj fu b Vk).bind fun k =>
          (cut b 0 k).bind fun d =>
          if (15:Int)<(d.length:Int) then
            some (([]:List Ca),(yb.mk 3 i58))
          else
            (Sl d).bind fun i140 =>
            Xm fu a i58 c (ij fu a n) 2 d i140
        else
          (dq b).bind fun f =>
          if f=[] then
            some (([]:List Ca),(yb.mk 2 i58))
          else
            Xm fu a i58 c (ij fu a n) 3 f 0
    else
      some (c,(yb.mk 0 0))
def Mn (fu:Nat)  (a:List UInt8):Option (List Ca×yb):=
  if (6000:Int)<(a.length:Int) then
    some (([]:List Ca),(yb.mk 4 0))
  else
    (Nj fu a).bind fun b =>
    ij fu a fu b []
end Go.Y
namespace Go.Y
open Go.Sb Go.ec
def hs  (a:Bool):Option Int :=
  if a=true then
    some 2
  else
    some (-1)
def yp (a:Int) (b:Bool):Option Int :=
  if b=true then
    some 1
  else
    if a≤18 then
      hs true
    else
      hs (decide (a=23))
def Sq (a:Int) (ya:Bool):Option Int :=
  if ya=true then
    some 0
  else
    if a≤5 then
      yp a true
    else
      if a=21 then
        yp a true
      else
        yp a (decide (a=24))
def br  (a:Int):Option Int :=
  if a≤3 then
    Sq a true
  else
    Sq a (decide (a=20))
def js (i3:Int) (a:Bool):Option (Int×Int):=
  if a=true then
    some (4,i3)
  else
    some (0,i3)
def Ho  (a:Int) (b:Int):Option (Int×Int):=
  (i64 (a+1)).bind fun i3 =>
  if (2000:Int)<i3 then
    js i3 true
  else
    js i3 (decide ((40:Int)<b))
def Vq  (a:Bool):Option Int :=
  if a=true then
    some 7
  else
    some 0
def yl (fu:Nat) (a:zc) (b:Bool):Option Int :=
  if b=true then
    some 1
  else
    if a.Kind=3 then
      (De fu a.Qc).bind fun c =>
      Vq (!c)
    else
      Vq false
def Oj (fu:Nat)  (a:zc):Option Int :=
  if a.Kind<1 then
    yl fu a true
  else
    yl fu a (decide ((3:Int)<a.Kind))
structure Xk where
  Jf:Int→wa→Int→Option (Int×Int)
def Gh (self:Xk) (b:wa) (c:Int):Nat→Int→Int→Option (Int×Int)
  | 0,_,_=>none
  | n+1,i72,i73 =>
    if i72<(b.Kids.length:Int) then
      (at_ b.Kids i72).bind fun d =>
      (i64 (c+1)).bind fun i105 =>
      (self.Jf i73 d i105).bind fun a =>
      if a.1≠0 then
        some (a.1,a.2)
      else
        (i64 (i72+1)).bind fun i111 =>
        Gh self b c n i111 a.2
    else
      some (0,i73)
def qk (self:Xk) (a:wa) (c:Int) (b:Int×Int) (d:Bool):Option (Int×Int):=
  if d=true then
    some (5,b.2)
  else
    Gh self a c (a.Kids.length+1) 0 b.2
def rk (self:Xk) (a:wa) (b:Int) (c:Int×Int) (e:Int) (d:Bool):Option (Int×Int):=
  if d=true then
    qk self a b c d
  else
    if e<0 then
      qk self a b c (decide ((6:Int)<(a.Kids.length:Int)))
    else
      qk self a b c false
def kj (self:Xk) (b:wa) (d:Int) (c:Int×Int) (a:Int) (e:Bool):Option (Int×Int):=
  if e=true then
    some (7,c.2)
  else
    if (0:Int)≤a then
      rk self b d c a (decide ((b.Kids.length:Int)≠a))
    else
      rk self b d c a false
def Ij (fu:Nat) (self:Xk) (a:wa) (d:Int) (b:Int×Int) (c:Int) (e:Bool):Option (Int×Int):=
  if e=true then
    some (3,b.2)
  else
    if a.Kind=3 then
      (De fu a.Name).bind fun f =>
      kj self a d b c (!f)
    else
      if a.Kind=20 then
        (De fu a.Name).bind fun g =>
        kj self a d b c (!g)
      else
        if c<0 then
          (De fu a.Name).bind fun h =>
          kj self a d b c (!h)
        else
          kj self a d b c false
def sk (fu:Nat) (self:Xk) (a:wa) (b:Int) (c:Int×Int) (d:Int) (e:Bool):Option (Int×Int):=
  if e=true then
    Ij fu self a b c d e
  else
    if a.Kind=2 then
      if a.N≠0 then
        Ij fu self a b c d (decide (a.N≠1))
      else
        Ij fu self a b c d false
    else
      Ij fu self a b c d false
def Ui (fu:Nat) (self:Xk) (a:wa) (c:Int) (b:Int×Int) (e:Bool):Option (Int×Int):=
  if e=true then
    some (1,b.2)
  else
    (br a.Kind).bind fun d =>
    if a.Kind=1 then
      if a.N<0 then
        sk fu self a c b d true
      else
        sk fu self a c b d (decide ((999999999999999:Int)<a.N))
    else
      sk fu self a c b d false
def Jf (fu:Nat) (self:Xk) (d:Int) (b:wa) (c:Int):Option (Int×Int):=
  (Ho d c).bind fun a =>
  if a.1≠0 then
    some (a.1,a.2)
  else
    if b.Kind<1 then
      Ui fu self b c a true
    else
      Ui fu self b c a (decide ((24:Int)<b.Kind))
def se:Nat→Xk
  | 0=>⟨fun _ _ _=>none⟩
  | n+1=>⟨Jf n (se n)⟩
structure Yk where
  Be:Int→(List ib)→Int→Option (Int×Int)
  Mg:Int→ib→Int→Option (Int×Int)
def Kk (self:Yk) (b:List ib) (c:Int):Nat→Int→Int→Option (Int×Int)
  | 0,_,_=>none
  | n+1,i29,i30 =>
    if i29<(b.length:Int) then
      (at_ b i29).bind fun d =>
      (self.Mg i30 d c).bind fun a =>
      if a.1≠0 then
        some (a.1,a.2)
      else
        (i64 (i29+1)).bind fun i76 =>
        Kk self b c n i76 a.2
    else
      some (0,i30)
def Be (self:Yk) (b:Int) (a:List ib) (c:Int):Option (Int×Int):=
  if (50:Int)<(a.length:Int) then
    some (5,b)
  else
    Kk self a c (a.length+1) 0 b
def Mk (self:Yk) (a:ib) (c:Int) (i48:Int):Option (Int×Int):=
  if a.Kind=3 then
    (i64 (c+1)).bind fun i58 =>
    (self.Be i48 a.Nc i58).bind fun b =>
    some (b.1,b.2)
  else
    some (0,i48)
def Nk (self:Yk) (b:ib) (c:Int) (d:Int×Int) (e:Bool):Option (Int×Int):=
  if e=true then
    (i64 (c+1)).bind fun i50 =>
    (self.Be d.2 b.Body i50).bind fun a =>
    if a.1≠0 then
      some (a.1,a.2)
    else
      Mk self b c a.2
  else
    Mk self b c d.2
def lj (fu:Nat) (self:Yk) (a:ib) (c:Int) (d:Int×Int) (e:Bool):Option (Int×Int):=
  if e=true then
    some (7,d.2)
  else
    if a.Kind=6 then
      some (0,d.2)
    else
      (i64 (c+1)).bind fun i39 =>
      ((se fu).Jf d.2 a.X i39).bind fun b =>
      if b.1≠0 then
        some (b.1,b.2)
      else
        if a.Kind=3 then
          Nk self a c b true
        else
          Nk self a c b (decide (a.Kind=4))
def Jj (fu:Nat) (self:Yk) (a:ib) (c:Int) (b:Int×Int) (d:Bool):Option (Int×Int):=
  if d=true then
    some (1,b.2)
  else
    if a.Kind=1 then
      (De fu a.Name).bind fun e =>
      lj fu self a c b (!e)
    else
      if a.Kind=2 then
        (De fu a.Name).bind fun f =>
        lj fu self a c b (!f)
      else
        if a.Kind=7 then
          (De fu a.Name).bind fun g =>
          lj fu self a c b (!g)
        else
          lj fu self a c b false
def Mg (fu:Nat) (self:Yk) (d:Int) (b:ib) (c:Int):Option (Int×Int):=
  (Ho d c).bind fun a =>
  if a.1≠0 then
    some (a.1,a.2)
  else
    if b.Kind<1 then
      Jj fu self b c a true
    else
      Jj fu self b c a (decide ((9:Int)<b.Kind))
def te:Nat→Yk
  | 0=>⟨fun _ _ _=>none,fun _ _ _=>none⟩
  | n+1=>⟨Be (te n),Mg n (te n)⟩
def Fp (zd:Int×Int) (a:Bool):Option (Int×Int):=
  if a=true then
    some (3,zd.2)
  else
    some (0,zd.2)
def Ok (fu:Nat) (a:sb) (zd:Int×Int):Option (Int×Int):=
  if a.Kind≠1 then
    ((te fu).Be zd.2 a.Body 2).bind fun b =>
    some (b.1,b.2)
  else
    if a.re<1 then
      Fp zd true
    else
      Fp zd (decide ((20:Int)<a.re))
def Pk (fu:Nat) (a:sb) (zd:Int×Int):Option (Int×Int):=
  if a.Kind≠4 then
    (Oj fu a.Rb).bind fun b =>
    if b≠0 then
      some (b,zd.2)
    else
      Ok fu a zd
  else
    Ok fu a zd
def Kj (fu:Nat) (a:sb) (zd:Int×Int):Option (Int×Int):=
  if a.Kind=3 then
    (Oj fu a.Bd).bind fun b =>
    if b≠0 then
      some (b,zd.2)
    else
      Pk fu a zd
  else
    Pk fu a zd
def Qk (fu:Nat) (a:sb) (zd:Int×Int):Nat→Int→Option (Int×Int)
  | 0,_=>none
  | n+1,i47 =>
    if i47<(a.Params.length:Int) then
      (at_ a.Params i47).bind fun b =>
      (De fu b.Name).bind fun d =>
      if d=true then
        (Oj fu b.Rb).bind fun c =>
        if c≠0 then
          some (c,zd.2)
        else
          (i64 (i47+1)).bind fun i87 =>
          Qk fu a zd n i87
      else
        some (7,zd.2)
    else
      Kj fu a zd
def Rk (fu:Nat) (a:sb) (zd:Int×Int) (b:Bool):Option (Int×Int):=
  if b=true then
    if (6:Int)<(a.Params.length:Int) then
      some (5,zd.2)
    else
      Qk fu a zd (a.Params.length+1) 0
  else
    Kj fu a zd
def Lj (fu:Nat) (a:sb) (zd:Int×Int) (b:Bool):Option (Int×Int):=
  if b=true then
    some (1,zd.2)
  else
    (De fu a.Name).bind fun c =>
    if c=true then
      if a.Kind=2 then
        Rk fu a zd true
      else
        Rk fu a zd (decide (a.Kind=3))
    else
      some (7,zd.2)
def Zk (fu:Nat)  (b:Int) (a:sb):Option (Int×Int):=
  (Ho b 1).bind fun zd =>
  if zd.1≠0 then
    some (zd.1,zd.2)
  else
    if a.Kind<1 then
      Lj fu a zd true
    else
      Lj fu a zd (decide ((4:Int)<a.Kind))
def Lk (fu:Nat) (a:List sb):Nat→Int→Int→Option yb
  | 0,_,_=>none
  | n+1,i28,i29 =>
    if i28<(a.length:Int) then
      (at_ a i28).bind fun c =>
      (Zk fu i29 c).bind fun b =>
      if b.1≠0 then
        some (yb.mk b.1 i28)
      else
        (i64 (i28+1)).bind fun i69 =>
        Lk fu a n i69 b.2
    else
      some (yb.mk 0 0)
def lh (fu:Nat)  (a:List sb):Option yb :=
  if (30:Int)<(a.length:Int) then
    some (yb.mk 5 0)
  else
    Lk fu a (a.length+1) 0 0
end Go.Y
namespace Go.Y
open Go.Sb Go.ec
def bh  (a:List Ca) (b:Int) (d:Int):Option Int :=
  if (a.length:Int)=0 then
    some b
  else
    (at_ a 0).bind fun c =>
    some c.Ae
def Og  (a:List Ca) (d:Int) (e:Int) (b:List UInt8):Option Bool :=
  if (0:Int)<(a.length:Int) then
    (at_ a 0).bind fun c =>
    some (decide (c.Text=b))
  else
    some false
def Cc  (a:List Ca) (b:Int) (c:Int) (d:List UInt8):Option (Bool×List Ca×Int×Int):=
  (Og a b c d).bind fun e =>
  if e=true then
    (cut a 1 a.length).bind fun f =>
    some (true,f,b,c)
  else
    some (false,a,b,c)
def jm (b:List (List UInt8)):Nat→Int→(List Ca)→Int→Int→Option (Except yb (List Ca×Int×Int))
  | 0,_,_,_,_=>none
  | n+1,i33,c,i38,i39 =>
    if i33<(b.length:Int) then
      (at_ b i33).bind fun d =>
      (Cc c i38 i39 d).bind fun a =>
      if a.1=true then
        (i64 (i33+1)).bind fun i80 =>
        jm b n i80 a.2.1 a.2.2.1 a.2.2.2
      else
        (bh a.2.1 a.2.2.1 a.2.2.2).bind fun e =>
        some (.error (yb.mk 2 e))
    else
      some (.ok (c,i38,i39))
def Lf  (b:List Ca) (c:Int) (d:Int) (a:List (List UInt8)):Option (Except yb (List Ca×Int×Int)):=
  jm a (a.length+1) 0 b c d
def gn (fu:Nat) (a:List Ca) (b:Int) (c:Int) (e:Bool):Option (Except yb (List UInt8×List Ca×Int×Int)):=
  if e=true then
    (bh a b c).bind fun f =>
    some (.error (yb.mk 2 f))
  else
    (at_ a 0).bind fun d =>
    (De fu d.Text).bind fun g =>
    if g=true then
      (cut a 1 a.length).bind fun h =>
      some (.ok (d.Text,h,b,c))
    else
      (bh a b c).bind fun i =>
      some (.error (yb.mk 7 i))
def Xg (fu:Nat)  (a:List Ca) (b:Int) (c:Int):Option (Except yb (List UInt8×List Ca×Int×Int)):=
  if (a.length:Int)=0 then
    gn fu a b c true
  else
    (at_ a 0).bind fun d =>
    gn fu a b c (decide (d.Kind≠1))
def Ym (a:List Ca) (b:Int) (c:Int) (d:Bool):Option (Except yb (Int×List Ca×Int×Int)):=
  if d=true then
    (bh a b c).bind fun e =>
    some (.error (yb.mk 2 e))
  else
    (at_ a 0).bind fun f =>
    (cut a 1 a.length).bind fun g =>
    some (.ok (f.Tm,g,b,c))
def wk  (a:List Ca) (b:Int) (c:Int):Option (Except yb (Int×List Ca×Int×Int)):=
  if (a.length:Int)=0 then
    Ym a b c true
  else
    (at_ a 0).bind fun d =>
    Ym a b c (decide (d.Kind≠2))
def mi (fu:Nat)  (d:List Ca) (e:Int) (f:Int):Option (Except yb (zc×List Ca×Int×Int)):=
  (Cc d e f [110,117,109]).bind fun a =>
  if a.1=true then
    some (.ok ((zc.mk 1 []),a.2.1,a.2.2.1,a.2.2.2))
  else
    (Cc a.2.1 a.2.2.1 a.2.2.2 [98,111,111,108]).bind fun b =>
    if b.1=true then
      some (.ok ((zc.mk 2 []),b.2.1,b.2.2.1,b.2.2.2))
    else
      pc (Xg fu b.2.1 b.2.2.1 b.2.2.2) fun c =>
      some (.ok ((zc.mk 3 c.1),c.2.1,c.2.2.1,c.2.2.2))
def mj (fu:Nat) (c:List TParam) (e:(List Ca)→Int→Int→(List TParam)→Option (Except yb (List TParam×List Ca×Int×Int))) (d:List Ca) (i137:Int) (i138:Int):Option (Except yb (List TParam×List Ca×Int×Int)):=
  if (c.length:Int)=6 then
    (bh d i137 i138).bind fun f =>
    some (.error (yb.mk 5 f))
  else
    pc (Xg fu d i137 i138) fun b =>
    pc (mi fu b.2.1 b.2.2.1 b.2.2.2) fun a =>
    (app c [(TParam.mk b.1 (zc.mk a.1.Kind a.1.Qc))]).bind fun g =>
    e a.2.1 a.2.2.1 a.2.2.2 g
def Vg (fu:Nat):Nat→(List Ca)→Int→Int→(List TParam)→Option (Except yb (List TParam×List Ca×Int×Int))
  | 0,_,_,_,_=>none
  | n+1,d,i73,i74,b =>
    (Cc d i73 i74 [41]).bind fun a =>
    if a.1=true then
      some (.ok (b,a.2.1,a.2.2.1,a.2.2.2))
    else
      if (0:Int)<(b.length:Int) then
        pc (Lf a.2.1 a.2.2.1 a.2.2.2 [[44]]) fun c =>
        mj fu b (Vg fu n) c.1 c.2.1 c.2.2
      else
        mj fu b (Vg fu n) a.2.1 a.2.2.1 a.2.2.2
def sj (fu:Nat)  (b:List Ca) (c:Int) (d:Int):Option (Except yb (List TParam×List Ca×Int×Int)):=
  pc (Lf b c d [[40]]) fun a =>
  Vg fu fu a.1 a.2.1 a.2.2 []
def Io  :Option (List Xe):=
  some [(Xe.mk (qc ([]:List (List UInt8×Int)) [111,114] 18) false),(Xe.mk (qc ([]:List (List UInt8×Int)) [97,110,100] 17) false),(Xe.mk (qc (qc (qc (qc (qc (qc ([]:List (List UInt8×Int)) [61,61] 11) [33,61] 12) [60] 13) [60,61] 14) [62] 15) [62,61] 16) true),(Xe.mk (qc (qc ([]:List (List UInt8×Int)) [43] 6) [45] 7) false),(Xe.mk (qc (qc (qc ([]:List (List UInt8×Int)) [42] 8) [47] 9) [37] 10) false)]
def zi  (a:List Ca) (b:Int) (c:Int):Option (Except yb (List Ca×Int×Int)):=
  (i64 (c+1)).bind fun i14 =>
  if (200:Int)<i14 then
    (bh a b i14).bind fun d =>
    some (.error (yb.mk 4 d))
  else
    some (.ok (a,b,i14))
def Gg  (a:List Ca) (b:Int) (c:Int):Option (List Ca×Int×Int):=
  (i64 (c - 1)).bind fun i12 =>
  some (a,b,i12)
end Go.Y
namespace Go.Y
open Go.Sb Go.ec
structure zg where
  xd:(List Ca)→Int→Int→Option (Except yb (wa×List Ca×Int×Int))
  sf:(List Ca)→Int→Int→Int→Option (Except yb (wa×List Ca×Int×Int))
  Me:(List Ca)→Int→Int→Option (Except yb (wa×List Ca×Int×Int))
  fg:(List Ca)→Int→Int→Option (Except yb (wa×List Ca×Int×Int))
  Wf:(List Ca)→Int→Int→Option (Except yb (List wa×List Ca×Int×Int))
  tf:(List Ca)→Int→Int→Int→Int→Option (Except yb (wa×List Ca×Int×Int))
def xd (self:zg) (d:List Ca) (e:Int) (f:Int):Option (Except yb (wa×List Ca×Int×Int)):=
  pc (zi d e f) fun b =>
  pc (self.sf b.1 b.2.1 b.2.2 0) fun a =>
  (Gg a.2.1 a.2.2.1 a.2.2.2).bind fun c =>
  some (.ok (a.1,c.1,c.2.1,c.2.2))
def Vi  (a:List Ca) (i50:Int) (i51:Int) (i52:Int) (i53:Int) (b:List UInt8) (c:List wa):Option (Except yb (wa×List Ca×Int×Int)):=
  some (.ok ((wa.mk i52 i53 b c),a,i50,i51))
def an (f:Int) (g:List Xe) (a:Xe) (b:Ca) (h:(List Ca)→Int→Int→Int→Int→(List UInt8)→(List wa)→Option (Except yb (wa×List Ca×Int×Int))) (c:List Ca) (d:Int) (i218:Int) (e:List wa):Option (Except yb (wa×List Ca×Int×Int)):=
  (at_ g f).bind fun i =>
  if i.once=true then
    Vi c d i218 ((Ud a.og b.Text).getD 0) 0 [] e
  else
    h c d i218 ((Ud a.og b.Text).getD 0) 0 [] e
def ti (self:zg) (b:Int) (d:List Xe):Nat→(List Ca)→Int→Int→Int→Int→(List UInt8)→(List wa)→Option (Except yb (wa×List Ca×Int×Int))
  | 0,_,_,_,_,_,_,_=>none
  | n+1,a,i116,i117,i118,i119,e,f =>
    if (0:Int)<(a.length:Int) then
      (at_ d b).bind fun g =>
      (at_ a 0).bind fun h =>
      if ((Ud g.og h.Text).getD 0)=0 then
        Vi a i116 i117 i118 i119 e f
      else
        (cut a 1 a.length).bind fun i =>
        (i64 (b+1)).bind fun j =>
        pc (self.sf i i116 i117 j) fun c =>
        an b d g h (ti self b d n) c.2.1 c.2.2.1 c.2.2.2 [(wa.mk i118 i119 e f),c.1]
    else
      Vi a i116 i117 i118 i119 e f
def sf (fu:Nat) (self:zg) (d:List Ca) (e:Int) (f:Int) (c:Int):Option (Except yb (wa×List Ca×Int×Int)):=
  (Io ).bind fun g =>
  if c=(g.length:Int) then
    pc (self.Me d e f) fun b =>
    some (.ok (b.1,b.2.1,b.2.2.1,b.2.2.2))
  else
    (i64 (c+1)).bind fun i33 =>
    pc (self.sf d e f i33) fun a =>
    ti self c g fu a.2.1 a.2.2.1 a.2.2.2 a.1.Kind a.1.N a.1.Name a.1.Kids
def Me (self:zg) (j:List Ca) (k:Int) (l:Int):Option (Except yb (wa×List Ca×Int×Int)):=
  (Cc j k l [45]).bind fun a =>
  if a.1=true then
    pc (zi a.2.1 a.2.2.1 a.2.2.2) fun f =>
    pc (self.Me f.1 f.2.1 f.2.2) fun c =>
    (Gg c.2.1 c.2.2.1 c.2.2.2).bind fun g =>
    some (.ok ((wa.mk 4 0 [] [c.1]),g.1,g.2.1,g.2.2))
  else
    (Cc a.2.1 a.2.2.1 a.2.2.2 [110,111,116]).bind fun b =>
    if b.1=true then
      pc (zi b.2.1 b.2.2.1 b.2.2.2) fun h =>
      pc (self.Me h.1 h.2.1 h.2.2) fun d =>
      (Gg d.2.1 d.2.2.1 d.2.2.2).bind fun i =>
      some (.ok ((wa.mk 5 0 [] [d.1]),i.1,i.2.1,i.2.2))
    else
      pc (self.fg b.2.1 b.2.2.1 b.2.2.2) fun e =>
      some (.ok (e.1,e.2.1,e.2.2.1,e.2.2.2))
def jj (fu:Nat) (self:zg) (v:List Ca) (w:Int) (x:Int) (y:Bool):Option (Except yb (wa×List Ca×Int×Int)):=
  if y=true then
    pc (wk v w x) fun j =>
    some (.ok ((wa.mk 1 j.1 [] ([]:List wa)),j.2.1,j.2.2.1,j.2.2.2))
  else
    (Cc v w x [116,114,117,101]).bind fun b =>
    if b.1=true then
      some (.ok ((wa.mk 2 1 [] ([]:List wa)),b.2.1,b.2.2.1,b.2.2.2))
    else
      (Cc b.2.1 b.2.2.1 b.2.2.2 [102,97,108,115,101]).bind fun c =>
      if c.1=true then
        some (.ok ((wa.mk 2 0 [] ([]:List wa)),c.2.1,c.2.2.1,c.2.2.2))
      else
        (Cc c.2.1 c.2.2.1 c.2.2.2 [40]).bind fun d =>
        if d.1=true then
          pc (self.xd d.2.1 d.2.2.1 d.2.2.2) fun k =>
          pc (Lf k.2.1 k.2.2.1 k.2.2.2 [[41]]) fun s =>
          some (.ok (k.1,s.1,s.2.1,s.2.2))
        else
          (Cc d.2.1 d.2.2.1 d.2.2.2 [114,101,99,118]).bind fun e =>
          if e.1=true then
            pc (Lf e.2.1 e.2.2.1 e.2.2.2 [[40]]) fun t =>
            pc (Xg fu t.1 t.2.1 t.2.2) fun l =>
            pc (Lf l.2.1 l.2.2.1 l.2.2.2 [[41]]) fun u =>
            some (.ok ((wa.mk 20 0 l.1 ([]:List wa)),u.1,u.2.1,u.2.2))
          else
            (Cc e.2.1 e.2.2.1 e.2.2.2 [121,105,101,108,100]).bind fun f =>
            if f.1=true then
              pc (self.tf f.2.1 f.2.2.1 f.2.2.2 21 1) fun m =>
              some (.ok (m.1,m.2.1,m.2.2.1,m.2.2.2))
            else
              (Cc f.2.1 f.2.2.1 f.2.2.2 [114,101,115,117,109,101]).bind fun g =>
              if g.1=true then
                pc (self.tf g.2.1 g.2.2.1 g.2.2.2 23 2) fun n =>
                some (.ok (n.1,n.2.1,n.2.2.1,n.2.2.2))
              else
                (Cc g.2.1 g.2.2.1 g.2.2.2 [97,108,105,118,101]).bind fun h =>
                if h.1=true then
                  pc (self.tf h.2.1 h.2.2.1 h.2.2.2 24 1) fun o =>
                  some (.ok (o.1,o.2.1,o.2.2.1,o.2.2.2))
                else
                  (Cc h.2.1 h.2.2.1 h.2.2.2 [115,116,97,114,116]).bind fun i =>
                  if i.1=true then
                    pc (Xg fu i.2.1 i.2.2.1 i.2.2.2) fun p =>
                    pc (self.Wf p.2.1 p.2.2.1 p.2.2.2) fun q =>
                    some (.ok ((wa.mk 22 0 p.1 q.1),q.2.1,q.2.2.1,q.2.2.2))
                  else
                    pc (Xg fu i.2.1 i.2.2.1 i.2.2.2) fun a =>
                    (Og a.2.1 a.2.2.1 a.2.2.2 [40]).bind fun z =>
                    if z=true then
                      pc (self.Wf a.2.1 a.2.2.1 a.2.2.2) fun r =>
                      some (.ok ((wa.mk 19 0 a.1 r.1),r.2.1,r.2.2.1,r.2.2.2))
                    else
                      some (.ok ((wa.mk 3 0 a.1 ([]:List wa)),a.2.1,a.2.2.1,a.2.2.2))
def fg (fu:Nat) (self:zg) (a:List Ca) (b:Int) (c:Int):Option (Except yb (wa×List Ca×Int×Int)):=
  if (0:Int)<(a.length:Int) then
    (at_ a 0).bind fun d =>
    jj fu self a b c (decide (d.Kind=2))
  else
    jj fu self a b c false
def pj (self:zg) (b:List wa) (d:(List Ca)→Int→Int→(List wa)→Option (Except yb (List wa×List Ca×Int×Int))) (c:List Ca) (i131:Int) (i132:Int):Option (Except yb (List wa×List Ca×Int×Int)):=
  if (b.length:Int)=6 then
    (bh c i131 i132).bind fun e =>
    some (.error (yb.mk 5 e))
  else
    pc (self.xd c i131 i132) fun a =>
    (app b [a.1]).bind fun f =>
    d a.2.1 a.2.2.1 a.2.2.2 f
def Wg (self:zg):Nat→(List Ca)→Int→Int→(List wa)→Option (Except yb (List wa×List Ca×Int×Int))
  | 0,_,_,_,_=>none
  | n+1,d,i70,i71,b =>
    (Cc d i70 i71 [41]).bind fun a =>
    if a.1=true then
      some (.ok (b,a.2.1,a.2.2.1,a.2.2.2))
    else
      if (0:Int)<(b.length:Int) then
        pc (Lf a.2.1 a.2.2.1 a.2.2.2 [[44]]) fun c =>
        pj self b (Wg self n) c.1 c.2.1 c.2.2
      else
        pj self b (Wg self n) a.2.1 a.2.2.1 a.2.2.2
def Wf (fu:Nat) (self:zg) (b:List Ca) (c:Int) (d:Int):Option (Except yb (List wa×List Ca×Int×Int)):=
  pc (Lf b c d [[40]]) fun a =>
  Wg self fu a.1 a.2.1 a.2.2 []
def bn (i63:Int) (a:Int→(List Ca)→Int→Int→(List wa)→Option (Except yb (wa×List Ca×Int×Int))) (b:List Ca) (i135:Int) (i136:Int) (c:List wa):Option (Except yb (wa×List Ca×Int×Int)):=
  (i64 (i63+1)).bind fun i160 =>
  a i160 b i135 i136 c
def oj (self:zg) (i63:Int) (b:List wa) (c:Int→(List Ca)→Int→Int→(List wa)→Option (Except yb (wa×List Ca×Int×Int))) (d:List Ca) (i116:Int) (i117:Int):Option (Except yb (wa×List Ca×Int×Int)):=
  pc (self.xd d i116 i117) fun a =>
  (app b [a.1]).bind fun e =>
  bn i63 c a.2.1 a.2.2.1 a.2.2.2 e
def Cg (self:zg) (a:Int) (b:Int):Nat→Int→(List Ca)→Int→Int→(List wa)→Option (Except yb (wa×List Ca×Int×Int))
  | 0,_,_,_,_,_=>none
  | n+1,i63,c,i68,i69,d =>
    if i63<b then
      if (0:Int)<i63 then
        pc (Lf c i68 i69 [[44]]) fun e =>
        oj self i63 d (Cg self a b n) e.1 e.2.1 e.2.2
      else
        oj self i63 d (Cg self a b n) c i68 i69
    else
      pc (Lf c i68 i69 [[41]]) fun f =>
      some (.ok ((wa.mk a 0 [] d),f.1,f.2.1,f.2.2))
def tf (self:zg) (c:List Ca) (d:Int) (e:Int) (f:Int) (b:Int):Option (Except yb (wa×List Ca×Int×Int)):=
  pc (Lf c d e [[40]]) fun a =>
  Cg self f b ((b - 0).toNat+1) 0 a.1 a.2.1 a.2.2 []
def Kc:Nat→zg
  | 0=>⟨fun _ _ _=>none,fun _ _ _ _=>none,fun _ _ _=>none,fun _ _ _=>none,fun _ _ _=>none,fun _ _ _ _ _=>none⟩
  | n+1=>⟨xd (Kc n),sf n (Kc n),Me (Kc n),fg n (Kc n),Wf n (Kc n),tf (Kc n)⟩
structure dj where
  Nd:(List Ca)→Int→Int→Option (Except yb (List ib×List Ca×Int×Int))
  Xf:(List Ca)→Int→Int→Option (Except yb (ib×List Ca×Int×Int))
def Hh (self:dj):Nat→(List Ca)→Int→Int→(List ib)→Option (Except yb (List ib×List Ca×Int×Int))
  | 0,_,_,_,_=>none
  | n+1,e,i67,i68,c =>
    (Cc e i67 i68 [125]).bind fun a =>
    if a.1=true then
      (Gg a.2.1 a.2.2.1 a.2.2.2).bind fun d =>
      some (.ok (c,d.1,d.2.1,d.2.2))
    else
      if (c.length:Int)=50 then
        (bh a.2.1 a.2.2.1 a.2.2.2).bind fun f =>
        some (.error (yb.mk 5 f))
      else
        pc (self.Xf a.2.1 a.2.2.1 a.2.2.2) fun b =>
        (app c [b.1]).bind fun g =>
        Hh self n b.2.1 b.2.2.1 b.2.2.2 g
def Nd (fu:Nat) (self:dj) (c:List Ca) (d:Int) (e:Int):Option (Except yb (List ib×List Ca×Int×Int)):=
  pc (zi c d e) fun a =>
  pc (Lf a.1 a.2.1 a.2.2 [[123]]) fun b =>
  Hh self fu b.1 b.2.1 b.2.2 []
def mh  (b:List Ca) (i28:Int) (i29:Int) (i30:Int) (c:List UInt8) (i33:Int) (i34:Int) (d:List UInt8) (e:List wa):Option (Except yb (ib×List Ca×Int×Int)):=
  pc (Lf b i28 i29 [[59]]) fun a =>
  some (.ok ((ib.mk i30 c (wa.mk i33 i34 d e) ([]:List ib) ([]:List ib)),a.1,a.2.1,a.2.2))
def Ns (a:wa×List Ca×Int×Int) (b:List ib×List Ca×Int×Int) (c:List Ca) (i75:Int) (i76:Int) (d:List ib):Option (Except yb (ib×List Ca×Int×Int)):=
  some (.ok ((ib.mk 3 [] (wa.mk a.1.Kind a.1.N a.1.Name a.1.Kids) b.1 d),c,i75,i76))
def Xf (fu:Nat) (self:dj) (z:List Ca) (A:Int) (B:Int):Option (Except yb (ib×List Ca×Int×Int)):=
  (Cc z A B [105,102]).bind fun a =>
  if a.1=true then
    pc ((Kc fu).xd a.2.1 a.2.2.1 a.2.2.2) fun q =>
    pc (self.Nd q.2.1 q.2.2.1 q.2.2.2) fun r =>
    (Cc r.2.1 r.2.2.1 r.2.2.2 [101,108,115,101]).bind fun b =>
    if b.1=true then
      pc (self.Nd b.2.1 b.2.2.1 b.2.2.2) fun s =>
      Ns q r s.2.1 s.2.2.1 s.2.2.2 s.1
    else
      Ns q r b.2.1 b.2.2.1 b.2.2.2 []
  else
    (Cc a.2.1 a.2.2.1 a.2.2.2 [119,104,105,108,101]).bind fun c =>
    if c.1=true then
      pc ((Kc fu).xd c.2.1 c.2.2.1 c.2.2.2) fun d =>
      pc (self.Nd d.2.1 d.2.2.1 d.2.2.2) fun t =>
      some (.ok ((ib.mk 4 [] (wa.mk d.1.Kind d.1.N d.1.Name d.1.Kids) t.1 ([]:List ib)),t.2.1,t.2.2.1,t.2.2.2))
    else
      (Cc c.2.1 c.2.2.1 c.2.2.2 [108,101,116]).bind fun e =>
      if e.1=true then
        pc (Xg fu e.2.1 e.2.2.1 e.2.2.2) fun u =>
        pc (Lf u.2.1 u.2.2.1 u.2.2.2 [[61]]) fun x =>
        pc ((Kc fu).xd x.1 x.2.1 x.2.2) fun f =>
        mh f.2.1 f.2.2.1 f.2.2.2 1 u.1 f.1.Kind f.1.N f.1.Name f.1.Kids
      else
        (Cc e.2.1 e.2.2.1 e.2.2.2 [114,101,116,117,114,110]).bind fun g =>
        if g.1=true then
          pc ((Kc fu).xd g.2.1 g.2.2.1 g.2.2.2) fun h =>
          mh h.2.1 h.2.2.1 h.2.2.2 5 [] h.1.Kind h.1.N h.1.Name h.1.Kids
        else
          (Cc g.2.1 g.2.2.1 g.2.2.2 [115,116,111,112]).bind fun i =>
          if i.1=true then
            mh i.2.1 i.2.2.1 i.2.2.2 6 [] 0 0 [] []
          else
            (Cc i.2.1 i.2.2.1 i.2.2.2 [115,101,110,100]).bind fun j =>
            if j.1=true then
              pc (Xg fu j.2.1 j.2.2.1 j.2.2.2) fun v =>
              pc ((Kc fu).xd v.2.1 v.2.2.1 v.2.2.2) fun k =>
              mh k.2.1 k.2.2.1 k.2.2.2 7 v.1 k.1.Kind k.1.N k.1.Name k.1.Kids
            else
              (Cc j.2.1 j.2.2.1 j.2.2.2 [111,117,116]).bind fun l =>
              if l.1=true then
                pc ((Kc fu).xd l.2.1 l.2.2.1 l.2.2.2) fun m =>
                mh m.2.1 m.2.2.1 m.2.2.2 8 [] m.1.Kind m.1.N m.1.Name m.1.Kids
              else
                (Cc l.2.1 l.2.2.1 l.2.2.2 [100,111]).bind fun n =>
                if n.1=true then
                  pc ((Kc fu).xd n.2.1 n.2.2.1 n.2.2.2) fun o =>
                  mh o.2.1 o.2.2.1 o.2.2.2 9 [] o.1.Kind o.1.N o.1.Name o.1.Kids
                else
                  pc (Xg fu n.2.1 n.2.2.1 n.2.2.2) fun w =>
                  pc (Lf w.2.1 w.2.2.1 w.2.2.2 [[61]]) fun y =>
                  pc ((Kc fu).xd y.1 y.2.1 y.2.2) fun p =>
                  mh p.2.1 p.2.2.1 p.2.2.2 2 w.1 p.1.Kind p.1.N p.1.Name p.1.Kids
def Kf:Nat→dj
  | 0=>⟨fun _ _ _=>none,fun _ _ _=>none⟩
  | n+1=>⟨Nd n (Kf n),Xf n (Kf n)⟩
def wi (d:List UInt8×List Ca×Int×Int) (c:zc×List Ca×Int×Int) (e:Int) (a:Int×List Ca×Int×Int) (f:Bool):Option (Except yb (sb×List Ca×Int×Int)):=
  if f=true then
    some (.error (yb.mk 3 e))
  else
    pc (Lf a.2.1 a.2.2.1 a.2.2.2 [[59]]) fun b =>
    some (.ok ((sb.mk 1 d.1 (zc.mk c.1.Kind c.1.Qc) (zc.mk 0 []) a.1 ([]:List TParam) ([]:List ib)),b.1,b.2.1,b.2.2))
def Bi (fu:Nat)  (u:List Ca) (v:Int) (w:Int):Option (Except yb (sb×List Ca×Int×Int)):=
  (bh u v w).bind fun y =>
  (Cc u v w [98,111,120]).bind fun b =>
  if b.1=true then
    pc (Xg fu b.2.1 b.2.2.1 b.2.2.2) fun e =>
    pc (mi fu e.2.1 e.2.2.1 e.2.2.2) fun a =>
    (bh a.2.1 a.2.2.1 a.2.2.2).bind fun x =>
    pc (wk a.2.1 a.2.2.1 a.2.2.2) fun i =>
    if i.1<1 then
      wi e a x i true
    else
      wi e a x i (decide ((20:Int)<i.1))
  else
    (Cc b.2.1 b.2.2.1 b.2.2.2 [102,110]).bind fun c =>
    if c.1=true then
      pc (Xg fu c.2.1 c.2.2.1 c.2.2.2) fun j =>
      pc (sj fu j.2.1 j.2.2.1 j.2.2.2) fun k =>
      pc (mi fu k.2.1 k.2.2.1 k.2.2.2) fun f =>
      pc ((Kf fu).Nd f.2.1 f.2.2.1 f.2.2.2) fun l =>
      some (.ok ((sb.mk 2 j.1 (zc.mk f.1.Kind f.1.Qc) (zc.mk 0 []) 0 k.1 l.1),l.2.1,l.2.2.1,l.2.2.2))
    else
      (Cc c.2.1 c.2.2.1 c.2.2.2 [103,101,110]).bind fun d =>
      if d.1=true then
        pc (Xg fu d.2.1 d.2.2.1 d.2.2.2) fun m =>
        pc (sj fu m.2.1 m.2.2.1 m.2.2.2) fun n =>
        pc (Lf n.2.1 n.2.2.1 n.2.2.2 [[116,97,107,101,115]]) fun s =>
        pc (mi fu s.1 s.2.1 s.2.2) fun g =>
        pc (Lf g.2.1 g.2.2.1 g.2.2.2 [[121,105,101,108,100,115]]) fun t =>
        pc (mi fu t.1 t.2.1 t.2.2) fun h =>
        pc ((Kf fu).Nd h.2.1 h.2.2.1 h.2.2.2) fun o =>
        some (.ok ((sb.mk 3 m.1 (zc.mk h.1.Kind h.1.Qc) (zc.mk g.1.Kind g.1.Qc) 0 n.1 o.1),o.2.1,o.2.2.1,o.2.2.2))
      else
        (Cc d.2.1 d.2.2.1 d.2.2.2 [116,97,115,107]).bind fun p =>
        if p.1=true then
          pc (Xg fu p.2.1 p.2.2.1 p.2.2.2) fun q =>
          pc ((Kf fu).Nd q.2.1 q.2.2.1 q.2.2.2) fun r =>
          some (.ok ((sb.mk 4 q.1 (zc.mk 0 []) (zc.mk 0 []) 0 ([]:List TParam) r.1),r.2.1,r.2.2.1,r.2.2.2))
        else
          some (.error (yb.mk 2 y))
end Go.Y
namespace Go.Y
open Go.Sb Go.ec
theorem PC {α:Type}{l:List Ca}{e d:Int}{k1 b:List UInt8}(m:¬ k1=b){A B C:Bool×List Ca×Int×Int→Option α}{r:α}
    (h:(Option.bind (Cc l e d k1) fun x=>if x.1=true then A x else Option.bind (Cc x.2.1 x.2.2.1 x.2.2.2 b) fun y=>if y.1=true then B y else C y)=some r) :
    (Option.bind (Cc l e d b) fun y=>if y.1=true then B y else Option.bind (Cc y.2.1 y.2.2.1 y.2.2.2 k1) fun x=>if x.1=true then A x else C x)=some r:=by
  have key:∀ k,(Og l e d k=some false∧Cc l e d k=some (false,l,e,d))∨(∃ t a,l=t::a∧t.Text=k∧Cc l e d k=some (true,a,e,d)):=by
    intro k;cases l with
    | nil=>first | (left; simp [Og,Cc]; done) | (exfalso; simp [Og,Cc] at h)
    | cons t a =>
      by_cases c:t.Text=k
      · right;refine ⟨t,a,rfl,c,?_⟩;have f:(0:Int)<((a.length+1:Nat):Int):=by omega
        have n:(1:Int)≤((a.length+1:Nat):Int):=by omega
        have o:cut (t::a) 1 ((t::a).length)=some a:=by
          unfold cut;rw [if_pos ⟨by omega,by simpa using n,by simp⟩];simp
        have p:Og (t::a) e d k=some true:=by
          unfold Og;rw [if_pos (by simp)];simp [at_,c]
        unfold Cc;rw [p,Option.bind_some];simp only [if_true];rw [o];rfl
      · left;have f:(0:Int)<((a.length+1:Nat):Int):=by omega
        simp [Cc,Og,at_,c,f]
  rcases key k1 with ⟨s1,i1⟩ | ⟨t,a,g,i,i1⟩
  · rw [i1,Option.bind_some] at h;simp only [Bool.false_eq_true,if_false] at h;rcases key b with ⟨s2,i2⟩ | ⟨t,a,g,i,i2⟩
    · rw [i2,Option.bind_some] at h ⊢;simp only [Bool.false_eq_true,if_false] at h ⊢;rw [i1,Option.bind_some];simpa using h
    · rw [i2,Option.bind_some] at h ⊢;simp only [if_true] at h ⊢;exact h
  · rw [i1,Option.bind_some] at h;simp only [if_true] at h;rcases key b with ⟨s2,i2⟩ | ⟨t2,s,j,q,i2⟩
    · rw [i2,Option.bind_some];simp only [Bool.false_eq_true,if_false];rw [i1,Option.bind_some];simpa using h
    · rw [g] at j;obtain ⟨rfl,rfl⟩:=List.cons.inj j;exact absurd (i.symm.trans q) m
end Go.Y
namespace Go.Y
open Go.Sb Go.ec
def Wn:Option Unit:=some ()
def ks (a:List Ca×yb):Option (List sb×yb):=
  some (([]:List sb),a.2)
def ns (a:(List Ca)→Int→Int→(List sb)→Option (List sb×yb)) (b:List Ca) (i85:Int) (i86:Int) (c:List sb):Option (List sb×yb):=
  a b i85 i86 c
def ps (a:yb):Option (List sb×yb):=
  (Wn ).bind fun b =>
  some (([]:List sb),(yb.mk a.Wd 0))
def qs (a:List Ca×yb) (b:List sb):Option (List sb×yb):=
  (Wn ).bind fun c =>
  some (b,a.2)
def xl (fu:Nat) (d:List Ca×yb):Nat→(List Ca)→Int→Int→(List sb)→Option (List sb×yb)
  | 0,_,_,_,_=>none
  | n+1,c,i45,i46,a =>
    if (0:Int)<(c.length:Int) then
      if (a.length:Int)=30 then
        (bh c i45 i46).bind fun f =>
        some (([]:List sb),yb.mk 5 f)
      else
        iu (Bi fu c i45 i46) (fun g=>(([]:List sb),g)) fun b =>
        (app a [b.1]).bind fun h =>
        ns (xl fu d n) b.2.1 b.2.2.1 b.2.2.2 h
    else
      (lh fu a).bind fun e =>
      if e.Wd≠0 then
        ps e
      else
        qs d a
def tj (fu:Nat)  (b:List UInt8):Option (List sb×yb):=
  (Mn fu b).bind fun a =>
  if a.2.Wd≠0 then
    ks a
  else
    xl fu a fu a.1 (b.length:Int) 0 []
end Go.Y
namespace Go.Y
open Go.Sb Go.ec
def ZF:List UInt8:=[98,111,120,32,98,32,110,117,109,32,50,32,59,32,116,97,115,107,32,116,32,123,32,115,101,110,100,32,98,32,49,32,43,32,50,32,42,32,51,32,59,32,125]
structure Fq where
  xi:wa→wa→Option Bool
def Nn (self:Fq) (a:wa) (b:wa):Nat→Int→Option Bool
  | 0,_=>none
  | n+1,i44 =>
    if i44<(a.Kids.length:Int) then
      (at_ a.Kids i44).bind fun c =>
      (at_ b.Kids i44).bind fun d =>
      (self.xi c d).bind fun e =>
      if e=true then
        (i64 (i44+1)).bind fun i100 =>
        Nn self a b n i100
      else
        some false
    else
      some true
def On (self:Fq) (a:wa) (b:wa) (c:Bool):Option Bool :=
  if c=true then
    some false
  else
    Nn self a b (a.Kids.length+1) 0
def xi (self:Fq) (a:wa) (b:wa):Option Bool :=
  if a.Kind≠b.Kind then
    On self a b true
  else
    if a.N≠b.N then
      On self a b true
    else
      if a.Name≠b.Name then
        On self a b true
      else
        On self a b (decide ((a.Kids.length:Int)≠(b.Kids.length:Int)))
def ln:Nat→Fq
  | 0=>⟨fun _ _=>none⟩
  | n+1=>⟨xi (ln n)⟩
structure Tr where
  oh:(List ib)→(List ib)→Option Bool
def Zm (i194:Int) (a:Int→Option Bool) (b:Bool):Option Bool :=
  if b=true then
    some false
  else
    (i64 (i194+1)).bind fun c =>
    a c
def nj (fu:Nat) (self:Tr) (a:List ib) (b:List ib):Nat→Int→Option Bool
  | 0,_=>none
  | n+1,i194 =>
    if i194<(a.length:Int) then
      (at_ a i194).bind fun c =>
      (at_ b i194).bind fun d =>
      if c.Kind≠d.Kind then
        Zm i194 (nj fu self a b n) true
      else
        (at_ a i194).bind fun e =>
        (at_ b i194).bind fun f =>
        if e.Name≠f.Name then
          Zm i194 (nj fu self a b n) true
        else
          (at_ a i194).bind fun g =>
          (at_ b i194).bind fun h =>
          ((ln fu).xi g.X h.X).bind fun i =>
          if i=true then
            (at_ a i194).bind fun j =>
            (at_ b i194).bind fun k =>
            (self.oh j.Body k.Body).bind fun l =>
            if l=true then
              (at_ a i194).bind fun m =>
              (at_ b i194).bind fun o =>
              (self.oh m.Nc o.Nc).bind fun p =>
              Zm i194 (nj fu self a b n) (!p)
            else
              Zm i194 (nj fu self a b n) true
          else
            Zm i194 (nj fu self a b n) true
    else
      some true
def oh (fu:Nat) (self:Tr) (a:List ib) (b:List ib):Option Bool :=
  if (a.length:Int)≠(b.length:Int) then
    some false
  else
    nj fu self a b (a.length+1) 0
def Pj:Nat→Tr
  | 0=>⟨fun _ _=>none⟩
  | n+1=>⟨oh n (Pj n)⟩
def Gp (i107:Int) (b:List TParam) (e:List TParam) (f:Int→Option Bool):Nat→Int→Option Bool
  | 0,_=>none
  | n+1,a =>
    if a<(b.length:Int) then
      (at_ b a).bind fun c =>
      (at_ e a).bind fun d =>
      if (bj [(decide (c.Name=d.Name)),(bj [(decide (c.Rb.Kind=d.Rb.Kind)),(decide (c.Rb.Qc=d.Rb.Qc))])])=true then
        (i64 (a+1)).bind fun g =>
        Gp i107 b e f n g
      else
        some false
    else
      (i64 (i107+1)).bind fun h =>
      f h
def fm (i107:Int) (a:List TParam) (b:List TParam) (c:Int→Option Bool) (d:Bool):Option Bool :=
  if d=true then
    some false
  else
    Gp i107 a b c (a.length+1) 0
def Cs (fu:Nat) (i107:Int) (c:Int→Option Bool) (i210:Int) (d:List UInt8) (i212:Int) (e:List UInt8) (f:Int) (g:List UInt8) (h:Int) (a:List TParam) (i:List ib) (i226:Int) (j:List UInt8) (i228:Int) (k:List UInt8) (l:Int) (m:List UInt8) (i232:Int) (b:List TParam) (n:List ib):Option Bool :=
  if i210≠i226 then
    fm i107 a b c true
  else
    if d≠j then
      fm i107 a b c true
    else
      if (bj [(decide (i212=i228)),(decide (e=k))])=true then
        if (bj [(decide (f=l)),(decide (g=m))])=true then
          if h≠i232 then
            fm i107 a b c true
          else
            if (a.length:Int)≠(b.length:Int) then
              fm i107 a b c true
            else
              ((Pj fu).oh i n).bind fun o =>
              fm i107 a b c (!o)
        else
          fm i107 a b c true
      else
        fm i107 a b c true
def gm (fu:Nat) (c:List sb) (d:List sb):Nat→Int→Option Bool
  | 0,_=>none
  | n+1,i107 =>
    if i107<(c.length:Int) then
      (at_ c i107).bind fun a =>
      (at_ d i107).bind fun b =>
      Cs fu i107 (gm fu c d n) a.Kind a.Name a.Rb.Kind a.Rb.Qc a.Bd.Kind a.Bd.Qc a.re a.Params a.Body b.Kind b.Name b.Rb.Kind b.Rb.Qc b.Bd.Kind b.Bd.Qc b.re b.Params b.Body
    else
      some true
def mn (fu:Nat)  (a:List sb) (b:List sb):Option Bool :=
  if (a.length:Int)≠(b.length:Int) then
    some false
  else
    gm fu a b (a.length+1) 0
def Zs (fu:Nat)  :Option Bool :=
  (tj fu ZF).bind fun a =>
  if a.2.Wd=0 then
    if (a.1.length:Int)=2 then
      (at_ a.1 0).bind fun b =>
      if b.re=2 then
        (at_ a.1 1).bind fun c =>
        if (c.Body.length:Int)=1 then
          (at_ a.1 1).bind fun d =>
          (at_ d.Body 0).bind fun e =>
          some (decide (e.X.Kind=6))
        else
          some false
      else
        some false
    else
      some false
  else
    some false
end Go.Y
namespace Go.Y
open Go.Sb Go.ec
def Qo  (a:List UInt8):Option Int :=
  some (a.length:Int)
def jr  (a:List UInt8) (b:UInt8):Option (Unit×List UInt8):=
  (app a [b]).bind fun c =>
  some ((),c)
def tr  (b:List UInt8) (a:List UInt8):Option (Int×Unit×List UInt8):=
  (app b a).bind fun c =>
  some ((a.length:Int),(),c)
end Go.Y
namespace Go.Y
open Go.Sb Go.ec
def tm  (a:zc):Option (List UInt8):=
  if a.Kind=1 then
    some [110,117,109]
  else
    if a.Kind=2 then
      some [98,111,111,108]
    else
      some a.Qc
def ss (a:Int) (b:List Xe):Nat→Int→Option (List UInt8×Int)
  | 0,_=>none
  | n+1,i27 =>
    if i27<(b.length:Int) then
      (at_ b i27).bind fun d =>
      (Br d.og a).bind fun c =>
      if c.isSome=true then
        (i64 (i27+1)).bind fun i87 =>
        some ((c.getD ([],0)).1,i87)
      else
        (i64 (i27+1)).bind fun i89 =>
        ss a b n i89
    else
      if a=4 then
        some ([45],6)
      else
        if a=5 then
          some ([110,111,116],6)
        else
          some ([],7)
def cr  (b:Int):Option (List UInt8×Int):=
  (Io ).bind fun a =>
  ss b a (a.length+1) 0
def Ds (i51:Int) (a:List UInt8) (b:Int→(List UInt8)→Option (List UInt8)) (c:List UInt8):Option (List UInt8):=
  (tr c a).bind fun d =>
  (i64 (i51+1)).bind fun i134 =>
  b i134 d.2.2
def cn (a:List (List UInt8)):Nat→Int→(List UInt8)→Option (List UInt8)
  | 0,_,_=>none
  | n+1,i51,b =>
    if i51<(a.length:Int) then
      (at_ a i51).bind fun c =>
      (Qo b).bind fun d =>
      if (0:Int)<d then
        (jr b 32).bind fun e =>
        Ds i51 c (cn a n) e.2
      else
        Ds i51 c (cn a n) b
    else
      some b
def Wi  (b:List UInt8) (a:List (List UInt8)):Option (List UInt8):=
  cn a (a.length+1) 0 b
def Up (i51:Int) (a:List UInt8) (b:Int→(List UInt8)→Option (List UInt8)) (c:List UInt8):Option (List UInt8):=
  (tr c a).bind fun d =>
  (i64 (i51+1)).bind fun i134 =>
  b i134 d.2.2
def vk (a:List (List UInt8)):Nat→Int→(List UInt8)→Option (List UInt8)
  | 0,_,_=>none
  | n+1,i51,b =>
    if i51<(a.length:Int) then
      (at_ a i51).bind fun c =>
      (Qo b).bind fun d =>
      if (0:Int)<d then
        (jr b 32).bind fun e =>
        Up i51 c (vk a n) e.2
      else
        Up i51 c (vk a n) b
    else
      some b
def td  (b:List UInt8) (a:List (List UInt8)):Option (List UInt8):=
  vk a (a.length+1) 0 b
structure fj where
  Ie:(List UInt8)→wa→Int→Option (List UInt8)
  xf:(List UInt8)→(List wa)→Option (List UInt8)
def Hp (self:fj) (a:wa) (b:List UInt8×Int) (c:List UInt8) (d:Int):Option (List UInt8):=
  (at_ a.Kids 0).bind fun e =>
  (self.Ie c e d).bind fun f =>
  (td f [b.1]).bind fun g =>
  (at_ a.Kids 1).bind fun h =>
  (i64 (b.2+1)).bind fun i =>
  (self.Ie g h i).bind fun j =>
  (Wi j [[41]]).bind fun k =>
  some k
def Ip (self:fj) (a:wa) (c:List UInt8×Int) (b:List UInt8) (d:Bool):Option (List UInt8):=
  if d=true then
    (td b [c.1]).bind fun e =>
    (at_ a.Kids 0).bind fun f =>
    (self.Ie e f 6).bind fun g =>
    (Wi g [[41]]).bind fun h =>
    some h
  else
    if a.Kind=20 then
      (td b [[114,101,99,118],[40],a.Name,[41]]).bind fun i =>
      (Wi i [[41]]).bind fun j =>
      some j
    else
      if a.Kind=21 then
        (td b [[121,105,101,108,100]]).bind fun k =>
        (self.xf k a.Kids).bind fun l =>
        (Wi l [[41]]).bind fun m =>
        some m
      else
        if a.Kind=23 then
          (td b [[114,101,115,117,109,101]]).bind fun n =>
          (self.xf n a.Kids).bind fun o =>
          (Wi o [[41]]).bind fun p =>
          some p
        else
          if a.Kind=24 then
            (td b [[97,108,105,118,101]]).bind fun q =>
            (self.xf q a.Kids).bind fun r =>
            (Wi r [[41]]).bind fun s =>
            some s
          else
            if a.Kind=22 then
              (td b [[115,116,97,114,116],a.Name]).bind fun t =>
              (self.xf t a.Kids).bind fun u =>
              (Wi u [[41]]).bind fun v =>
              some v
            else
              if a.Kind=19 then
                (td b [a.Name]).bind fun w =>
                (self.xf w a.Kids).bind fun x =>
                (Wi x [[41]]).bind fun y =>
                some y
              else
                if c.2=3 then
                  (i64 (c.2+1)).bind fun z =>
                  Hp self a c b z
                else
                  Hp self a c b c.2
def Pn (self:fj) (a:wa) (c:List UInt8) (b:List UInt8×Int) (d:Int):Option (List UInt8):=
  (at_ a.Kids 0).bind fun e =>
  (self.Ie c e d).bind fun f =>
  (td f [b.1]).bind fun g =>
  (at_ a.Kids 1).bind fun h =>
  (i64 (b.2+1)).bind fun i =>
  (self.Ie g h i).bind fun j =>
  some j
def uk (self:fj) (a:wa) (b:List UInt8) (c:List UInt8×Int) (d:Bool):Option (List UInt8):=
  if d=true then
    (td b [c.1]).bind fun e =>
    (at_ a.Kids 0).bind fun f =>
    (self.Ie e f 6).bind fun g =>
    some g
  else
    if a.Kind=20 then
      (td b [[114,101,99,118],[40],a.Name,[41]]).bind fun h =>
      some h
    else
      if a.Kind=21 then
        (td b [[121,105,101,108,100]]).bind fun i =>
        (self.xf i a.Kids).bind fun j =>
        some j
      else
        if a.Kind=23 then
          (td b [[114,101,115,117,109,101]]).bind fun k =>
          (self.xf k a.Kids).bind fun l =>
          some l
        else
          if a.Kind=24 then
            (td b [[97,108,105,118,101]]).bind fun m =>
            (self.xf m a.Kids).bind fun n =>
            some n
          else
            if a.Kind=22 then
              (td b [[115,116,97,114,116],a.Name]).bind fun o =>
              (self.xf o a.Kids).bind fun p =>
              some p
            else
              if a.Kind=19 then
                (td b [a.Name]).bind fun q =>
                (self.xf q a.Kids).bind fun r =>
                some r
              else
                if c.2=3 then
                  (i64 (c.2+1)).bind fun s =>
                  Pn self a b c s
                else
                  Pn self a b c c.2
def Ie (self:fj) (b:List UInt8) (a:wa) (e:Int):Option (List UInt8):=
  (cr a.Kind).bind fun c =>
  if c.2<e then
    (td b [[40]]).bind fun d =>
    if a.Kind=1 then
      (vn a.N).bind fun f =>
      (td d [f]).bind fun g =>
      (Wi g [[41]]).bind fun h =>
      some h
    else
      if a.Kind=2 then
        (at_ [[102,97,108,115,101],[116,114,117,101]] a.N).bind fun i =>
        (td d [i]).bind fun j =>
        (Wi j [[41]]).bind fun k =>
        some k
      else
        if a.Kind=3 then
          (td d [a.Name]).bind fun l =>
          (Wi l [[41]]).bind fun m =>
          some m
        else
          if a.Kind=4 then
            Ip self a c d (decide (a.Kind=4))
          else
            Ip self a c d (decide (a.Kind=5))
  else
    if a.Kind=1 then
      (vn a.N).bind fun n =>
      (td b [n]).bind fun r417 =>
      some r417
    else
      if a.Kind=2 then
        (at_ [[102,97,108,115,101],[116,114,117,101]] a.N).bind fun o =>
        (td b [o]).bind fun p =>
        some p
      else
        if a.Kind=3 then
          (td b [a.Name]).bind fun q =>
          some q
        else
          if a.Kind=4 then
            uk self a b c (decide (a.Kind=4))
          else
            uk self a b c (decide (a.Kind=5))
def Jp (self:fj) (a:List wa) (i67:Int) (b:Int→(List UInt8)→Option (List UInt8)) (c:List UInt8):Option (List UInt8):=
  (at_ a i67).bind fun d =>
  (self.Ie c d 1).bind fun e =>
  (i64 (i67+1)).bind fun i158 =>
  b i158 e
def dn (self:fj) (a:List wa):Nat→Int→(List UInt8)→Option (List UInt8)
  | 0,_,_=>none
  | n+1,i67,b =>
    if i67<(a.length:Int) then
      if (0:Int)<i67 then
        (td b [[44]]).bind fun c =>
        Jp self a i67 (dn self a n) c
      else
        Jp self a i67 (dn self a n) b
    else
      (td b [[41]]).bind fun d =>
      some d
def xf (self:fj) (b:List UInt8) (a:List wa):Option (List UInt8):=
  (td b [[40]]).bind fun c =>
  dn self a (a.length+1) 0 c
def yk:Nat→fj
  | 0=>⟨fun _ _ _=>none,fun _ _=>none⟩
  | n+1=>⟨Ie (yk n),xf (yk n)⟩
structure Ul where
  Xi:(List UInt8)→(List ib)→Option (List UInt8)
  Qj:(List UInt8)→ib→Option (List UInt8)
def Kp (self:Ul) (a:List ib):Nat→Int→(List UInt8)→Option (List UInt8)
  | 0,_,_=>none
  | n+1,i55,b =>
    if i55<(a.length:Int) then
      (at_ a i55).bind fun c =>
      (self.Qj b c).bind fun d =>
      (i64 (i55+1)).bind fun i118 =>
      Kp self a n i118 d
    else
      (td b [[125]]).bind fun e =>
      some e
def Xi (self:Ul) (b:List UInt8) (a:List ib):Option (List UInt8):=
  (td b [[123]]).bind fun c =>
  Kp self a (a.length+1) 0 c
def Lp  (a:List UInt8):Option (List UInt8):=
  (td a [[59]]).bind fun b =>
  some b
def en (fu:Nat) (a:ib) (b:List UInt8):Option (List UInt8):=
  if a.Kind≠6 then
    ((yk fu).Ie b a.X 1).bind fun c =>
    Lp c
  else
    Lp b
def yo (self:Ul) (b:ib) (a:List UInt8) (c:Bool):Option (List UInt8):=
  if c=true then
    (td a [[101,108,115,101]]).bind fun d =>
    (self.Xi d b.Nc).bind fun e =>
    some e
  else
    some a
def Mp (fu:Nat) (self:Ul) (a:ib) (b:List UInt8) (d:Bool):Option (List UInt8):=
  if d=true then
    (td b [((Ud (qc (qc ([]:List (Int×List UInt8)) 3 [105,102]) 4 [119,104,105,108,101]) a.Kind).getD [])]).bind fun e =>
    ((yk fu).Ie e a.X 1).bind fun f =>
    (self.Xi f a.Body).bind fun c =>
    if a.Kind=3 then
      yo self a c (decide ((0:Int)<(a.Nc.length:Int)))
    else
      yo self a c false
  else
    if a.Kind=1 then
      (td b [[108,101,116],a.Name,[61]]).bind fun g =>
      en fu a g
    else
      if a.Kind=2 then
        (td b [a.Name,[61]]).bind fun h =>
        en fu a h
      else
        if a.Kind=7 then
          (td b [[115,101,110,100],a.Name]).bind fun i =>
          en fu a i
        else
          (td b [((Ud (qc (qc (qc (qc ([]:List (Int×List UInt8)) 5 [114,101,116,117,114,110]) 6 [115,116,111,112]) 8 [111,117,116]) 9 [100,111]) a.Kind).getD [])]).bind fun j =>
          en fu a j
def Qj (fu:Nat) (self:Ul) (b:List UInt8) (a:ib):Option (List UInt8):=
  if a.Kind=3 then
    Mp fu self a b (decide (a.Kind=3))
  else
    Mp fu self a b (decide (a.Kind=4))
def nn:Nat→Ul
  | 0=>⟨fun _ _=>none,fun _ _=>none⟩
  | n+1=>⟨Xi (nn n),Qj n (nn n)⟩
def Vp (fu:Nat) (a:sb) (b:List UInt8):Option (List UInt8):=
  ((nn fu).Xi b a.Body).bind fun c =>
  some c
def Ps  (a:List UInt8):Option (List UInt8):=
  some a
def Qs (i162:Int) (a:Int→(List UInt8)→Option (List UInt8)) (b:List UInt8):Option (List UInt8):=
  (i64 (i162+1)).bind fun c =>
  a c b
def Wp (i162:Int) (a:TParam) (b:Int→(List UInt8)→Option (List UInt8)) (c:List UInt8):Option (List UInt8):=
  (tm a.Rb).bind fun d =>
  (td c [a.Name,d]).bind fun e =>
  Qs i162 b e
def km (fu:Nat) (a:sb) (b:List UInt8):Option (List UInt8):=
  (tm a.Rb).bind fun c =>
  (td b [c]).bind fun d =>
  Vp fu a d
def Al (fu:Nat) (a:sb):Nat→Int→(List UInt8)→Option (List UInt8)
  | 0,_,_=>none
  | n+1,i162,b =>
    if i162<(a.Params.length:Int) then
      (at_ a.Params i162).bind fun c =>
      if (0:Int)<i162 then
        (td b [[44]]).bind fun e =>
        Wp i162 c (Al fu a n) e
      else
        Wp i162 c (Al fu a n) b
    else
      (td b [[41]]).bind fun d =>
      if a.Kind=3 then
        (tm a.Bd).bind fun f =>
        (td d [[116,97,107,101,115],f,[121,105,101,108,100,115]]).bind fun g =>
        km fu a g
      else
        km fu a d
def Xq (fu:Nat) (a:sb) (b:List UInt8):Option (List UInt8):=
  Al fu a (a.Params.length+1) 0 b
def ur (fu:Nat)  (b:List UInt8) (a:sb):Option (List UInt8):=
  if a.Kind=1 then
    (tm a.Rb).bind fun c =>
    (vn a.re).bind fun d =>
    (td b [[98,111,120],a.Name,c,d,[59]]).bind fun e =>
    Ps e
  else
    if a.Kind=4 then
      (td b [[116,97,115,107],a.Name]).bind fun f =>
      Vp fu a f
    else
      (td b [((Ud (qc (qc ([]:List (Int×List UInt8)) 2 [102,110]) 3 [103,101,110]) a.Kind).getD []),a.Name,[40]]).bind fun g =>
      Xq fu a g
def uo (fu:Nat) (a:List sb):Nat→Int→(List UInt8)→Option (List UInt8×yb)
  | 0,_,_=>none
  | n+1,i39,b =>
    if i39<(a.length:Int) then
      (at_ a i39).bind fun c =>
      (ur fu b c).bind fun d =>
      (i64 (i39+1)).bind fun i96 =>
      uo fu a n i96 d
    else
      (Qo b).bind fun e =>
      if (6000:Int)<e then
        some ([],(yb.mk 4 0))
      else
        some (b,(yb.mk 0 0))
def hn (fu:Nat)  (a:List sb):Option (List UInt8×yb):=
  (lh fu a).bind fun b =>
  if b.Wd≠0 then
    some ([],b)
  else
    uo fu a (a.length+1) 0 []
end Go.Y
namespace Go.Y
open Go.Sb Go.ec
def ts (a:zc) (b:List UInt8):Option zc :=
  some (zc.mk a.Kind b)
def Jo  (a:zc):Option zc :=
  if a.Kind≠3 then
    ts a []
  else
    ts a a.Qc
structure xn where
  xk:wa→Option wa
def zs (i56:Int) (a:Int→(List wa)→Option wa) (b:List wa):Option wa :=
  (i64 (i56+1)).bind fun i124 =>
  a i124 b
def wo (self:xn) (a:wa) (i16:Int) (b:List UInt8):Nat→Int→(List wa)→Option wa
  | 0,_,_=>none
  | n+1,i56,c =>
    if i56<(a.Kids.length:Int) then
      (at_ a.Kids i56).bind fun d =>
      (self.xk d).bind fun e =>
      (Zj 2513169434916 c [e]).bind fun f =>
      zs i56 (wo self a i16 b n) f
    else
      some (wa.mk a.Kind i16 b c)
def zp (self:xn) (a:wa) (i16:Int) (b:List UInt8):Option wa :=
  wo self a i16 b (a.Kids.length+1) 0 []
def Jn (self:xn) (a:wa) (i16:Int) (b:Bool):Option wa :=
  if b=true then
    zp self a i16 a.Name
  else
    zp self a i16 []
def Ap (self:xn) (a:wa) (i16:Int):Option wa :=
  if a.Kind=3 then
    Jn self a i16 true
  else
    if a.Kind=20 then
      Jn self a i16 true
    else
      if a.Kind=19 then
        Jn self a i16 true
      else
        Jn self a i16 (decide (a.Kind=22))
def Bp (self:xn) (a:wa) (b:Bool):Option wa :=
  if b=true then
    Ap self a a.N
  else
    Ap self a 0
def xk (self:xn) (a:wa):Option wa :=
  if a.Kind=1 then
    Bp self a true
  else
    Bp self a (decide (a.Kind=2))
def mm:Nat→xn
  | 0=>⟨fun _=>none⟩
  | n+1=>⟨xk (mm n)⟩
structure Im where
  qj:(List ib)→Option (List ib)
def np (i77:Int) (a:List ib) (b:ib) (c:List UInt8) (i182:Int) (i183:Int) (d:List UInt8) (e:List wa) (f:List ib) (g:Int→(List ib)→Option (List ib)) (h:List ib):Option (List ib):=
  (Zj 1099511627776 a [(ib.mk b.Kind c (wa.mk i182 i183 d e) f h)]).bind fun i =>
  (i64 (i77+1)).bind fun i234 =>
  g i234 i
def qp (self:Im) (i77:Int) (b:List ib) (a:ib) (c:List UInt8) (i182:Int) (i183:Int) (d:List UInt8) (e:List wa) (f:Int→(List ib)→Option (List ib)) (g:List ib):Option (List ib):=
  if a.Kind=3 then
    (self.qj a.Nc).bind fun h =>
    np i77 b a c i182 i183 d e g f h
  else
    np i77 b a c i182 i183 d e g f []
def rp (self:Im) (i77:Int) (b:List ib) (a:ib) (c:List UInt8) (i182:Int) (i183:Int) (d:List UInt8) (e:List wa) (f:Int→(List ib)→Option (List ib)) (g:Bool):Option (List ib):=
  if g=true then
    (self.qj a.Body).bind fun h =>
    qp self i77 b a c i182 i183 d e f h
  else
    qp self i77 b a c i182 i183 d e f []
def tp (self:Im) (i77:Int) (b:List ib) (a:ib) (c:List UInt8) (d:Int→(List ib)→Option (List ib)) (i182:Int) (i183:Int) (e:List UInt8) (f:List wa):Option (List ib):=
  if a.Kind=3 then
    rp self i77 b a c i182 i183 e f d true
  else
    rp self i77 b a c i182 i183 e f d (decide (a.Kind=4))
def vp (fu:Nat) (self:Im) (i77:Int) (c:List ib) (a:ib) (d:Int→(List ib)→Option (List ib)) (e:List UInt8):Option (List ib):=
  if a.Kind≠6 then
    ((mm fu).xk a.X).bind fun b =>
    tp self i77 c a e d b.Kind b.N b.Name b.Kids
  else
    tp self i77 c a e d 0 0 [] []
def vo (fu:Nat) (self:Im) (i77:Int) (b:List ib) (a:ib) (c:Int→(List ib)→Option (List ib)) (d:Bool):Option (List ib):=
  if d=true then
    vp fu self i77 b a c a.Name
  else
    vp fu self i77 b a c []
def Fh (fu:Nat) (self:Im) (b:List ib):Nat→Int→(List ib)→Option (List ib)
  | 0,_,_=>none
  | n+1,i77,c =>
    if i77<(b.length:Int) then
      (at_ b i77).bind fun a =>
      if a.Kind=1 then
        vo fu self i77 c a (Fh fu self b n) true
      else
        if a.Kind=2 then
          vo fu self i77 c a (Fh fu self b n) true
        else
          vo fu self i77 c a (Fh fu self b n) (decide (a.Kind=7))
    else
      some c
def qj (fu:Nat) (self:Im) (a:List ib):Option (List ib):=
  Fh fu self a (a.length+1) 0 []
def vi:Nat→Im
  | 0=>⟨fun _=>none⟩
  | n+1=>⟨qj n (vi n)⟩
def zo (i139:Int) (b:List sb) (a:sb) (c:Int) (d:List UInt8) (e:Int) (f:List ib) (g:Int) (h:List UInt8) (i:Int→(List sb)→Option (List sb)) (j:List TParam):Option (List sb):=
  (Zj 1099511627776 b [(sb.mk a.Kind a.Name (zc.mk c d) (zc.mk g h) e j f)]).bind fun k =>
  (i64 (i139+1)).bind fun l =>
  i l k
def Es (a:Int) (b:Int→(List TParam)→Option (List sb)) (c:List TParam):Option (List sb):=
  (i64 (a+1)).bind fun d =>
  b d c
def Ao (i139:Int) (c:List sb) (a:sb) (d:Int) (e:List UInt8) (f:Int) (g:List ib) (h:Int) (i:List UInt8) (j:Int→(List sb)→Option (List sb)):Nat→Int→(List TParam)→Option (List sb)
  | 0,_,_=>none
  | n+1,b,k =>
    if b<(a.Params.length:Int) then
      (at_ a.Params b).bind fun l =>
      (Jo l.Rb).bind fun m =>
      (Zj 3518437208883 k [(TParam.mk l.Name (zc.mk m.Kind m.Qc))]).bind fun o =>
      Es b (Ao i139 c a d e f g h i j n) o
    else
      zo i139 c a d e f g h i j k
def Np (i139:Int) (b:List sb) (a:sb) (c:Int) (d:List UInt8) (e:Int) (f:List ib) (g:Int) (h:List UInt8) (i:Int→(List sb)→Option (List sb)) (j:Bool):Option (List sb):=
  if j=true then
    Ao i139 b a c d e f g h i (a.Params.length+1) 0 []
  else
    zo i139 b a c d e f g h i []
def Pp (i139:Int) (b:List sb) (a:sb) (c:Int) (d:List UInt8) (e:Int) (f:List ib) (g:Int→(List sb)→Option (List sb)) (h:Int) (i:List UInt8):Option (List sb):=
  if a.Kind=2 then
    Np i139 b a c d e f h i g true
  else
    Np i139 b a c d e f h i g (decide (a.Kind=3))
def Qp (i139:Int) (b:List sb) (a:sb) (c:Int) (d:List UInt8) (e:Int→(List sb)→Option (List sb)) (f:Int) (g:List ib):Option (List sb):=
  if a.Kind=3 then
    (Jo a.Bd).bind fun h =>
    Pp i139 b a c d f g e h.Kind h.Qc
  else
    Pp i139 b a c d f g e 0 []
def Rp (fu:Nat) (i139:Int) (b:List sb) (a:sb) (c:Int→(List sb)→Option (List sb)) (d:Int) (e:List UInt8):Option (List sb):=
  if a.Kind=1 then
    Qp i139 b a d e c a.re []
  else
    ((vi fu).qj a.Body).bind fun f =>
    Qp i139 b a d e c 0 f
def xh (fu:Nat) (a:List sb):Nat→Int→(List sb)→Option (List sb)
  | 0,_,_=>none
  | n+1,i139,c =>
    if i139<(a.length:Int) then
      (at_ a i139).bind fun b =>
      if b.Kind≠4 then
        (Jo b.Rb).bind fun d =>
        Rp fu i139 c b (xh fu a n) d.Kind d.Qc
      else
        Rp fu i139 c b (xh fu a n) 0 []
    else
      some c
def kr (fu:Nat)  (a:List sb):Option (List sb):=
  xh fu a (a.length+1) 0 []
end Go.Y
namespace Go.Y
open Go.Sb Go.ec
def Cp (fu:Nat) (d:List UInt8):Option Bool :=
  (tj fu d).bind fun a =>
  if a.2.Wd≠0 then
    some true
  else
    (lh fu a.1).bind fun e =>
    if e.Wd≠0 then
      some false
    else
      (hn fu a.1).bind fun b =>
      if b.2.Wd≠0 then
        some (decide (b.2.Wd=4))
      else
        (tj fu b.1).bind fun c =>
        if c.2.Wd=0 then
          (mn fu a.1 c.1).bind fun f =>
          some f
        else
          some false
def Tq (fu:Nat) (a:List UInt8) (b:Bool):Option Bool :=
  if b=true then
    some false
  else
    Cp fu a
def dr (fu:Nat)  (b:List sb) (a:List UInt8):Option Bool :=
  (Zs fu).bind fun e =>
  if e=true then
    (hn fu b).bind fun c =>
    if c.2.Wd=0 then
      (tj fu c.1).bind fun d =>
      if d.2.Wd≠0 then
        Tq fu a true
      else
        (kr fu b).bind fun f =>
        (mn fu d.1 f).bind fun g =>
        Tq fu a (!g)
    else
      Cp fu a
  else
    some false
end Go.Y
namespace Go.Y
open Go.Sb Go.ec
def Bo (b:List (List UInt8)):Nat→Int→(List Ca)→Int→Int→Option (List Ca×Int×Int)
  | 0,_,_,_,_=>none
  | n+1,i30,c,i35,i36 =>
    if i30<(b.length:Int) then
      (at_ b i30).bind fun d =>
      (Cc c i35 i36 d).bind fun a =>
      if a.1=true then
        (i64 (i30+1)).bind fun i71 =>
        Bo b n i71 a.2.1 a.2.2.1 a.2.2.2
      else
        none
    else
      some (c,i35,i36)
def yh  (b:List Ca) (c:Int) (d:Int) (a:List (List UInt8)):Option (List Ca×Int×Int):=
  Bo a (a.length+1) 0 b c d
def Xp (fu:Nat) (a:List Ca) (c:Int) (d:Int) (e:Bool):Option (List UInt8×List Ca×Int×Int):=
  if e=true then
    none
  else
    (at_ a 0).bind fun b =>
    (De fu b.Text).bind fun f =>
    if f=true then
      (cut a 1 a.length).bind fun g =>
      some (b.Text,g,c,d)
    else
      none
def Zi (fu:Nat)  (a:List Ca) (b:Int) (c:Int):Option (List UInt8×List Ca×Int×Int):=
  if (a.length:Int)=0 then
    Xp fu a b c true
  else
    (at_ a 0).bind fun d =>
    Xp fu a b c (decide (d.Kind≠1))
def Dp (a:List Ca) (b:Int) (c:Int) (d:Bool):Option (Int×List Ca×Int×Int):=
  if d=true then
    none
  else
    (at_ a 0).bind fun e =>
    (cut a 1 a.length).bind fun f =>
    some (e.Tm,f,b,c)
def aq  (a:List Ca) (b:Int) (c:Int):Option (Int×List Ca×Int×Int):=
  if (a.length:Int)=0 then
    Dp a b c true
  else
    (at_ a 0).bind fun d =>
    Dp a b c (decide (d.Kind≠2))
def yn (fu:Nat)  (d:List Ca) (e:Int) (f:Int):Option (zc×List Ca×Int×Int):=
  (Cc d e f [110,117,109]).bind fun a =>
  if a.1=true then
    some ((zc.mk 1 []),a.2.1,a.2.2.1,a.2.2.2)
  else
    (Cc a.2.1 a.2.2.1 a.2.2.2 [98,111,111,108]).bind fun b =>
    if b.1=true then
      some ((zc.mk 2 []),b.2.1,b.2.2.1,b.2.2.2)
    else
      (Zi fu b.2.1 b.2.2.1 b.2.2.2).bind fun c =>
      some ((zc.mk 3 c.1),c.2.1,c.2.2.1,c.2.2.2)
def Ep (fu:Nat) (c:List TParam) (d:(List Ca)→Int→Int→(List TParam)→Option (List TParam×List Ca×Int×Int)) (e:List Ca) (i131:Int) (i132:Int):Option (List TParam×List Ca×Int×Int):=
  if (c.length:Int)=6 then
    none
  else
    (Zi fu e i131 i132).bind fun b =>
    (yn fu b.2.1 b.2.2.1 b.2.2.2).bind fun a =>
    (app c [(TParam.mk b.1 (zc.mk a.1.Kind a.1.Qc))]).bind fun f =>
    d a.2.1 a.2.2.1 a.2.2.2 f
def tk (fu:Nat):Nat→(List Ca)→Int→Int→(List TParam)→Option (List TParam×List Ca×Int×Int)
  | 0,_,_,_,_=>none
  | n+1,d,i70,i71,b =>
    (Cc d i70 i71 [41]).bind fun a =>
    if a.1=true then
      some (b,a.2.1,a.2.2.1,a.2.2.2)
    else
      if (0:Int)<(b.length:Int) then
        (yh a.2.1 a.2.2.1 a.2.2.2 [[44]]).bind fun c =>
        Ep fu b (tk fu n) c.1 c.2.1 c.2.2
      else
        Ep fu b (tk fu n) a.2.1 a.2.2.1 a.2.2.2
def bq (fu:Nat)  (b:List Ca) (c:Int) (d:Int):Option (List TParam×List Ca×Int×Int):=
  (yh b c d [[40]]).bind fun a =>
  tk fu fu a.1 a.2.1 a.2.2 []
def Fl  (a:List Ca) (b:Int) (c:Int):Option (List Ca×Int×Int):=
  (i64 (c+1)).bind fun i14 =>
  if (200:Int)<i14 then
    none
  else
    some (a,b,i14)
structure Yj where
  Yg:(List Ca)→Int→Int→Option (wa×List Ca×Int×Int)
  hi:(List Ca)→Int→Int→Int→Option (wa×List Ca×Int×Int)
  Yi:(List Ca)→Int→Int→Option (wa×List Ca×Int×Int)
  Hf:(List Ca)→Int→Int→Option (wa×List Ca×Int×Int)
  zm:(List Ca)→Int→Int→Option (List wa×List Ca×Int×Int)
  Rj:(List Ca)→Int→Int→Int→Int→Option (wa×List Ca×Int×Int)
def Yg (self:Yj) (d:List Ca) (e:Int) (f:Int):Option (wa×List Ca×Int×Int):=
  (Fl d e f).bind fun b =>
  (self.hi b.1 b.2.1 b.2.2 0).bind fun a =>
  (Gg a.2.1 a.2.2.1 a.2.2.2).bind fun c =>
  some (a.1,c.1,c.2.1,c.2.2)
def Sp  (a:List Ca) (i50:Int) (i51:Int) (i52:Int) (i53:Int) (b:List UInt8) (c:List wa):Option (wa×List Ca×Int×Int):=
  some ((wa.mk i52 i53 b c),a,i50,i51)
def Fs (f:Int) (g:List Xe) (a:Xe) (b:Ca) (h:(List Ca)→Int→Int→Int→Int→(List UInt8)→(List wa)→Option (wa×List Ca×Int×Int)) (c:List Ca) (d:Int) (i218:Int) (e:List wa):Option (wa×List Ca×Int×Int):=
  (at_ g f).bind fun i =>
  if i.once=true then
    Sp c d i218 ((Ud a.og b.Text).getD 0) 0 [] e
  else
    h c d i218 ((Ud a.og b.Text).getD 0) 0 [] e
def im (self:Yj) (b:Int) (d:List Xe):Nat→(List Ca)→Int→Int→Int→Int→(List UInt8)→(List wa)→Option (wa×List Ca×Int×Int)
  | 0,_,_,_,_,_,_,_=>none
  | n+1,a,i116,i117,i118,i119,e,f =>
    if (0:Int)<(a.length:Int) then
      (at_ d b).bind fun g =>
      (at_ a 0).bind fun h =>
      if ((Ud g.og h.Text).getD 0)=0 then
        Sp a i116 i117 i118 i119 e f
      else
        (cut a 1 a.length).bind fun i =>
        (i64 (b+1)).bind fun j =>
        (self.hi i i116 i117 j).bind fun c =>
        Fs b d g h (im self b d n) c.2.1 c.2.2.1 c.2.2.2 [(wa.mk i118 i119 e f),c.1]
    else
      Sp a i116 i117 i118 i119 e f
def hi (fu:Nat) (self:Yj) (d:List Ca) (e:Int) (f:Int) (c:Int):Option (wa×List Ca×Int×Int):=
  (Io ).bind fun g =>
  if c=(g.length:Int) then
    (self.Yi d e f).bind fun b =>
    some (b.1,b.2.1,b.2.2.1,b.2.2.2)
  else
    (i64 (c+1)).bind fun i33 =>
    (self.hi d e f i33).bind fun a =>
    im self c g fu a.2.1 a.2.2.1 a.2.2.2 a.1.Kind a.1.N a.1.Name a.1.Kids
def Yi (self:Yj) (j:List Ca) (k:Int) (l:Int):Option (wa×List Ca×Int×Int):=
  (Cc j k l [45]).bind fun a =>
  if a.1=true then
    (Fl a.2.1 a.2.2.1 a.2.2.2).bind fun f =>
    (self.Yi f.1 f.2.1 f.2.2).bind fun c =>
    (Gg c.2.1 c.2.2.1 c.2.2.2).bind fun g =>
    some ((wa.mk 4 0 [] [c.1]),g.1,g.2.1,g.2.2)
  else
    (Cc a.2.1 a.2.2.1 a.2.2.2 [110,111,116]).bind fun b =>
    if b.1=true then
      (Fl b.2.1 b.2.2.1 b.2.2.2).bind fun h =>
      (self.Yi h.1 h.2.1 h.2.2).bind fun d =>
      (Gg d.2.1 d.2.2.1 d.2.2.2).bind fun i =>
      some ((wa.mk 5 0 [] [d.1]),i.1,i.2.1,i.2.2)
    else
      (self.Hf b.2.1 b.2.2.1 b.2.2.2).bind fun e =>
      some (e.1,e.2.1,e.2.2.1,e.2.2.2)
def yg (fu:Nat) (self:Yj) (v:List Ca) (w:Int) (x:Int) (y:Bool):Option (wa×List Ca×Int×Int):=
  if y=true then
    (aq v w x).bind fun j =>
    some ((wa.mk 1 j.1 [] ([]:List wa)),j.2.1,j.2.2.1,j.2.2.2)
  else
    (Cc v w x [116,114,117,101]).bind fun b =>
    if b.1=true then
      some ((wa.mk 2 1 [] ([]:List wa)),b.2.1,b.2.2.1,b.2.2.2)
    else
      (Cc b.2.1 b.2.2.1 b.2.2.2 [102,97,108,115,101]).bind fun c =>
      if c.1=true then
        some ((wa.mk 2 0 [] ([]:List wa)),c.2.1,c.2.2.1,c.2.2.2)
      else
        (Cc c.2.1 c.2.2.1 c.2.2.2 [40]).bind fun d =>
        if d.1=true then
          (self.Yg d.2.1 d.2.2.1 d.2.2.2).bind fun k =>
          (yh k.2.1 k.2.2.1 k.2.2.2 [[41]]).bind fun s =>
          some (k.1,s.1,s.2.1,s.2.2)
        else
          (Cc d.2.1 d.2.2.1 d.2.2.2 [114,101,99,118]).bind fun e =>
          if e.1=true then
            (yh e.2.1 e.2.2.1 e.2.2.2 [[40]]).bind fun t =>
            (Zi fu t.1 t.2.1 t.2.2).bind fun l =>
            (yh l.2.1 l.2.2.1 l.2.2.2 [[41]]).bind fun u =>
            some ((wa.mk 20 0 l.1 ([]:List wa)),u.1,u.2.1,u.2.2)
          else
            (Cc e.2.1 e.2.2.1 e.2.2.2 [121,105,101,108,100]).bind fun f =>
            if f.1=true then
              (self.Rj f.2.1 f.2.2.1 f.2.2.2 21 1).bind fun m =>
              some (m.1,m.2.1,m.2.2.1,m.2.2.2)
            else
              (Cc f.2.1 f.2.2.1 f.2.2.2 [114,101,115,117,109,101]).bind fun g =>
              if g.1=true then
                (self.Rj g.2.1 g.2.2.1 g.2.2.2 23 2).bind fun n =>
                some (n.1,n.2.1,n.2.2.1,n.2.2.2)
              else
                (Cc g.2.1 g.2.2.1 g.2.2.2 [97,108,105,118,101]).bind fun h =>
                if h.1=true then
                  (self.Rj h.2.1 h.2.2.1 h.2.2.2 24 1).bind fun o =>
                  some (o.1,o.2.1,o.2.2.1,o.2.2.2)
                else
                  (Cc h.2.1 h.2.2.1 h.2.2.2 [115,116,97,114,116]).bind fun i =>
                  if i.1=true then
                    (Zi fu i.2.1 i.2.2.1 i.2.2.2).bind fun p =>
                    (self.zm p.2.1 p.2.2.1 p.2.2.2).bind fun q =>
                    some ((wa.mk 22 0 p.1 q.1),q.2.1,q.2.2.1,q.2.2.2)
                  else
                    (Zi fu i.2.1 i.2.2.1 i.2.2.2).bind fun a =>
                    (Og a.2.1 a.2.2.1 a.2.2.2 [40]).bind fun z =>
                    if z=true then
                      (self.zm a.2.1 a.2.2.1 a.2.2.2).bind fun r =>
                      some ((wa.mk 19 0 a.1 r.1),r.2.1,r.2.2.1,r.2.2.2)
                    else
                      some ((wa.mk 3 0 a.1 ([]:List wa)),a.2.1,a.2.2.1,a.2.2.2)
def Hf (fu:Nat) (self:Yj) (a:List Ca) (b:Int) (c:Int):Option (wa×List Ca×Int×Int):=
  if (0:Int)<(a.length:Int) then
    (at_ a 0).bind fun d =>
    yg fu self a b c (decide (d.Kind=2))
  else
    yg fu self a b c false
def Yp (self:Yj) (b:List wa) (c:(List Ca)→Int→Int→(List wa)→Option (List wa×List Ca×Int×Int)) (d:List Ca) (i125:Int) (i126:Int):Option (List wa×List Ca×Int×Int):=
  if (b.length:Int)=6 then
    none
  else
    (self.Yg d i125 i126).bind fun a =>
    (app b [a.1]).bind fun e =>
    c a.2.1 a.2.2.1 a.2.2.2 e
def Sk (self:Yj):Nat→(List Ca)→Int→Int→(List wa)→Option (List wa×List Ca×Int×Int)
  | 0,_,_,_,_=>none
  | n+1,d,i67,i68,b =>
    (Cc d i67 i68 [41]).bind fun a =>
    if a.1=true then
      some (b,a.2.1,a.2.2.1,a.2.2.2)
    else
      if (0:Int)<(b.length:Int) then
        (yh a.2.1 a.2.2.1 a.2.2.2 [[44]]).bind fun c =>
        Yp self b (Sk self n) c.1 c.2.1 c.2.2
      else
        Yp self b (Sk self n) a.2.1 a.2.2.1 a.2.2.2
def zm (fu:Nat) (self:Yj) (b:List Ca) (c:Int) (d:Int):Option (List wa×List Ca×Int×Int):=
  (yh b c d [[40]]).bind fun a =>
  Sk self fu a.1 a.2.1 a.2.2 []
def Wq (i63:Int) (a:Int→(List Ca)→Int→Int→(List wa)→Option (wa×List Ca×Int×Int)) (b:List Ca) (i135:Int) (i136:Int) (c:List wa):Option (wa×List Ca×Int×Int):=
  (i64 (i63+1)).bind fun i160 =>
  a i160 b i135 i136 c
def Tp (self:Yj) (i63:Int) (b:List wa) (c:Int→(List Ca)→Int→Int→(List wa)→Option (wa×List Ca×Int×Int)) (d:List Ca) (i116:Int) (i117:Int):Option (wa×List Ca×Int×Int):=
  (self.Yg d i116 i117).bind fun a =>
  (app b [a.1]).bind fun e =>
  Wq i63 c a.2.1 a.2.2.1 a.2.2.2 e
def zl (self:Yj) (a:Int) (b:Int):Nat→Int→(List Ca)→Int→Int→(List wa)→Option (wa×List Ca×Int×Int)
  | 0,_,_,_,_,_=>none
  | n+1,i63,c,i68,i69,d =>
    if i63<b then
      if (0:Int)<i63 then
        (yh c i68 i69 [[44]]).bind fun e =>
        Tp self i63 d (zl self a b n) e.1 e.2.1 e.2.2
      else
        Tp self i63 d (zl self a b n) c i68 i69
    else
      (yh c i68 i69 [[41]]).bind fun f =>
      some ((wa.mk a 0 [] d),f.1,f.2.1,f.2.2)
def Rj (self:Yj) (c:List Ca) (d:Int) (e:Int) (f:Int) (b:Int):Option (wa×List Ca×Int×Int):=
  (yh c d e [[40]]).bind fun a =>
  zl self f b ((b - 0).toNat+1) 0 a.1 a.2.1 a.2.2 []
def Ac:Nat→Yj
  | 0=>⟨fun _ _ _=>none,fun _ _ _ _=>none,fun _ _ _=>none,fun _ _ _=>none,fun _ _ _=>none,fun _ _ _ _ _=>none⟩
  | n+1=>⟨Yg (Ac n),hi n (Ac n),Yi (Ac n),Hf n (Ac n),zm n (Ac n),Rj (Ac n)⟩
structure Er where
  vj:(List Ca)→Int→Int→Option (List ib×List Ca×Int×Int)
  Ai:(List Ca)→Int→Int→Option (ib×List Ca×Int×Int)
def Co (self:Er):Nat→(List Ca)→Int→Int→(List ib)→Option (List ib×List Ca×Int×Int)
  | 0,_,_,_,_=>none
  | n+1,e,i65,i66,c =>
    (Cc e i65 i66 [125]).bind fun a =>
    if a.1=true then
      (Gg a.2.1 a.2.2.1 a.2.2.2).bind fun d =>
      some (c,d.1,d.2.1,d.2.2)
    else
      if (c.length:Int)=50 then
        none
      else
        (self.Ai a.2.1 a.2.2.1 a.2.2.2).bind fun b =>
        (app c [b.1]).bind fun f =>
        Co self n b.2.1 b.2.2.1 b.2.2.2 f
def vj (fu:Nat) (self:Er) (c:List Ca) (d:Int) (e:Int):Option (List ib×List Ca×Int×Int):=
  (Fl c d e).bind fun a =>
  (yh a.1 a.2.1 a.2.2 [[123]]).bind fun b =>
  Co self fu b.1 b.2.1 b.2.2 []
def Tk  (b:List Ca) (i28:Int) (i29:Int) (i30:Int) (c:List UInt8) (i33:Int) (i34:Int) (d:List UInt8) (e:List wa):Option (ib×List Ca×Int×Int):=
  (yh b i28 i29 [[59]]).bind fun a =>
  some ((ib.mk i30 c (wa.mk i33 i34 d e) ([]:List ib) ([]:List ib)),a.1,a.2.1,a.2.2)
def Rs (a:wa×List Ca×Int×Int) (b:List ib×List Ca×Int×Int) (c:List Ca) (i75:Int) (i76:Int) (d:List ib):Option (ib×List Ca×Int×Int):=
  some ((ib.mk 3 [] (wa.mk a.1.Kind a.1.N a.1.Name a.1.Kids) b.1 d),c,i75,i76)
def Ai (fu:Nat) (self:Er) (z:List Ca) (A:Int) (B:Int):Option (ib×List Ca×Int×Int):=
  (Cc z A B [105,102]).bind fun a =>
  if a.1=true then
    ((Ac fu).Yg a.2.1 a.2.2.1 a.2.2.2).bind fun q =>
    (self.vj q.2.1 q.2.2.1 q.2.2.2).bind fun r =>
    (Cc r.2.1 r.2.2.1 r.2.2.2 [101,108,115,101]).bind fun b =>
    if b.1=true then
      (self.vj b.2.1 b.2.2.1 b.2.2.2).bind fun s =>
      Rs q r s.2.1 s.2.2.1 s.2.2.2 s.1
    else
      Rs q r b.2.1 b.2.2.1 b.2.2.2 []
  else
    (Cc a.2.1 a.2.2.1 a.2.2.2 [119,104,105,108,101]).bind fun c =>
    if c.1=true then
      ((Ac fu).Yg c.2.1 c.2.2.1 c.2.2.2).bind fun d =>
      (self.vj d.2.1 d.2.2.1 d.2.2.2).bind fun t =>
      some ((ib.mk 4 [] (wa.mk d.1.Kind d.1.N d.1.Name d.1.Kids) t.1 ([]:List ib)),t.2.1,t.2.2.1,t.2.2.2)
    else
      (Cc c.2.1 c.2.2.1 c.2.2.2 [108,101,116]).bind fun e =>
      if e.1=true then
        (Zi fu e.2.1 e.2.2.1 e.2.2.2).bind fun u =>
        (yh u.2.1 u.2.2.1 u.2.2.2 [[61]]).bind fun x =>
        ((Ac fu).Yg x.1 x.2.1 x.2.2).bind fun f =>
        Tk f.2.1 f.2.2.1 f.2.2.2 1 u.1 f.1.Kind f.1.N f.1.Name f.1.Kids
      else
        (Cc e.2.1 e.2.2.1 e.2.2.2 [114,101,116,117,114,110]).bind fun g =>
        if g.1=true then
          ((Ac fu).Yg g.2.1 g.2.2.1 g.2.2.2).bind fun h =>
          Tk h.2.1 h.2.2.1 h.2.2.2 5 [] h.1.Kind h.1.N h.1.Name h.1.Kids
        else
          (Cc g.2.1 g.2.2.1 g.2.2.2 [115,116,111,112]).bind fun i =>
          if i.1=true then
            Tk i.2.1 i.2.2.1 i.2.2.2 6 [] 0 0 [] []
          else
            (Cc i.2.1 i.2.2.1 i.2.2.2 [115,101,110,100]).bind fun j =>
            if j.1=true then
              (Zi fu j.2.1 j.2.2.1 j.2.2.2).bind fun v =>
              ((Ac fu).Yg v.2.1 v.2.2.1 v.2.2.2).bind fun k =>
              Tk k.2.1 k.2.2.1 k.2.2.2 7 v.1 k.1.Kind k.1.N k.1.Name k.1.Kids
            else
              (Cc j.2.1 j.2.2.1 j.2.2.2 [111,117,116]).bind fun l =>
              if l.1=true then
                ((Ac fu).Yg l.2.1 l.2.2.1 l.2.2.2).bind fun m =>
                Tk m.2.1 m.2.2.1 m.2.2.2 8 [] m.1.Kind m.1.N m.1.Name m.1.Kids
              else
                (Cc l.2.1 l.2.2.1 l.2.2.2 [100,111]).bind fun n =>
                if n.1=true then
                  ((Ac fu).Yg n.2.1 n.2.2.1 n.2.2.2).bind fun o =>
                  Tk o.2.1 o.2.2.1 o.2.2.2 9 [] o.1.Kind o.1.N o.1.Name o.1.Kids
                else
                  (Zi fu n.2.1 n.2.2.1 n.2.2.2).bind fun w =>
                  (yh w.2.1 w.2.2.1 w.2.2.2 [[61]]).bind fun y =>
                  ((Ac fu).Yg y.1 y.2.1 y.2.2).bind fun p =>
                  Tk p.2.1 p.2.2.1 p.2.2.2 2 w.1 p.1.Kind p.1.N p.1.Name p.1.Kids
def rj:Nat→Er
  | 0=>⟨fun _ _ _=>none,fun _ _ _=>none⟩
  | n+1=>⟨vj n (rj n),Ai n (rj n)⟩
def cq (d:List UInt8×List Ca×Int×Int) (c:zc×List Ca×Int×Int) (a:Int×List Ca×Int×Int) (e:Bool):Option (sb×List Ca×Int×Int):=
  if e=true then
    none
  else
    (yh a.2.1 a.2.2.1 a.2.2.2 [[59]]).bind fun b =>
    some ((sb.mk 1 d.1 (zc.mk c.1.Kind c.1.Qc) (zc.mk 0 []) a.1 ([]:List TParam) ([]:List ib)),b.1,b.2.1,b.2.2)
def eo (fu:Nat)  (u:List Ca) (v:Int) (w:Int):Option (sb×List Ca×Int×Int):=
  (bh u v w).bind fun x =>
  (Cc u v w [98,111,120]).bind fun b =>
  if b.1=true then
    (Zi fu b.2.1 b.2.2.1 b.2.2.2).bind fun e =>
    (yn fu e.2.1 e.2.2.1 e.2.2.2).bind fun a =>
    (bh a.2.1 a.2.2.1 a.2.2.2).bind fun y =>
    (aq a.2.1 a.2.2.1 a.2.2.2).bind fun i =>
    if i.1<1 then
      cq e a i true
    else
      cq e a i (decide ((20:Int)<i.1))
  else
    (Cc b.2.1 b.2.2.1 b.2.2.2 [102,110]).bind fun c =>
    if c.1=true then
      (Zi fu c.2.1 c.2.2.1 c.2.2.2).bind fun j =>
      (bq fu j.2.1 j.2.2.1 j.2.2.2).bind fun k =>
      (yn fu k.2.1 k.2.2.1 k.2.2.2).bind fun f =>
      ((rj fu).vj f.2.1 f.2.2.1 f.2.2.2).bind fun l =>
      some ((sb.mk 2 j.1 (zc.mk f.1.Kind f.1.Qc) (zc.mk 0 []) 0 k.1 l.1),l.2.1,l.2.2.1,l.2.2.2)
    else
      (Cc c.2.1 c.2.2.1 c.2.2.2 [103,101,110]).bind fun d =>
      if d.1=true then
        (Zi fu d.2.1 d.2.2.1 d.2.2.2).bind fun m =>
        (bq fu m.2.1 m.2.2.1 m.2.2.2).bind fun n =>
        (yh n.2.1 n.2.2.1 n.2.2.2 [[116,97,107,101,115]]).bind fun s =>
        (yn fu s.1 s.2.1 s.2.2).bind fun g =>
        (yh g.2.1 g.2.2.1 g.2.2.2 [[121,105,101,108,100,115]]).bind fun t =>
        (yn fu t.1 t.2.1 t.2.2).bind fun h =>
        ((rj fu).vj h.2.1 h.2.2.1 h.2.2.2).bind fun o =>
        some ((sb.mk 3 m.1 (zc.mk h.1.Kind h.1.Qc) (zc.mk g.1.Kind g.1.Qc) 0 n.1 o.1),o.2.1,o.2.2.1,o.2.2.2)
      else
        (Cc d.2.1 d.2.2.1 d.2.2.2 [116,97,115,107]).bind fun p =>
        if p.1=true then
          (Zi fu p.2.1 p.2.2.1 p.2.2.2).bind fun q =>
          ((rj fu).vj q.2.1 q.2.2.1 q.2.2.2).bind fun r =>
          some ((sb.mk 4 q.1 (zc.mk 0 []) (zc.mk 0 []) 0 ([]:List TParam) r.1),r.2.1,r.2.2.1,r.2.2.2)
        else
          none
def bB (a:List Ca×yb):Option (List sb×yb):=
  some (([]:List sb),a.2)
def Vw (a:(List Ca)→Int→Int→(List sb)→Option (List sb×yb)) (b:List Ca) (i76:Int) (i77:Int) (c:List sb):Option (List sb×yb):=
  a b i76 i77 c
def cB (a:yb):Option (List sb×yb):=
  (Wn ).bind fun b =>
  some (([]:List sb),(yb.mk a.Wd 0))
def Ww (a:List Ca×yb) (b:List sb):Option (List sb×yb):=
  (Wn ).bind fun c =>
  some (b,a.2)
def Eo (fu:Nat) (c:List Ca×yb):Nat→(List Ca)→Int→Int→(List sb)→Option (List sb×yb)
  | 0,_,_,_,_=>none
  | n+1,d,i42,i43,a =>
    if (0:Int)<(d.length:Int) then
      if (a.length:Int)=30 then
        none
      else
        (eo fu d i42 i43).bind fun b =>
        (app a [b.1]).bind fun f =>
        Vw (Eo fu c n) b.2.1 b.2.2.1 b.2.2.2 f
    else
      (lh fu a).bind fun e =>
      if e.Wd≠0 then
        cB e
      else
        Ww c a
def vr (fu:Nat)  (b:List UInt8):Option (List sb×yb):=
  (Mn fu b).bind fun a =>
  if a.2.Wd≠0 then
    bB a
  else
    Eo fu a fu a.1 (b.length:Int) 0 []
end Go.Y
