/- Texts of Md. -/
import Derived.Test.YtbdiobhgejmgoaaGreatDoorCXu
import Derived.Test.YtbdiobhgejmgoaaGreatDoorCLf
set_option linter.unusedSimpArgs false
set_option linter.unusedVariables false
set_option linter.unusedSectionVars false
namespace Go.Y
open Go.cc Go.Kc
structure ab where
  Kind:Int
  N:Int
  Name:List UInt8
  Kids:List ab
  deriving Inhabited,Repr
structure Eb where
  Kind:Int
  Name:List UInt8
  X:ab
  Body:List Eb
  me:List Eb
  deriving Inhabited,Repr
def tj {α:Type}(Mb:Nat) (μ:M) (a:Option Addr) (c:Nat) (xs:List α) (g:Nat→List Value):Prop :=
  xs.length≤c∧c≤maxLen∧(xs=[]∨∃ b o,a=some ⟨b,o,none⟩∧∀ (i:Nat) (y:α),xs[i]?=some y→Td μ b (o+i*Mb) (g i))
inductive Ml (μ:M):List Value→ab→Prop where
  | mk (x:ab) (a:Option Addr) (c:Nat) (g:Nat→List Value) (h:tj 4 μ a c x.Kids g) (k:∀ (i:Nat) (y:ab),x.Kids[i]?=some y→Ml μ (g i) y) :
    Ml μ [.int .i64 x.Kind,.int .i64 x.N,S x.Name,.slice a x.Kids.length c] x
theorem tj.Hp {α:Type}{Mb:Nat}{μ:M}{a:Option Addr}{c:Nat}{xs:List α}{g:Nat→List Value}{R:List Value→α→Prop}(h:tj Mb μ a c xs g) (k:∀ (i:Nat) (y:α),xs[i]?=some y→R (g i) y):kd Mb R μ a c xs:=by
  refine ⟨h.1,h.2.1,?_⟩;rcases h.2.2 with h | ⟨b,o,e,f⟩
  · exact .inl h
  · exact .inr ⟨b,o,e,g,fun i x d=>⟨f i x d,k i x d⟩⟩
theorem tj.of {α:Type}{Mb:Nat}{μ:M}{a:Option Addr}{c:Nat}{xs:List α}{R:List Value→α→Prop}(h:kd Mb R μ a c xs):∃ g,tj Mb μ a c xs g∧∀ (i:Nat) (y:α),xs[i]?=some y→R (g i) y:=by
  rcases h.el with e | ⟨b,o,j,g,f⟩
  · exact ⟨fun _=>[],⟨h.le,h.cap,.inl e⟩,fun i y d=>by simp [e] at d⟩
  · exact ⟨g,⟨h.le,h.cap,.inr ⟨b,o,j,fun i y d=>(f i y d).1⟩⟩,fun i y d=>(f i y d).2⟩
theorem tj.up {α:Type}{Mb:Nat}{μ J:M}{a:Option Addr}{c:Nat}{xs:List α}{g:Nat→List Value}(h:tj Mb μ a c xs g) (l:ra μ J):tj Mb J a c xs g:=by
  refine ⟨h.1,h.2.1,?_⟩;rcases h.2.2 with h | ⟨b,o,d,e⟩
  · exact .inl h
  · exact .inr ⟨b,o,d,fun i y f=>(e i y f).up l⟩
theorem Ml.up {μ J:M}(l:ra μ J){cs:List Value}{x:ab}(h:Ml μ cs x):Ml J cs x:=by
  induction h with
  | mk x a c g h k b=>exact .mk x a c g (h.up l) b
instance:nc ab where
  Mb:=4
  pos:=by decide
  cs:=Ml
  Di h:=by cases h;rfl
  up l h:=Ml.up l h
  Ei h:=by cases h;rfl
theorem ab.o {μ:M}{l:List Value}{x:ab}(h:nc.cs μ l x):∃ a c,l=[.int .i64 x.Kind,.int .i64 x.N,S x.Name,.slice a x.Kids.length c]∧Va μ a c x.Kids:=by
  have b:Ml μ l x:=h;cases b with
  | mk _ a c g d k1=>exact ⟨a,c,rfl,d.Hp k1⟩
theorem ab.i {μ:M}{l:List Value}{x:ab}(h:∃ a c,l=[.int .i64 x.Kind,.int .i64 x.N,S x.Name,.slice a x.Kids.length c]∧Va μ a c x.Kids):nc.cs μ l x:=by
  obtain ⟨a,c,rfl,h⟩:=h;obtain ⟨g,h,k⟩:=tj.of h;exact Ml.mk x a c g h k
inductive gl (μ:M):List Value→Eb→Prop where
  | mk (x:Eb) (a:Option Addr) (b:Nat) (a2:Option Addr) (c2:Nat) (a3:Option Addr) (c3:Nat) (g2 g3:Nat→List Value) (c:Va μ a b x.X.Kids)
      (d:tj 8 μ a2 c2 x.Body g2) (e:∀ (i:Nat) (y:Eb),x.Body[i]?=some y→gl μ (g2 i) y)
      (f:tj 8 μ a3 c3 x.me g3) (g:∀ (i:Nat) (y:Eb),x.me[i]?=some y→gl μ (g3 i) y) :
    gl μ [.int .i64 x.Kind,S x.Name,.int .i64 x.X.Kind,.int .i64 x.X.N,S x.X.Name,.slice a x.X.Kids.length b,.slice a2 x.Body.length c2,.slice a3 x.me.length c3] x
theorem gl.up {μ J:M}(l:ra μ J){cs:List Value}{x:Eb}(h:gl μ cs x):gl J cs x:=by
  induction h with
  | mk x a b a2 c2 a3 c3 g2 g3 c d i e j f g=>exact .mk x a b a2 c2 a3 c3 g2 g3 (c.up l) (d.up l) f (e.up l) g
instance:nc Eb where
  Mb:=8
  pos:=by decide
  cs:=gl
  Di h:=by cases h;rfl
  up l h:=gl.up l h
  Ei h:=by cases h;rfl
theorem Eb.o {μ:M}{l:List Value}{x:Eb}(h:nc.cs μ l x):∃ a b a2 c2 a3 c3,l=[.int .i64 x.Kind,S x.Name,.int .i64 x.X.Kind,.int .i64 x.X.N,S x.X.Name,.slice a x.X.Kids.length b,.slice a2 x.Body.length c2,.slice a3 x.me.length c3]∧Va μ a b x.X.Kids∧Va μ a2 c2 x.Body∧Va μ a3 c3 x.me:=by
  have c:gl μ l x:=h;cases c with
  | mk _ a b a2 c2 a3 c3 g2 g3 d e f g i=>exact ⟨a,b,a2,c2,a3,c3,rfl,d,e.Hp f,g.Hp i⟩
theorem Eb.i {μ:M}{l:List Value}{x:Eb}(h:∃ a b a2 c2 a3 c3,l=[.int .i64 x.Kind,S x.Name,.int .i64 x.X.Kind,.int .i64 x.X.N,S x.X.Name,.slice a x.X.Kids.length b,.slice a2 x.Body.length c2,.slice a3 x.me.length c3]∧Va μ a b x.X.Kids∧Va μ a2 c2 x.Body∧Va μ a3 c3 x.me):nc.cs μ l x:=by
  obtain ⟨a,b,a2,c2,a3,c3,rfl,e,c,d⟩:=h;obtain ⟨g2,c,f⟩:=tj.of c;obtain ⟨g3,d,g⟩:=tj.of d;exact gl.mk x a b a2 c2 a3 c3 g2 g3 e c f d g
structure ya where
  Kind:Int
  Text:List UInt8
  hn:Int
  Td:Int
  deriving DecidableEq,Inhabited,Repr
instance:nc ya where
  Mb:=4
  pos:=by decide
  cs μ l x:=l=[.int .i64 x.Kind,S x.Text,.int .i64 x.hn,.int .i64 x.Td]
  Di h:=by obtain rfl:=h;rfl
  up le h:=by exact h
  Ei h:=by obtain rfl:=h;rfl
structure xb where
  oe:Int
  Td:Int
  deriving DecidableEq,Inhabited,Repr
structure fe where
  Kind:Int
  Jc:List UInt8
  deriving DecidableEq,Inhabited,Repr
structure TParam where
  Name:List UInt8
  Yc:fe
  deriving DecidableEq,Inhabited,Repr
instance:nc TParam where
  Mb:=3
  pos:=by decide
  cs μ l x:=l=[S x.Name,.int .i64 x.Yc.Kind,S x.Yc.Jc]
  Di h:=by obtain rfl:=h;rfl
  up le h:=by exact h
  Ei h:=by obtain rfl:=h;rfl
structure dc where
  Kind:Int
  Name:List UInt8
  Yc:fe
  Qd:fe
  Hf:Int
  Params:List TParam
  Body:List Eb
  deriving Inhabited,Repr
instance:nc dc where
  Mb:=9
  pos:=by decide
  cs μ l x:=∃ a b a2 c2,l=[.int .i64 x.Kind,S x.Name,.int .i64 x.Yc.Kind,S x.Yc.Jc,.int .i64 x.Qd.Kind,S x.Qd.Jc,.int .i64 x.Hf,.slice a x.Params.length b,.slice a2 x.Body.length c2]∧Va μ a b x.Params∧Va μ a2 c2 x.Body
  Di h:=by obtain ⟨a,b,a2,c2,rfl,m1,m2⟩:=h;rfl
  up le h:=by obtain ⟨a,b,a2,c2,rfl,m1,m2⟩:=h;exact ⟨a,b,a2,c2,rfl,m1.up le,m2.up le⟩
  Ei h:=by obtain ⟨a,b,a2,c2,rfl,m1,m2⟩:=h;rfl
structure mf where
  Ag:List (List UInt8×Int)
  once:Bool
  deriving DecidableEq,Inhabited,Repr
instance:nc mf where
  Mb:=2
  pos:=by decide
  cs μ l x:=∃ Da,l=[.map (some Da),.bool x.once]∧Oq μ Da x.Ag
  Di h:=by obtain ⟨Da,rfl,m1⟩:=h;rfl
  up le h:=by obtain ⟨Da,rfl,m1⟩:=h;exact ⟨Da,rfl,m1.up le⟩
  Ei h:=by obtain ⟨Da,rfl,m1⟩:=h;rfl
end Go.Y
namespace Go.Y
open Go.cc Go.Kc
def Rj:List UInt8:=[32,98,111,120,32,102,110,32,103,101,110,32,116,97,115,107,32,116,97,107,101,115,32,121,105,101,108,100,115,32,108,101,116,32,105,102,32,101,108,115,101,32,119,104,105,108,101,32,114,101,116,117,114,110,32,115,116,111,112,32,115,101,110,100,32,111,117,116,32,100,111,32,114,101,99,118,32,121,105,101,108,100,32,115,116,97,114,116,32,114,101,115,117,109,101,32,97,108,105,118,101,32,110,117,109,32,98,111,111,108,32,116,114,117,101,32,102,97,108,115,101,32,97,110,100,32,111,114,32,110,111,116,32]
def dj  (a:UInt8):Option Bool :=
  if (97:Int)≤(a.toNat:Int) then
    if (a.toNat:Int)≤122 then
      some true
    else
      some (decide ((a.toNat:Int)=95))
  else
    some (decide ((a.toNat:Int)=95))
def Ej  (a:UInt8):Option Bool :=
  if (48:Int)≤(a.toNat:Int) then
    some (decide ((a.toNat:Int)≤57))
  else
    some false
def xl (i13:Int) (a:Int→Option Int) (b:Bool):Option Int :=
  if b=true then
    (i64 (i13+1)).bind fun i33 =>
    a i33
  else
    some i13
def xj (a:List UInt8) (b:UInt8→Option Bool):Nat→Int→Option Int
  | 0,_=>none
  | n+1,i13 =>
    if i13<(a.length:Int) then
      (at_ a i13).bind fun c =>
      (b c).bind fun d =>
      xl i13 (xj a b n) d
    else
      xl i13 (xj a b n) false
def ik (fu:Nat)  (a:List UInt8) (b:UInt8→Option Bool):Option Int :=
  xj a b fu 0
def Bq  (a:UInt8):Option Bool :=
  (dj a).bind fun b =>
  if b=true then
    some true
  else
    (Ej a).bind fun c =>
    some c
def Cq  (a:UInt8):Option Bool :=
  some (decide ((a.toNat:Int)≠10))
def Hk  (a:UInt8):Option Bool :=
  (dj a).bind fun b =>
  if b=true then
    some true
  else
    (Ej a).bind fun c =>
    some c
def Gr  (b:List UInt8) (a:List UInt8):Option Bool :=
  if (a.length:Int)≤(b.length:Int) then
    (cut b 0 (a.length:Int)).bind fun s2 =>
    some (decide (s2=a))
  else
    some false
def Dq  (a:List UInt8) (b:List UInt8):Option Bool :=
  (Gr a b).bind fun c =>
  some c
def Eo (a:List UInt8):Nat→Int→Option (List UInt8)
  | 0,_=>none
  | n+1,i18 =>
    if i18<18 then
      (at_ [[61,61],[33,61],[60,61],[62,61],[60],[62],[61],[43],[45],[42],[47],[37],[40],[41],[123],[125],[44],[59]] i18).bind fun b =>
      (Dq a b).bind fun c =>
      if c=true then
        some b
      else
        (i64 (i18+1)).bind fun i46 =>
        Eo a n i46
    else
      some []
def ur  (a:List UInt8):Option (List UInt8):=
  Eo a 19 0
def yl (fu:Nat) (a:List UInt8) (i13:Int) (c:UInt8) (b:Int→Option Int) (d:Bool):Option Int :=
  if d=true then
    (i64 (i13+1)).bind fun i35 =>
    b i35
  else
    if (c.toNat:Int)=35 then
      (cut a i13 a.length).bind fun e =>
      (ik fu e Cq).bind fun f =>
      (i64 (i13+f)).bind fun i43 =>
      b i43
    else
      some i13
def ck (fu:Nat) (a:List UInt8):Nat→Int→Option Int
  | 0,_=>none
  | n+1,i13 =>
    if i13<(a.length:Int) then
      (at_ a i13).bind fun b =>
      if (b.toNat:Int)=32 then
        yl fu a i13 b (ck fu a n) (decide ((b.toNat:Int)=32))
      else
        if (b.toNat:Int)=9 then
          yl fu a i13 b (ck fu a n) (decide ((b.toNat:Int)=9))
        else
          yl fu a i13 b (ck fu a n) (decide ((b.toNat:Int)=10))
    else
      some i13
def Zo (fu:Nat)  (a:List UInt8):Option Int :=
  ck fu a fu 0
def bk (fu:Nat) (a:List UInt8) (Da:Bool):Option Bool :=
  if Da=true then
    some false
  else
    (ik fu a Hk).bind fun b =>
    some (decide (b=(a.length:Int)))
def Yg (fu:Nat)  (a:List UInt8):Option Bool :=
  if (a.length:Int)<1 then
    bk fu a true
  else
    if (12:Int)<(a.length:Int) then
      bk fu a true
    else
      (at_ a 0).bind fun b =>
      (dj b).bind fun c =>
      if c=true then
        (cat [32] a).bind fun d =>
        (cat d [32]).bind fun e =>
        (zq Rj e).bind fun f =>
        bk fu a f
      else
        bk fu a true
def qn (fu:Nat) (a:List UInt8) (i58:Int) (c:List ya) (d:Int→(List ya)→Option (List ya×xb)) (i118:Int) (b:List UInt8) (i120:Int):Option (List ya×xb):=
  (app c [(ya.mk i118 b i120 i58)]).bind fun e =>
  (i64 (i58+(b.length:Int))).bind fun i154 =>
  (cut a i154 a.length).bind fun f =>
  (Zo fu f).bind fun g =>
  (i64 (i154+g)).bind fun i161 =>
  d i161 e
def Pk (fu:Nat) (a:List UInt8):Nat→Int→(List ya)→Option (List ya×xb)
  | 0,_,_=>none
  | n+1,i58,c =>
    if i58<(a.length:Int) then
      (cut a i58 a.length).bind fun b =>
      (at_ b 0).bind fun e =>
      (dj e).bind fun g =>
      if g=true then
        (ik fu b Bq).bind fun h =>
        (cut b 0 h).bind fun i =>
        qn fu a i58 c (Pk fu a n) 1 i 0
      else
        (Ej e).bind fun j =>
        if j=true then
          (ik fu b Ej).bind fun k =>
          (cut b 0 k).bind fun d =>
          if (15:Int)<(d.length:Int) then
            some (([]:List ya),(xb.mk 3 i58))
          else
            (Hq d).bind fun i140 =>
            qn fu a i58 c (Pk fu a n) 2 d i140
        else
          (ur b).bind fun f =>
          if f=[] then
            some (([]:List ya),(xb.mk 2 i58))
          else
            qn fu a i58 c (Pk fu a n) 3 f 0
    else
      some (c,(xb.mk 0 0))
def Up (fu:Nat)  (a:List UInt8):Option (List ya×xb):=
  if (6000:Int)<(a.length:Int) then
    some (([]:List ya),(xb.mk 4 0))
  else
    (Zo fu a).bind fun b =>
    Pk fu a fu b []
end Go.Y
namespace Go.Y
open Go.cc Go.Kc
def Vq  (a:Bool):Option Int :=
  if a=true then
    some 2
  else
    some (-1)
def qo (a:Int) (b:Bool):Option Int :=
  if b=true then
    some 1
  else
    if a≤18 then
      Vq true
    else
      Vq (decide (a=23))
def Qp (a:Int) (Da:Bool):Option Int :=
  if Da=true then
    some 0
  else
    if a≤5 then
      qo a true
    else
      if a=21 then
        qo a true
      else
        qo a (decide (a=24))
def fq  (a:Int):Option Int :=
  if a≤3 then
    Qp a true
  else
    Qp a (decide (a=20))
def Wq (i3:Int) (a:Bool):Option (Int×Int):=
  if a=true then
    some (4,i3)
  else
    some (0,i3)
def Ii  (a:Int) (b:Int):Option (Int×Int):=
  (i64 (a+1)).bind fun i3 =>
  if (2000:Int)<i3 then
    Wq i3 true
  else
    Wq i3 (decide ((40:Int)<b))
def Vp  (a:Bool):Option Int :=
  if a=true then
    some 7
  else
    some 0
def xn (fu:Nat) (a:fe) (b:Bool):Option Int :=
  if b=true then
    some 1
  else
    if a.Kind=3 then
      (Yg fu a.Jc).bind fun c =>
      Vp (!c)
    else
      Vp false
def Kl (fu:Nat)  (a:fe):Option Int :=
  if a.Kind<1 then
    xn fu a true
  else
    xn fu a (decide ((3:Int)<a.Kind))
structure tk where
  Hh:Int→ab→Int→Option (Int×Int)
def mm (self:tk) (b:ab) (c:Int):Nat→Int→Int→Option (Int×Int)
  | 0,_,_=>none
  | n+1,i72,i73 =>
    if i72<(b.Kids.length:Int) then
      (at_ b.Kids i72).bind fun d =>
      (i64 (c+1)).bind fun i105 =>
      (self.Hh i73 d i105).bind fun a =>
      if a.1≠0 then
        some (a.1,a.2)
      else
        (i64 (i72+1)).bind fun i111 =>
        mm self b c n i111 a.2
    else
      some (0,i73)
def zl (self:tk) (a:ab) (c:Int) (b:Int×Int) (d:Bool):Option (Int×Int):=
  if d=true then
    some (5,b.2)
  else
    mm self a c (a.Kids.length+1) 0 b.2
def Al (self:tk) (a:ab) (b:Int) (c:Int×Int) (e:Int) (d:Bool):Option (Int×Int):=
  if d=true then
    zl self a b c d
  else
    if e<0 then
      zl self a b c (decide ((6:Int)<(a.Kids.length:Int)))
    else
      zl self a b c false
def Qk (self:tk) (b:ab) (d:Int) (c:Int×Int) (a:Int) (e:Bool):Option (Int×Int):=
  if e=true then
    some (7,c.2)
  else
    if (0:Int)≤a then
      Al self b d c a (decide ((b.Kids.length:Int)≠a))
    else
      Al self b d c a false
def Gi (fu:Nat) (self:tk) (a:ab) (d:Int) (b:Int×Int) (c:Int) (e:Bool):Option (Int×Int):=
  if e=true then
    some (3,b.2)
  else
    if a.Kind=3 then
      (Yg fu a.Name).bind fun f =>
      Qk self a d b c (!f)
    else
      if a.Kind=20 then
        (Yg fu a.Name).bind fun g =>
        Qk self a d b c (!g)
      else
        if c<0 then
          (Yg fu a.Name).bind fun h =>
          Qk self a d b c (!h)
        else
          Qk self a d b c false
def Bl (fu:Nat) (self:tk) (a:ab) (b:Int) (c:Int×Int) (d:Int) (e:Bool):Option (Int×Int):=
  if e=true then
    Gi fu self a b c d e
  else
    if a.Kind=2 then
      if a.N≠0 then
        Gi fu self a b c d (decide (a.N≠1))
      else
        Gi fu self a b c d false
    else
      Gi fu self a b c d false
def yj (fu:Nat) (self:tk) (a:ab) (c:Int) (b:Int×Int) (e:Bool):Option (Int×Int):=
  if e=true then
    some (1,b.2)
  else
    (fq a.Kind).bind fun d =>
    if a.Kind=1 then
      if a.N<0 then
        Bl fu self a c b d true
      else
        Bl fu self a c b d (decide ((999999999999999:Int)<a.N))
    else
      Bl fu self a c b d false
def Hh (fu:Nat) (self:tk) (d:Int) (b:ab) (c:Int):Option (Int×Int):=
  (Ii d c).bind fun a =>
  if a.1≠0 then
    some (a.1,a.2)
  else
    if b.Kind<1 then
      yj fu self b c a true
    else
      yj fu self b c a (decide ((24:Int)<b.Kind))
def hf:Nat→tk
  | 0=>⟨fun _ _ _=>none⟩
  | n+1=>⟨Hh n (hf n)⟩
structure uk where
  Zg:Int→(List Eb)→Int→Option (Int×Int)
  Ji:Int→Eb→Int→Option (Int×Int)
def fm (self:uk) (b:List Eb) (c:Int):Nat→Int→Int→Option (Int×Int)
  | 0,_,_=>none
  | n+1,i29,i30 =>
    if i29<(b.length:Int) then
      (at_ b i29).bind fun d =>
      (self.Ji i30 d c).bind fun a =>
      if a.1≠0 then
        some (a.1,a.2)
      else
        (i64 (i29+1)).bind fun i76 =>
        fm self b c n i76 a.2
    else
      some (0,i30)
def Zg (self:uk) (b:Int) (a:List Eb) (c:Int):Option (Int×Int):=
  if (50:Int)<(a.length:Int) then
    some (5,b)
  else
    fm self a c (a.length+1) 0 b
def nm (self:uk) (a:Eb) (c:Int) (i48:Int):Option (Int×Int):=
  if a.Kind=3 then
    (i64 (c+1)).bind fun i58 =>
    (self.Zg i48 a.me i58).bind fun b =>
    some (b.1,b.2)
  else
    some (0,i48)
def om (self:uk) (b:Eb) (c:Int) (d:Int×Int) (e:Bool):Option (Int×Int):=
  if e=true then
    (i64 (c+1)).bind fun i50 =>
    (self.Zg d.2 b.Body i50).bind fun a =>
    if a.1≠0 then
      some (a.1,a.2)
    else
      nm self b c a.2
  else
    nm self b c d.2
def Rk (fu:Nat) (self:uk) (a:Eb) (c:Int) (d:Int×Int) (e:Bool):Option (Int×Int):=
  if e=true then
    some (7,d.2)
  else
    if a.Kind=6 then
      some (0,d.2)
    else
      (i64 (c+1)).bind fun i39 =>
      ((hf fu).Hh d.2 a.X i39).bind fun b =>
      if b.1≠0 then
        some (b.1,b.2)
      else
        if a.Kind=3 then
          om self a c b true
        else
          om self a c b (decide (a.Kind=4))
def Sk (fu:Nat) (self:uk) (a:Eb) (c:Int) (b:Int×Int) (d:Bool):Option (Int×Int):=
  if d=true then
    some (1,b.2)
  else
    if a.Kind=1 then
      (Yg fu a.Name).bind fun e =>
      Rk fu self a c b (!e)
    else
      if a.Kind=2 then
        (Yg fu a.Name).bind fun f =>
        Rk fu self a c b (!f)
      else
        if a.Kind=7 then
          (Yg fu a.Name).bind fun g =>
          Rk fu self a c b (!g)
        else
          Rk fu self a c b false
def Ji (fu:Nat) (self:uk) (d:Int) (b:Eb) (c:Int):Option (Int×Int):=
  (Ii d c).bind fun a =>
  if a.1≠0 then
    some (a.1,a.2)
  else
    if b.Kind<1 then
      Sk fu self b c a true
    else
      Sk fu self b c a (decide ((9:Int)<b.Kind))
def Uf:Nat→uk
  | 0=>⟨fun _ _ _=>none,fun _ _ _=>none⟩
  | n+1=>⟨Zg (Uf n),Ji n (Uf n)⟩
def Fo (a:Int×Int) (b:Bool):Option (Int×Int):=
  if b=true then
    some (3,a.2)
  else
    some (0,a.2)
def vm (fu:Nat) (a:dc) (b:Int×Int):Option (Int×Int):=
  if a.Kind≠1 then
    ((Uf fu).Zg b.2 a.Body 2).bind fun c =>
    some (c.1,c.2)
  else
    if a.Hf<1 then
      Fo b true
    else
      Fo b (decide ((20:Int)<a.Hf))
def wm (fu:Nat) (a:dc) (b:Int×Int):Option (Int×Int):=
  if a.Kind≠4 then
    (Kl fu a.Yc).bind fun c =>
    if c≠0 then
      some (c,b.2)
    else
      vm fu a b
  else
    vm fu a b
def xm (fu:Nat) (a:dc) (b:Int×Int):Option (Int×Int):=
  if a.Kind=3 then
    (Kl fu a.Qd).bind fun c =>
    if c≠0 then
      some (c,b.2)
    else
      wm fu a b
  else
    wm fu a b
def ym (fu:Nat) (a:dc) (b:Int×Int):Nat→Int→Option (Int×Int)
  | 0,_=>none
  | n+1,i47 =>
    if i47<(a.Params.length:Int) then
      (at_ a.Params i47).bind fun c =>
      (Yg fu c.Name).bind fun e =>
      if e=true then
        (Kl fu c.Yc).bind fun d =>
        if d≠0 then
          some (d,b.2)
        else
          (i64 (i47+1)).bind fun i87 =>
          ym fu a b n i87
      else
        some (7,b.2)
    else
      xm fu a b
def zm (fu:Nat) (a:dc) (b:Int×Int) (c:Bool):Option (Int×Int):=
  if c=true then
    if (6:Int)<(a.Params.length:Int) then
      some (5,b.2)
    else
      ym fu a b (a.Params.length+1) 0
  else
    xm fu a b
def Uk (fu:Nat) (a:dc) (b:Int×Int) (c:Bool):Option (Int×Int):=
  if c=true then
    some (1,b.2)
  else
    (Yg fu a.Name).bind fun d =>
    if d=true then
      if a.Kind=2 then
        zm fu a b true
      else
        zm fu a b (decide (a.Kind=3))
    else
      some (7,b.2)
def Ln (fu:Nat)  (c:Int) (b:dc):Option (Int×Int):=
  (Ii c 1).bind fun a =>
  if a.1≠0 then
    some (a.1,a.2)
  else
    if b.Kind<1 then
      Uk fu b a true
    else
      Uk fu b a (decide ((4:Int)<b.Kind))
def gm (fu:Nat) (a:List dc):Nat→Int→Int→Option xb
  | 0,_,_=>none
  | n+1,i28,i29 =>
    if i28<(a.length:Int) then
      (at_ a i28).bind fun c =>
      (Ln fu i29 c).bind fun b =>
      if b.1≠0 then
        some (xb.mk b.1 i28)
      else
        (i64 (i28+1)).bind fun i69 =>
        gm fu a n i69 b.2
    else
      some (xb.mk 0 0)
def Gl (fu:Nat)  (a:List dc):Option xb :=
  if (30:Int)<(a.length:Int) then
    some (xb.mk 5 0)
  else
    gm fu a (a.length+1) 0 0
end Go.Y
namespace Go.Y
open Go.cc Go.Kc
def mh  (a:List ya) (b:Int) (d:Int):Option Int :=
  if (a.length:Int)=0 then
    some b
  else
    (at_ a 0).bind fun c =>
    some c.Td
def Ni  (a:List ya) (d:Int) (e:Int) (b:List UInt8):Option Bool :=
  if (0:Int)<(a.length:Int) then
    (at_ a 0).bind fun c =>
    some (decide (c.Text=b))
  else
    some false
def Md  (a:List ya) (b:Int) (c:Int) (d:List UInt8):Option (Bool×List ya×Int×Int):=
  (Ni a b c d).bind fun e =>
  if e=true then
    (cut a 1 a.length).bind fun f =>
    some (true,f,b,c)
  else
    some (false,a,b,c)
def Fm (b:List (List UInt8)):Nat→Int→(List ya)→Int→Int→Option (Except xb (List ya×Int×Int))
  | 0,_,_,_,_=>none
  | n+1,i33,c,i38,i39 =>
    if i33<(b.length:Int) then
      (at_ b i33).bind fun d =>
      (Md c i38 i39 d).bind fun a =>
      if a.1=true then
        (i64 (i33+1)).bind fun i80 =>
        Fm b n i80 a.2.1 a.2.2.1 a.2.2.2
      else
        (mh a.2.1 a.2.2.1 a.2.2.2).bind fun e =>
        some (.error (xb.mk 2 e))
    else
      some (.ok (c,i38,i39))
def tf  (b:List ya) (c:Int) (d:Int) (a:List (List UInt8)):Option (Except xb (List ya×Int×Int)):=
  Fm a (a.length+1) 0 b c d
def Gm (fu:Nat) (a:List ya) (b:Int) (c:Int) (e:Bool):Option (Except xb (List UInt8×List ya×Int×Int)):=
  if e=true then
    (mh a b c).bind fun f =>
    some (.error (xb.mk 2 f))
  else
    (at_ a 0).bind fun d =>
    (Yg fu d.Text).bind fun g =>
    if g=true then
      (cut a 1 a.length).bind fun h =>
      some (.ok (d.Text,h,b,c))
    else
      (mh a b c).bind fun i =>
      some (.error (xb.mk 7 i))
def og (fu:Nat)  (a:List ya) (b:Int) (c:Int):Option (Except xb (List UInt8×List ya×Int×Int)):=
  if (a.length:Int)=0 then
    Gm fu a b c true
  else
    (at_ a 0).bind fun d =>
    Gm fu a b c (decide (d.Kind≠1))
def sn (a:List ya) (b:Int) (c:Int) (d:Bool):Option (Except xb (Int×List ya×Int×Int)):=
  if d=true then
    (mh a b c).bind fun e =>
    some (.error (xb.mk 2 e))
  else
    (at_ a 0).bind fun f =>
    (cut a 1 a.length).bind fun g =>
    some (.ok (f.hn,g,b,c))
def Fj  (a:List ya) (b:Int) (c:Int):Option (Except xb (Int×List ya×Int×Int)):=
  if (a.length:Int)=0 then
    sn a b c true
  else
    (at_ a 0).bind fun d =>
    sn a b c (decide (d.Kind≠2))
def Yh (fu:Nat)  (d:List ya) (e:Int) (f:Int):Option (Except xb (fe×List ya×Int×Int)):=
  (Md d e f [110,117,109]).bind fun a =>
  if a.1=true then
    some (.ok ((fe.mk 1 []),a.2.1,a.2.2.1,a.2.2.2))
  else
    (Md a.2.1 a.2.2.1 a.2.2.2 [98,111,111,108]).bind fun b =>
    if b.1=true then
      some (.ok ((fe.mk 2 []),b.2.1,b.2.2.1,b.2.2.2))
    else
      oc (og fu b.2.1 b.2.2.1 b.2.2.2) fun c =>
      some (.ok ((fe.mk 3 c.1),c.2.1,c.2.2.1,c.2.2.2))
def Zi (fu:Nat) (c:List TParam) (e:(List ya)→Int→Int→(List TParam)→Option (Except xb (List TParam×List ya×Int×Int))) (d:List ya) (i137:Int) (i138:Int):Option (Except xb (List TParam×List ya×Int×Int)):=
  if (c.length:Int)=6 then
    (mh d i137 i138).bind fun f =>
    some (.error (xb.mk 5 f))
  else
    oc (og fu d i137 i138) fun b =>
    oc (Yh fu b.2.1 b.2.2.1 b.2.2.2) fun a =>
    (app c [(TParam.mk b.1 (fe.mk a.1.Kind a.1.Jc))]).bind fun g =>
    e a.2.1 a.2.2.1 a.2.2.2 g
def Xg (fu:Nat):Nat→(List ya)→Int→Int→(List TParam)→Option (Except xb (List TParam×List ya×Int×Int))
  | 0,_,_,_,_=>none
  | n+1,d,i73,i74,b =>
    (Md d i73 i74 [41]).bind fun a =>
    if a.1=true then
      some (.ok (b,a.2.1,a.2.2.1,a.2.2.2))
    else
      if (0:Int)<(b.length:Int) then
        oc (tf a.2.1 a.2.2.1 a.2.2.2 [[44]]) fun c =>
        Zi fu b (Xg fu n) c.1 c.2.1 c.2.2
      else
        Zi fu b (Xg fu n) a.2.1 a.2.2.1 a.2.2.2
def fj (fu:Nat)  (b:List ya) (c:Int) (d:Int):Option (Except xb (List TParam×List ya×Int×Int)):=
  oc (tf b c d [[40]]) fun a =>
  Xg fu fu a.1 a.2.1 a.2.2 []
def bp  :Option (List mf):=
  some [(mf.mk (ed ([]:List (List UInt8×Int)) [111,114] 18) false),(mf.mk (ed ([]:List (List UInt8×Int)) [97,110,100] 17) false),(mf.mk (ed (ed (ed (ed (ed (ed ([]:List (List UInt8×Int)) [61,61] 11) [33,61] 12) [60] 13) [60,61] 14) [62] 15) [62,61] 16) true),(mf.mk (ed (ed ([]:List (List UInt8×Int)) [43] 6) [45] 7) false),(mf.mk (ed (ed (ed ([]:List (List UInt8×Int)) [42] 8) [47] 9) [37] 10) false)]
def Th  (a:List ya) (b:Int) (c:Int):Option (Except xb (List ya×Int×Int)):=
  (i64 (c+1)).bind fun i14 =>
  if (200:Int)<i14 then
    (mh a b i14).bind fun d =>
    some (.error (xb.mk 4 d))
  else
    some (.ok (a,b,i14))
def Lh  (a:List ya) (b:Int) (c:Int):Option (List ya×Int×Int):=
  (i64 (c - 1)).bind fun i12 =>
  some (a,b,i12)
end Go.Y
namespace Go.Y
open Go.cc Go.Kc
structure hg where
  Ed:(List ya)→Int→Int→Option (Except xb (ab×List ya×Int×Int))
  pf:(List ya)→Int→Int→Int→Option (Except xb (ab×List ya×Int×Int))
  Pe:(List ya)→Int→Int→Option (Except xb (ab×List ya×Int×Int))
  eg:(List ya)→Int→Int→Option (Except xb (ab×List ya×Int×Int))
  Xf:(List ya)→Int→Int→Option (Except xb (List ab×List ya×Int×Int))
  qf:(List ya)→Int→Int→Int→Int→Option (Except xb (ab×List ya×Int×Int))
def Ed (self:hg) (d:List ya) (e:Int) (f:Int):Option (Except xb (ab×List ya×Int×Int)):=
  oc (Th d e f) fun b =>
  oc (self.pf b.1 b.2.1 b.2.2 0) fun a =>
  (Lh a.2.1 a.2.2.1 a.2.2.2).bind fun c =>
  some (.ok (a.1,c.1,c.2.1,c.2.2))
def th  (a:List ya) (i50:Int) (i51:Int) (i52:Int) (i53:Int) (b:List UInt8) (c:List ab):Option (Except xb (ab×List ya×Int×Int)):=
  some (.ok ((ab.mk i52 i53 b c),a,i50,i51))
def yn (f:Int) (g:List mf) (a:mf) (b:ya) (h:(List ya)→Int→Int→Int→Int→(List UInt8)→(List ab)→Option (Except xb (ab×List ya×Int×Int))) (c:List ya) (d:Int) (i218:Int) (e:List ab):Option (Except xb (ab×List ya×Int×Int)):=
  (at_ g f).bind fun i =>
  if i.once=true then
    th c d i218 ((Ef a.Ag b.Text).getD 0) 0 [] e
  else
    h c d i218 ((Ef a.Ag b.Text).getD 0) 0 [] e
def Hi (self:hg) (b:Int) (d:List mf):Nat→(List ya)→Int→Int→Int→Int→(List UInt8)→(List ab)→Option (Except xb (ab×List ya×Int×Int))
  | 0,_,_,_,_,_,_,_=>none
  | n+1,a,i116,i117,i118,i119,e,f =>
    if (0:Int)<(a.length:Int) then
      (at_ d b).bind fun g =>
      (at_ a 0).bind fun h =>
      if ((Ef g.Ag h.Text).getD 0)=0 then
        th a i116 i117 i118 i119 e f
      else
        (cut a 1 a.length).bind fun i =>
        (i64 (b+1)).bind fun j =>
        oc (self.pf i i116 i117 j) fun c =>
        yn b d g h (Hi self b d n) c.2.1 c.2.2.1 c.2.2.2 [(ab.mk i118 i119 e f),c.1]
    else
      th a i116 i117 i118 i119 e f
def pf (fu:Nat) (self:hg) (d:List ya) (e:Int) (f:Int) (c:Int):Option (Except xb (ab×List ya×Int×Int)):=
  (bp ).bind fun g =>
  if c=(g.length:Int) then
    oc (self.Pe d e f) fun b =>
    some (.ok (b.1,b.2.1,b.2.2.1,b.2.2.2))
  else
    (i64 (c+1)).bind fun i33 =>
    oc (self.pf d e f i33) fun a =>
    Hi self c g fu a.2.1 a.2.2.1 a.2.2.2 a.1.Kind a.1.N a.1.Name a.1.Kids
def Pe (self:hg) (j:List ya) (k:Int) (l:Int):Option (Except xb (ab×List ya×Int×Int)):=
  (Md j k l [45]).bind fun a =>
  if a.1=true then
    oc (Th a.2.1 a.2.2.1 a.2.2.2) fun f =>
    oc (self.Pe f.1 f.2.1 f.2.2) fun c =>
    (Lh c.2.1 c.2.2.1 c.2.2.2).bind fun g =>
    some (.ok ((ab.mk 4 0 [] [c.1]),g.1,g.2.1,g.2.2))
  else
    (Md a.2.1 a.2.2.1 a.2.2.2 [110,111,116]).bind fun b =>
    if b.1=true then
      oc (Th b.2.1 b.2.2.1 b.2.2.2) fun h =>
      oc (self.Pe h.1 h.2.1 h.2.2) fun d =>
      (Lh d.2.1 d.2.2.1 d.2.2.2).bind fun i =>
      some (.ok ((ab.mk 5 0 [] [d.1]),i.1,i.2.1,i.2.2))
    else
      oc (self.eg b.2.1 b.2.2.1 b.2.2.2) fun e =>
      some (.ok (e.1,e.2.1,e.2.2.1,e.2.2.2))
def Yi (fu:Nat) (self:hg) (v:List ya) (w:Int) (x:Int) (y:Bool):Option (Except xb (ab×List ya×Int×Int)):=
  if y=true then
    oc (Fj v w x) fun j =>
    some (.ok ((ab.mk 1 j.1 [] ([]:List ab)),j.2.1,j.2.2.1,j.2.2.2))
  else
    (Md v w x [116,114,117,101]).bind fun b =>
    if b.1=true then
      some (.ok ((ab.mk 2 1 [] ([]:List ab)),b.2.1,b.2.2.1,b.2.2.2))
    else
      (Md b.2.1 b.2.2.1 b.2.2.2 [102,97,108,115,101]).bind fun c =>
      if c.1=true then
        some (.ok ((ab.mk 2 0 [] ([]:List ab)),c.2.1,c.2.2.1,c.2.2.2))
      else
        (Md c.2.1 c.2.2.1 c.2.2.2 [40]).bind fun d =>
        if d.1=true then
          oc (self.Ed d.2.1 d.2.2.1 d.2.2.2) fun k =>
          oc (tf k.2.1 k.2.2.1 k.2.2.2 [[41]]) fun s =>
          some (.ok (k.1,s.1,s.2.1,s.2.2))
        else
          (Md d.2.1 d.2.2.1 d.2.2.2 [114,101,99,118]).bind fun e =>
          if e.1=true then
            oc (tf e.2.1 e.2.2.1 e.2.2.2 [[40]]) fun t =>
            oc (og fu t.1 t.2.1 t.2.2) fun l =>
            oc (tf l.2.1 l.2.2.1 l.2.2.2 [[41]]) fun u =>
            some (.ok ((ab.mk 20 0 l.1 ([]:List ab)),u.1,u.2.1,u.2.2))
          else
            (Md e.2.1 e.2.2.1 e.2.2.2 [121,105,101,108,100]).bind fun f =>
            if f.1=true then
              oc (self.qf f.2.1 f.2.2.1 f.2.2.2 21 1) fun m =>
              some (.ok (m.1,m.2.1,m.2.2.1,m.2.2.2))
            else
              (Md f.2.1 f.2.2.1 f.2.2.2 [114,101,115,117,109,101]).bind fun g =>
              if g.1=true then
                oc (self.qf g.2.1 g.2.2.1 g.2.2.2 23 2) fun n =>
                some (.ok (n.1,n.2.1,n.2.2.1,n.2.2.2))
              else
                (Md g.2.1 g.2.2.1 g.2.2.2 [97,108,105,118,101]).bind fun h =>
                if h.1=true then
                  oc (self.qf h.2.1 h.2.2.1 h.2.2.2 24 1) fun o =>
                  some (.ok (o.1,o.2.1,o.2.2.1,o.2.2.2))
                else
                  (Md h.2.1 h.2.2.1 h.2.2.2 [115,116,97,114,116]).bind fun i =>
                  if i.1=true then
                    oc (og fu i.2.1 i.2.2.1 i.2.2.2) fun p =>
                    oc (self.Xf p.2.1 p.2.2.1 p.2.2.2) fun q =>
                    some (.ok ((ab.mk 22 0 p.1 q.1),q.2.1,q.2.2.1,q.2.2.2))
                  else
                    oc (og fu i.2.1 i.2.2.1 i.2.2.2) fun a =>
                    (Ni a.2.1 a.2.2.1 a.2.2.2 [40]).bind fun z =>
                    if z=true then
                      oc (self.Xf a.2.1 a.2.2.1 a.2.2.2) fun r =>
                      some (.ok ((ab.mk 19 0 a.1 r.1),r.2.1,r.2.2.1,r.2.2.2))
                    else
                      some (.ok ((ab.mk 3 0 a.1 ([]:List ab)),a.2.1,a.2.2.1,a.2.2.2))
def eg (fu:Nat) (self:hg) (a:List ya) (b:Int) (c:Int):Option (Except xb (ab×List ya×Int×Int)):=
  if (0:Int)<(a.length:Int) then
    (at_ a 0).bind fun d =>
    Yi fu self a b c (decide (d.Kind=2))
  else
    Yi fu self a b c false
def ej (self:hg) (b:List ab) (d:(List ya)→Int→Int→(List ab)→Option (Except xb (List ab×List ya×Int×Int))) (c:List ya) (i131:Int) (i132:Int):Option (Except xb (List ab×List ya×Int×Int)):=
  if (b.length:Int)=6 then
    (mh c i131 i132).bind fun e =>
    some (.error (xb.mk 5 e))
  else
    oc (self.Ed c i131 i132) fun a =>
    (app b [a.1]).bind fun f =>
    d a.2.1 a.2.2.1 a.2.2.2 f
def ah (self:hg):Nat→(List ya)→Int→Int→(List ab)→Option (Except xb (List ab×List ya×Int×Int))
  | 0,_,_,_,_=>none
  | n+1,d,i70,i71,b =>
    (Md d i70 i71 [41]).bind fun a =>
    if a.1=true then
      some (.ok (b,a.2.1,a.2.2.1,a.2.2.2))
    else
      if (0:Int)<(b.length:Int) then
        oc (tf a.2.1 a.2.2.1 a.2.2.2 [[44]]) fun c =>
        ej self b (ah self n) c.1 c.2.1 c.2.2
      else
        ej self b (ah self n) a.2.1 a.2.2.1 a.2.2.2
def Xf (fu:Nat) (self:hg) (b:List ya) (c:Int) (d:Int):Option (Except xb (List ab×List ya×Int×Int)):=
  oc (tf b c d [[40]]) fun a =>
  ah self fu a.1 a.2.1 a.2.2 []
def zn (i63:Int) (a:Int→(List ya)→Int→Int→(List ab)→Option (Except xb (ab×List ya×Int×Int))) (b:List ya) (i135:Int) (i136:Int) (c:List ab):Option (Except xb (ab×List ya×Int×Int)):=
  (i64 (i63+1)).bind fun i160 =>
  a i160 b i135 i136 c
def bj (self:hg) (i63:Int) (b:List ab) (c:Int→(List ya)→Int→Int→(List ab)→Option (Except xb (ab×List ya×Int×Int))) (d:List ya) (i116:Int) (i117:Int):Option (Except xb (ab×List ya×Int×Int)):=
  oc (self.Ed d i116 i117) fun a =>
  (app b [a.1]).bind fun e =>
  zn i63 c a.2.1 a.2.2.1 a.2.2.2 e
def Og (self:hg) (a:Int) (b:Int):Nat→Int→(List ya)→Int→Int→(List ab)→Option (Except xb (ab×List ya×Int×Int))
  | 0,_,_,_,_,_=>none
  | n+1,i63,c,i68,i69,d =>
    if i63<b then
      if (0:Int)<i63 then
        oc (tf c i68 i69 [[44]]) fun e =>
        bj self i63 d (Og self a b n) e.1 e.2.1 e.2.2
      else
        bj self i63 d (Og self a b n) c i68 i69
    else
      oc (tf c i68 i69 [[41]]) fun f =>
      some (.ok ((ab.mk a 0 [] d),f.1,f.2.1,f.2.2))
def qf (self:hg) (c:List ya) (d:Int) (e:Int) (f:Int) (b:Int):Option (Except xb (ab×List ya×Int×Int)):=
  oc (tf c d e [[40]]) fun a =>
  Og self f b ((b - 0).toNat+1) 0 a.1 a.2.1 a.2.2 []
def cd:Nat→hg
  | 0=>⟨fun _ _ _=>none,fun _ _ _ _=>none,fun _ _ _=>none,fun _ _ _=>none,fun _ _ _=>none,fun _ _ _ _ _=>none⟩
  | n+1=>⟨Ed (cd n),pf n (cd n),Pe (cd n),eg n (cd n),Xf n (cd n),qf (cd n)⟩
structure yi where
  de:(List ya)→Int→Int→Option (Except xb (List Eb×List ya×Int×Int))
  Yf:(List ya)→Int→Int→Option (Except xb (Eb×List ya×Int×Int))
def uh (self:yi):Nat→(List ya)→Int→Int→(List Eb)→Option (Except xb (List Eb×List ya×Int×Int))
  | 0,_,_,_,_=>none
  | n+1,e,i67,i68,c =>
    (Md e i67 i68 [125]).bind fun a =>
    if a.1=true then
      (Lh a.2.1 a.2.2.1 a.2.2.2).bind fun d =>
      some (.ok (c,d.1,d.2.1,d.2.2))
    else
      if (c.length:Int)=50 then
        (mh a.2.1 a.2.2.1 a.2.2.2).bind fun f =>
        some (.error (xb.mk 5 f))
      else
        oc (self.Yf a.2.1 a.2.2.1 a.2.2.2) fun b =>
        (app c [b.1]).bind fun g =>
        uh self n b.2.1 b.2.2.1 b.2.2.2 g
def de (fu:Nat) (self:yi) (c:List ya) (d:Int) (e:Int):Option (Except xb (List Eb×List ya×Int×Int)):=
  oc (Th c d e) fun a =>
  oc (tf a.1 a.2.1 a.2.2 [[123]]) fun b =>
  uh self fu b.1 b.2.1 b.2.2 []
def bh  (b:List ya) (i28:Int) (i29:Int) (i30:Int) (c:List UInt8) (i33:Int) (i34:Int) (d:List UInt8) (e:List ab):Option (Except xb (Eb×List ya×Int×Int)):=
  oc (tf b i28 i29 [[59]]) fun a =>
  some (.ok ((Eb.mk i30 c (ab.mk i33 i34 d e) ([]:List Eb) ([]:List Eb)),a.1,a.2.1,a.2.2))
def kr (a:ab×List ya×Int×Int) (b:List Eb×List ya×Int×Int) (c:List ya) (i75:Int) (i76:Int) (d:List Eb):Option (Except xb (Eb×List ya×Int×Int)):=
  some (.ok ((Eb.mk 3 [] (ab.mk a.1.Kind a.1.N a.1.Name a.1.Kids) b.1 d),c,i75,i76))
def Yf (fu:Nat) (self:yi) (z:List ya) (A:Int) (B:Int):Option (Except xb (Eb×List ya×Int×Int)):=
  (Md z A B [105,102]).bind fun a =>
  if a.1=true then
    oc ((cd fu).Ed a.2.1 a.2.2.1 a.2.2.2) fun q =>
    oc (self.de q.2.1 q.2.2.1 q.2.2.2) fun r =>
    (Md r.2.1 r.2.2.1 r.2.2.2 [101,108,115,101]).bind fun b =>
    if b.1=true then
      oc (self.de b.2.1 b.2.2.1 b.2.2.2) fun s =>
      kr q r s.2.1 s.2.2.1 s.2.2.2 s.1
    else
      kr q r b.2.1 b.2.2.1 b.2.2.2 []
  else
    (Md a.2.1 a.2.2.1 a.2.2.2 [119,104,105,108,101]).bind fun c =>
    if c.1=true then
      oc ((cd fu).Ed c.2.1 c.2.2.1 c.2.2.2) fun d =>
      oc (self.de d.2.1 d.2.2.1 d.2.2.2) fun t =>
      some (.ok ((Eb.mk 4 [] (ab.mk d.1.Kind d.1.N d.1.Name d.1.Kids) t.1 ([]:List Eb)),t.2.1,t.2.2.1,t.2.2.2))
    else
      (Md c.2.1 c.2.2.1 c.2.2.2 [108,101,116]).bind fun e =>
      if e.1=true then
        oc (og fu e.2.1 e.2.2.1 e.2.2.2) fun u =>
        oc (tf u.2.1 u.2.2.1 u.2.2.2 [[61]]) fun x =>
        oc ((cd fu).Ed x.1 x.2.1 x.2.2) fun f =>
        bh f.2.1 f.2.2.1 f.2.2.2 1 u.1 f.1.Kind f.1.N f.1.Name f.1.Kids
      else
        (Md e.2.1 e.2.2.1 e.2.2.2 [114,101,116,117,114,110]).bind fun g =>
        if g.1=true then
          oc ((cd fu).Ed g.2.1 g.2.2.1 g.2.2.2) fun h =>
          bh h.2.1 h.2.2.1 h.2.2.2 5 [] h.1.Kind h.1.N h.1.Name h.1.Kids
        else
          (Md g.2.1 g.2.2.1 g.2.2.2 [115,116,111,112]).bind fun i =>
          if i.1=true then
            bh i.2.1 i.2.2.1 i.2.2.2 6 [] 0 0 [] []
          else
            (Md i.2.1 i.2.2.1 i.2.2.2 [115,101,110,100]).bind fun j =>
            if j.1=true then
              oc (og fu j.2.1 j.2.2.1 j.2.2.2) fun v =>
              oc ((cd fu).Ed v.2.1 v.2.2.1 v.2.2.2) fun k =>
              bh k.2.1 k.2.2.1 k.2.2.2 7 v.1 k.1.Kind k.1.N k.1.Name k.1.Kids
            else
              (Md j.2.1 j.2.2.1 j.2.2.2 [111,117,116]).bind fun l =>
              if l.1=true then
                oc ((cd fu).Ed l.2.1 l.2.2.1 l.2.2.2) fun m =>
                bh m.2.1 m.2.2.1 m.2.2.2 8 [] m.1.Kind m.1.N m.1.Name m.1.Kids
              else
                (Md l.2.1 l.2.2.1 l.2.2.2 [100,111]).bind fun n =>
                if n.1=true then
                  oc ((cd fu).Ed n.2.1 n.2.2.1 n.2.2.2) fun o =>
                  bh o.2.1 o.2.2.1 o.2.2.2 9 [] o.1.Kind o.1.N o.1.Name o.1.Kids
                else
                  oc (og fu n.2.1 n.2.2.1 n.2.2.2) fun w =>
                  oc (tf w.2.1 w.2.2.1 w.2.2.2 [[61]]) fun y =>
                  oc ((cd fu).Ed y.1 y.2.1 y.2.2) fun p =>
                  bh p.2.1 p.2.2.1 p.2.2.2 2 w.1 p.1.Kind p.1.N p.1.Name p.1.Kids
def Vf:Nat→yi
  | 0=>⟨fun _ _ _=>none,fun _ _ _=>none⟩
  | n+1=>⟨de n (Vf n),Yf n (Vf n)⟩
def ki (d:List UInt8×List ya×Int×Int) (c:fe×List ya×Int×Int) (e:Int) (a:Int×List ya×Int×Int) (f:Bool):Option (Except xb (dc×List ya×Int×Int)):=
  if f=true then
    some (.error (xb.mk 3 e))
  else
    oc (tf a.2.1 a.2.2.1 a.2.2.2 [[59]]) fun b =>
    some (.ok ((dc.mk 1 d.1 (fe.mk c.1.Kind c.1.Jc) (fe.mk 0 []) a.1 ([]:List TParam) ([]:List Eb)),b.1,b.2.1,b.2.2))
def vi (fu:Nat)  (u:List ya) (v:Int) (w:Int):Option (Except xb (dc×List ya×Int×Int)):=
  (mh u v w).bind fun y =>
  (Md u v w [98,111,120]).bind fun b =>
  if b.1=true then
    oc (og fu b.2.1 b.2.2.1 b.2.2.2) fun e =>
    oc (Yh fu e.2.1 e.2.2.1 e.2.2.2) fun a =>
    (mh a.2.1 a.2.2.1 a.2.2.2).bind fun x =>
    oc (Fj a.2.1 a.2.2.1 a.2.2.2) fun i =>
    if i.1<1 then
      ki e a x i true
    else
      ki e a x i (decide ((20:Int)<i.1))
  else
    (Md b.2.1 b.2.2.1 b.2.2.2 [102,110]).bind fun c =>
    if c.1=true then
      oc (og fu c.2.1 c.2.2.1 c.2.2.2) fun j =>
      oc (fj fu j.2.1 j.2.2.1 j.2.2.2) fun k =>
      oc (Yh fu k.2.1 k.2.2.1 k.2.2.2) fun f =>
      oc ((Vf fu).de f.2.1 f.2.2.1 f.2.2.2) fun l =>
      some (.ok ((dc.mk 2 j.1 (fe.mk f.1.Kind f.1.Jc) (fe.mk 0 []) 0 k.1 l.1),l.2.1,l.2.2.1,l.2.2.2))
    else
      (Md c.2.1 c.2.2.1 c.2.2.2 [103,101,110]).bind fun d =>
      if d.1=true then
        oc (og fu d.2.1 d.2.2.1 d.2.2.2) fun m =>
        oc (fj fu m.2.1 m.2.2.1 m.2.2.2) fun n =>
        oc (tf n.2.1 n.2.2.1 n.2.2.2 [[116,97,107,101,115]]) fun s =>
        oc (Yh fu s.1 s.2.1 s.2.2) fun g =>
        oc (tf g.2.1 g.2.2.1 g.2.2.2 [[121,105,101,108,100,115]]) fun t =>
        oc (Yh fu t.1 t.2.1 t.2.2) fun h =>
        oc ((Vf fu).de h.2.1 h.2.2.1 h.2.2.2) fun o =>
        some (.ok ((dc.mk 3 m.1 (fe.mk h.1.Kind h.1.Jc) (fe.mk g.1.Kind g.1.Jc) 0 n.1 o.1),o.2.1,o.2.2.1,o.2.2.2))
      else
        (Md d.2.1 d.2.2.1 d.2.2.2 [116,97,115,107]).bind fun p =>
        if p.1=true then
          oc (og fu p.2.1 p.2.2.1 p.2.2.2) fun q =>
          oc ((Vf fu).de q.2.1 q.2.2.1 q.2.2.2) fun r =>
          some (.ok ((dc.mk 4 q.1 (fe.mk 0 []) (fe.mk 0 []) 0 ([]:List TParam) r.1),r.2.1,r.2.2.1,r.2.2.2))
        else
          some (.error (xb.mk 2 y))
end Go.Y
namespace Go.Y
open Go.cc Go.Kc
theorem wz {α:Type}{l:List ya}{e d:Int}{k1 b:List UInt8}(m:¬ k1=b){A B C:Bool×List ya×Int×Int→Option α}{r:α}
    (h:(Option.bind (Md l e d k1) fun x=>if x.1=true then A x else Option.bind (Md x.2.1 x.2.2.1 x.2.2.2 b) fun y=>if y.1=true then B y else C y)=some r) :
    (Option.bind (Md l e d b) fun y=>if y.1=true then B y else Option.bind (Md y.2.1 y.2.2.1 y.2.2.2 k1) fun x=>if x.1=true then A x else C x)=some r:=by
  have key:∀ k,(Ni l e d k=some false∧Md l e d k=some (false,l,e,d))∨(∃ t a,l=t::a∧t.Text=k∧Md l e d k=some (true,a,e,d)):=by
    intro k;cases l with
    | nil=>first | (left; simp [Ni,Md]; done) | (exfalso; simp [Ni,Md] at h)
    | cons t a =>
      by_cases c:t.Text=k
      · right;refine ⟨t,a,rfl,c,?_⟩;have f:(0:Int)<((a.length+1:Nat):Int):=by omega
        have n:(1:Int)≤((a.length+1:Nat):Int):=by omega
        have o:cut (t::a) 1 ((t::a).length)=some a:=by
          unfold cut;rw [if_pos ⟨by omega,by simpa using n,by simp⟩];simp
        have p:Ni (t::a) e d k=some true:=by
          unfold Ni;rw [if_pos (by simp)];simp [at_,c]
        unfold Md;rw [p,Option.bind_some];simp only [if_true];rw [o];rfl
      · left;have f:(0:Int)<((a.length+1:Nat):Int):=by omega
        simp [Md,Ni,at_,c,f]
  rcases key k1 with ⟨s1,i1⟩ | ⟨t,a,g,i,i1⟩
  · rw [i1,Option.bind_some] at h;simp only [Bool.false_eq_true,if_false] at h;rcases key b with ⟨s2,i2⟩ | ⟨t,a,g,i,i2⟩
    · rw [i2,Option.bind_some] at h ⊢;simp only [Bool.false_eq_true,if_false] at h ⊢;rw [i1,Option.bind_some];simpa using h
    · rw [i2,Option.bind_some] at h ⊢;simp only [if_true] at h ⊢;exact h
  · rw [i1,Option.bind_some] at h;simp only [if_true] at h;rcases key b with ⟨s2,i2⟩ | ⟨t2,s,j,q,i2⟩
    · rw [i2,Option.bind_some];simp only [Bool.false_eq_true,if_false];rw [i1,Option.bind_some];simpa using h
    · rw [g] at j;obtain ⟨rfl,rfl⟩:=List.cons.inj j;exact absurd (i.symm.trans q) m
end Go.Y
namespace Go.Y
open Go.cc Go.Kc
def Vm:Option Unit:=some ()
def Rp (a:List ya×xb):Option (List dc×xb):=
  some (([]:List dc),a.2)
def so (a:(List ya)→Int→Int→(List dc)→Option (List dc×xb)) (b:List ya) (i85:Int) (i86:Int) (c:List dc):Option (List dc×xb):=
  a b i85 i86 c
def Sp (a:xb):Option (List dc×xb):=
  (Vm ).bind fun b =>
  some (([]:List dc),(xb.mk a.oe 0))
def uo (a:List ya×xb) (b:List dc):Option (List dc×xb):=
  (Vm ).bind fun c =>
  some (b,a.2)
def aj (fu:Nat) (d:List ya×xb):Nat→(List ya)→Int→Int→(List dc)→Option (List dc×xb)
  | 0,_,_,_,_=>none
  | n+1,c,i45,i46,a =>
    if (0:Int)<(c.length:Int) then
      if (a.length:Int)=30 then
        (mh c i45 i46).bind fun f =>
        some (([]:List dc),xb.mk 5 f)
      else
        Qq (vi fu c i45 i46) (fun g=>(([]:List dc),g)) fun b =>
        (app a [b.1]).bind fun h =>
        so (aj fu d n) b.2.1 b.2.2.1 b.2.2.2 h
    else
      (Gl fu a).bind fun e =>
      if e.oe≠0 then
        Sp e
      else
        uo d a
def jk (fu:Nat)  (b:List UInt8):Option (List dc×xb):=
  (Up fu b).bind fun a =>
  if a.2.oe≠0 then
    Rp a
  else
    aj fu a fu a.1 (b.length:Int) 0 []
end Go.Y
namespace Go.Y
open Go.cc Go.Kc
structure Fp where
  Ih:ab→ab→Option Bool
def Am (self:Fp) (a:ab) (b:ab):Nat→Int→Option Bool
  | 0,_=>none
  | n+1,i44 =>
    if i44<(a.Kids.length:Int) then
      (at_ a.Kids i44).bind fun c =>
      (at_ b.Kids i44).bind fun d =>
      (self.Ih c d).bind fun e =>
      if e=true then
        (i64 (i44+1)).bind fun i100 =>
        Am self a b n i100
      else
        some false
    else
      some true
def Bm (self:Fp) (a:ab) (b:ab) (c:Bool):Option Bool :=
  if c=true then
    some false
  else
    Am self a b (a.Kids.length+1) 0
def Ih (self:Fp) (a:ab) (b:ab):Option Bool :=
  if a.Kind≠b.Kind then
    Bm self a b true
  else
    if a.N≠b.N then
      Bm self a b true
    else
      if a.Name≠b.Name then
        Bm self a b true
      else
        Bm self a b (decide ((a.Kids.length:Int)≠(b.Kids.length:Int)))
def Ll:Nat→Fp
  | 0=>⟨fun _ _=>none⟩
  | n+1=>⟨Ih (Ll n)⟩
structure Mq where
  Fg:(List Eb)→(List Eb)→Option Bool
def Cl (i194:Int) (a:Int→Option Bool) (b:Bool):Option Bool :=
  if b=true then
    some false
  else
    (i64 (i194+1)).bind fun c =>
    a c
def hi (fu:Nat) (self:Mq) (a:List Eb) (b:List Eb):Nat→Int→Option Bool
  | 0,_=>none
  | n+1,i194 =>
    if i194<(a.length:Int) then
      (at_ a i194).bind fun c =>
      (at_ b i194).bind fun d =>
      if c.Kind≠d.Kind then
        Cl i194 (hi fu self a b n) true
      else
        (at_ a i194).bind fun e =>
        (at_ b i194).bind fun f =>
        if e.Name≠f.Name then
          Cl i194 (hi fu self a b n) true
        else
          (at_ a i194).bind fun g =>
          (at_ b i194).bind fun h =>
          ((Ll fu).Ih g.X h.X).bind fun i =>
          if i=true then
            (at_ a i194).bind fun j =>
            (at_ b i194).bind fun k =>
            (self.Fg j.Body k.Body).bind fun l =>
            if l=true then
              (at_ a i194).bind fun m =>
              (at_ b i194).bind fun o =>
              (self.Fg m.me o.me).bind fun p =>
              Cl i194 (hi fu self a b n) (!p)
            else
              Cl i194 (hi fu self a b n) true
          else
            Cl i194 (hi fu self a b n) true
    else
      some true
def Fg (fu:Nat) (self:Mq) (a:List Eb) (b:List Eb):Option Bool :=
  if (a.length:Int)≠(b.length:Int) then
    some false
  else
    hi fu self a b (a.length+1) 0
def Li:Nat→Mq
  | 0=>⟨fun _ _=>none⟩
  | n+1=>⟨Fg n (Li n)⟩
def Ho (i107:Int) (b:List TParam) (e:List TParam) (f:Int→Option Bool):Nat→Int→Option Bool
  | 0,_=>none
  | n+1,a =>
    if a<(b.length:Int) then
      (at_ b a).bind fun c =>
      (at_ e a).bind fun d =>
      if (ch [(decide (c.Name=d.Name)),(ch [(decide (c.Yc.Kind=d.Yc.Kind)),(decide (c.Yc.Jc=d.Yc.Jc))])])=true then
        (i64 (a+1)).bind fun g =>
        Ho i107 b e f n g
      else
        some false
    else
      (i64 (i107+1)).bind fun h =>
      f h
def Vk (i107:Int) (a:List TParam) (b:List TParam) (c:Int→Option Bool) (d:Bool):Option Bool :=
  if d=true then
    some false
  else
    Ho i107 a b c (a.length+1) 0
def Yq (fu:Nat) (i107:Int) (c:Int→Option Bool) (i210:Int) (d:List UInt8) (i212:Int) (e:List UInt8) (f:Int) (g:List UInt8) (h:Int) (a:List TParam) (i:List Eb) (i226:Int) (j:List UInt8) (i228:Int) (k:List UInt8) (l:Int) (m:List UInt8) (i232:Int) (b:List TParam) (n:List Eb):Option Bool :=
  if i210≠i226 then
    Vk i107 a b c true
  else
    if d≠j then
      Vk i107 a b c true
    else
      if (ch [(decide (i212=i228)),(decide (e=k))])=true then
        if (ch [(decide (f=l)),(decide (g=m))])=true then
          if h≠i232 then
            Vk i107 a b c true
          else
            if (a.length:Int)≠(b.length:Int) then
              Vk i107 a b c true
            else
              ((Li fu).Fg i n).bind fun o =>
              Vk i107 a b c (!o)
        else
          Vk i107 a b c true
      else
        Vk i107 a b c true
def zj (fu:Nat) (c:List dc) (d:List dc):Nat→Int→Option Bool
  | 0,_=>none
  | n+1,i107 =>
    if i107<(c.length:Int) then
      (at_ c i107).bind fun a =>
      (at_ d i107).bind fun b =>
      Yq fu i107 (zj fu c d n) a.Kind a.Name a.Yc.Kind a.Yc.Jc a.Qd.Kind a.Qd.Jc a.Hf a.Params a.Body b.Kind b.Name b.Yc.Kind b.Yc.Jc b.Qd.Kind b.Qd.Jc b.Hf b.Params b.Body
    else
      some true
def Rm (fu:Nat)  (a:List dc) (b:List dc):Option Bool :=
  if (a.length:Int)≠(b.length:Int) then
    some false
  else
    zj fu a b (a.length+1) 0
end Go.Y
namespace Go.Y
def ot (c : UInt8) : Option Bool := some (af.Mh.contains c)
end Go.Y
namespace Go.Y
open Go.cc Go.Kc
def tn (a:UInt8) (b:Bool):Option Int :=
  if b=true then
    some 3
  else
    if (a.toNat:Int)=35 then
      some 4
    else
      some 5
def vo (a:UInt8) (b:Bool):Option Int :=
  if b=true then
    some 2
  else
    if (a.toNat:Int)=32 then
      tn a true
    else
      if (a.toNat:Int)=9 then
        tn a true
      else
        tn a (decide ((a.toNat:Int)=10))
def wo (a:UInt8) (b:Bool):Option Int :=
  if b=true then
    some 1
  else
    if (48:Int)≤(a.toNat:Int) then
      vo a (decide ((a.toNat:Int)≤57))
    else
      vo a false
def xo (a:UInt8) (Da:Bool):Option Int :=
  if Da=true then
    wo a Da
  else
    wo a (decide ((a.toNat:Int)=95))
def Il  (a:UInt8):Option Int :=
  if (97:Int)≤(a.toNat:Int) then
    xo a (decide ((a.toNat:Int)≤122))
  else
    xo a false
def Mo (a:List UInt8):Nat→Int→Option Bool
  | 0,_=>none
  | n+1,i15 =>
    if i15<27 then
      (at_ [[98,111,120],[102,110],[103,101,110],[116,97,115,107],[116,97,107,101,115],[121,105,101,108,100,115],[108,101,116],[105,102],[101,108,115,101],[119,104,105,108,101],[114,101,116,117,114,110],[115,116,111,112],[115,101,110,100],[111,117,116],[100,111],[114,101,99,118],[121,105,101,108,100],[115,116,97,114,116],[114,101,115,117,109,101],[97,108,105,118,101],[110,117,109],[98,111,111,108],[116,114,117,101],[102,97,108,115,101],[97,110,100],[111,114],[110,111,116]] i15).bind fun b =>
      if b=a then
        some true
      else
        (i64 (i15+1)).bind fun i37 =>
        Mo a n i37
    else
      some false
def rq  (a:List UInt8):Option Bool :=
  Mo a 28 0
def qm (b:List UInt8) (a:Nat) (c:Nat→Option Bool) (d:Bool):Option Bool :=
  if d=true then
    some false
  else
    c (a+wd b a)
def dk (a:List UInt8):Nat→Nat→Option Bool
  | 0,_=>none
  | n+1,b =>
    if b<a.length then
      (at_ a ((b:Nat):Int)).bind fun d =>
      (Il d).bind fun c =>
      if c≠1 then
        if c≠2 then
          qm a b (dk a n) true
        else
          qm a b (dk a n) (decide (((b:Nat):Int)=0))
      else
        qm a b (dk a n) false
    else
      if (0:Int)<(a.length:Int) then
        if (a.length:Int)≤12 then
          (rq a).bind fun e =>
          some (!e)
        else
          some false
      else
        some false
def mi  (a:List UInt8):Option Bool :=
  dk a (a.length+1) 0
def ko (b:List UInt8) (i162:Int) (c:List ya) (d:Int→(List ya)→Option (List ya×xb)) (a:Int):Option (List ya×xb):=
  (cut b i162 a).bind fun e =>
  (app c [(ya.mk 3 e 0 i162)]).bind fun f =>
  d a f
def im (a:List UInt8) (i162:Int) (b:List ya) (c:Int) (d:Int→(List ya)→Option (List ya×xb)) (e:Bool):Option (List ya×xb):=
  if e=true then
    some (([]:List ya),(xb.mk 2 i162))
  else
    ko a i162 b d c
def wj (a:List UInt8) (i162:Int) (b:List ya) (e:UInt8) (c:Int) (d:Int→(List ya)→Option (List ya×xb)) (f:Bool):Option (List ya×xb):=
  if f=true then
    (i64 (c+1)).bind fun g =>
    ko a i162 b d g
  else
    if (e.toNat:Int)=33 then
      im a i162 b c d true
    else
      (ot e).bind fun h =>
      im a i162 b c d (!h)
def lo (b:List ya) (a:Int) (c:Int→(List ya)→Option (List ya×xb)) (d:Int→Option (List ya×xb)) (e:Bool):Option (List ya×xb):=
  if e=true then
    (i64 (a+1)).bind fun f =>
    d f
  else
    c a b
def jm (a:List UInt8) (b:List ya) (c:Int→(List ya)→Option (List ya×xb)):Nat→Int→Option (List ya×xb)
  | 0,_=>none
  | n+1,d =>
    if d<(a.length:Int) then
      (at_ a d).bind fun e =>
      lo b d c (jm a b c n) (decide ((e.toNat:Int)≠10))
    else
      lo b d c (jm a b c n) false
def mo (b:List UInt8) (i162:Int) (c:List ya) (a:Int) (d:Int→(List ya)→Option (List ya×xb)) (e:Int→Option (List ya×xb)) (f:Bool):Option (List ya×xb):=
  if f=true then
    (i64 (a+1)).bind fun g =>
    e g
  else
    (cut b i162 a).bind fun h =>
    (app c [(ya.mk 1 h 0 i162)]).bind fun i =>
    d a i
def km (a:List UInt8) (i162:Int) (b:List ya) (c:Int→(List ya)→Option (List ya×xb)):Nat→Int→Option (List ya×xb)
  | 0,_=>none
  | n+1,d =>
    if d<(a.length:Int) then
      (at_ a d).bind fun e =>
      (Il e).bind fun f =>
      mo a i162 b d c (km a i162 b c n) (decide (f≤2))
    else
      mo a i162 b d c (km a i162 b c n) false
def rn (c:List UInt8) (i162:Int) (e:List ya) (a:Int) (b:Int) (f:Int→(List ya)→Option (List ya×xb)) (d:Int→Int→Option (List ya×xb)) (g:Bool):Option (List ya×xb):=
  if g=true then
    (i64 (a - i162)).bind fun h =>
    if h<15 then
      (at_ c a).bind fun i =>
      (i64 (Me ((i.toNat:Int) - 48))).bind fun j =>
      (i64 (a+1)).bind fun k =>
      d k (Ep ((Ep (10*b))+j))
    else
      (i64 (a+1)).bind fun l =>
      d l b
  else
    (i64 (a - i162)).bind fun m =>
    if (15:Int)<m then
      some (([]:List ya),(xb.mk 3 i162))
    else
      (cut c i162 a).bind fun n =>
      (app e [(ya.mk 2 n b i162)]).bind fun o =>
      f a o
def vl (a:List UInt8) (i162:Int) (b:List ya) (c:Int→(List ya)→Option (List ya×xb)):Nat→Int→Int→Option (List ya×xb)
  | 0,_,_=>none
  | n+1,d,e =>
    if d<(a.length:Int) then
      (at_ a d).bind fun f =>
      (Il f).bind fun g =>
      rn a i162 b d e c (vl a i162 b c n) (decide (g=2))
    else
      rn a i162 b d e c (vl a i162 b c n) false
def Ve (fu:Nat) (a:List UInt8):Nat→Int→(List ya)→Option (List ya×xb)
  | 0,_,_=>none
  | n+1,i162,b =>
    if i162<(a.length:Int) then
      (at_ a i162).bind fun f =>
      (Il f).bind fun e =>
      if e=3 then
        (i64 (i162+1)).bind fun g =>
        Ve fu a n g b
      else
        if e=4 then
          jm a b (Ve fu a n) fu i162
        else
          if e=1 then
            km a i162 b (Ve fu a n) fu i162
          else
            if e=2 then
              vl a i162 b (Ve fu a n) fu i162 0
            else
              (at_ a i162).bind fun c =>
              (i64 (i162+1)).bind fun d =>
              if d<(a.length:Int) then
                (at_ a d).bind fun h =>
                if (h.toNat:Int)=61 then
                  if (c.toNat:Int)=61 then
                    wj a i162 b c d (Ve fu a n) true
                  else
                    if (c.toNat:Int)=33 then
                      wj a i162 b c d (Ve fu a n) true
                    else
                      if (c.toNat:Int)=60 then
                        wj a i162 b c d (Ve fu a n) true
                      else
                        wj a i162 b c d (Ve fu a n) (decide ((c.toNat:Int)=62))
                else
                  wj a i162 b c d (Ve fu a n) false
              else
                wj a i162 b c d (Ve fu a n) false
    else
      some (b,(xb.mk 0 0))
def Xp (fu:Nat)  (a:List UInt8):Option (List ya×xb):=
  if (6000:Int)<(a.length:Int) then
    some (([]:List ya),(xb.mk 4 0))
  else
    Ve fu a fu 0 []
def vk  (a:Int) (b:Int):Option (Bool×Int):=
  (i64 (a+1)).bind fun i3 =>
  if i3≤2000 then
    some (decide (b≤40),i3)
  else
    some (false,i3)
def Zq  (a:Bool):Option Int :=
  if a=true then
    some 7
  else
    some 0
def Io (a:fe) (b:Bool):Option Int :=
  if b=true then
    some 1
  else
    if a.Kind=3 then
      (mi a.Jc).bind fun c =>
      Zq (!c)
    else
      Zq false
def Mn  (a:fe):Option Int :=
  if a.Kind<1 then
    Io a true
  else
    Io a (decide ((3:Int)<a.Kind))
def vr  (a:Int):Option Int :=
  (at_ [0,0,0,0,1,1,2,2,2,2,2,2,2,2,2,2,2,2,2,(-1),0,1,(-1),2,1] a).bind fun b =>
  some b
structure Yl where
  hj:Int→ab→Int→Option (Int×Int)
def Jo (self:Yl) (b:ab) (c:Int):Nat→Int→Int→Option (Int×Int)
  | 0,_,_=>none
  | n+1,i73,i74 =>
    if i73<(b.Kids.length:Int) then
      (at_ b.Kids i73).bind fun d =>
      (i64 (c+1)).bind fun i110 =>
      (self.hj i74 d i110).bind fun a =>
      if a.1≠0 then
        some (a.1,a.2)
      else
        (i64 (i73+1)).bind fun i116 =>
        Jo self b c n i116 a.2
    else
      some (0,i74)
def An (self:Yl) (a:ab) (c:Int) (b:Bool×Int) (d:Bool):Option (Int×Int):=
  if d=true then
    some (5,b.2)
  else
    Jo self a c (a.Kids.length+1) 0 b.2
def El (self:Yl) (a:ab) (c:Int) (b:Bool×Int) (e:Bool):Option (Int×Int):=
  if e=true then
    some (7,b.2)
  else
    (vr a.Kind).bind fun d =>
    if (0:Int)≤d then
      if (a.Kids.length:Int)≠d then
        An self a c b true
      else
        An self a c b (decide ((6:Int)<(a.Kids.length:Int)))
    else
      An self a c b (decide ((6:Int)<(a.Kids.length:Int)))
def cj (self:Yl) (a:ab) (c:Int) (b:Bool×Int) (d:Bool):Option (Int×Int):=
  if d=true then
    some (3,b.2)
  else
    if a.Kind=3 then
      (mi a.Name).bind fun e =>
      El self a c b (!e)
    else
      if a.Kind=20 then
        (mi a.Name).bind fun f =>
        El self a c b (!f)
      else
        if a.Kind=19 then
          (mi a.Name).bind fun g =>
          El self a c b (!g)
        else
          if a.Kind=22 then
            (mi a.Name).bind fun h =>
            El self a c b (!h)
          else
            El self a c b false
def Ko (self:Yl) (a:ab) (c:Int) (b:Bool×Int) (d:Bool):Option (Int×Int):=
  if d=true then
    some (1,b.2)
  else
    if a.Kind=1 then
      if a.N<0 then
        cj self a c b true
      else
        if (999999999999999:Int)<a.N then
          cj self a c b true
        else
          if a.Kind=2 then
            if a.N<0 then
              cj self a c b true
            else
              cj self a c b (decide ((1:Int)<a.N))
          else
            cj self a c b false
    else
      if a.Kind=2 then
        if a.N<0 then
          cj self a c b true
        else
          cj self a c b (decide ((1:Int)<a.N))
      else
        cj self a c b false
def hj (self:Yl) (d:Int) (a:ab) (c:Int):Option (Int×Int):=
  (vk d c).bind fun b =>
  if b.1=true then
    if a.Kind<1 then
      Ko self a c b true
    else
      Ko self a c b (decide ((24:Int)<a.Kind))
  else
    some (4,b.2)
def wk:Nat→Yl
  | 0=>⟨fun _ _ _=>none⟩
  | n+1=>⟨hj (wk n)⟩
structure Zl where
  ni:Int→(List Eb)→Int→Option (Int×Int)
def yo (self:Zl) (d:Int) (i65:Int) (b:Eb) (c:Int→Int→Option (Int×Int)) (i181:Int):Option (Int×Int):=
  if b.Kind=3 then
    (i64 (d+1)).bind fun e =>
    (self.ni i181 b.me e).bind fun a =>
    if a.1≠0 then
      some (a.1,a.2)
    else
      (i64 (i65+1)).bind fun f =>
      c f a.2
  else
    (i64 (i65+1)).bind fun g =>
    c g i181
def zo (self:Zl) (b:Int) (i65:Int) (c:Eb) (d:Int×Int) (e:Int→Int→Option (Int×Int)) (f:Bool):Option (Int×Int):=
  if f=true then
    (i64 (b+1)).bind fun i183 =>
    (self.ni d.2 c.Body i183).bind fun a =>
    if a.1≠0 then
      some (a.1,a.2)
    else
      yo self b i65 c e a.2
  else
    yo self b i65 c e d.2
def rm (fu:Nat) (self:Zl) (c:Int) (i65:Int) (a:Eb) (d:Bool×Int) (e:Int→Int→Option (Int×Int)) (f:Bool):Option (Int×Int):=
  if f=true then
    some (7,d.2)
  else
    if a.Kind=6 then
      (i64 (i65+1)).bind fun i170 =>
      e i170 d.2
    else
      (i64 (c+1)).bind fun i172 =>
      ((wk fu).hj d.2 a.X i172).bind fun b =>
      if b.1≠0 then
        some (b.1,b.2)
      else
        if a.Kind=3 then
          zo self c i65 a b e true
        else
          zo self c i65 a b e (decide (a.Kind=4))
def tm (fu:Nat) (self:Zl) (c:Int) (i65:Int) (a:Eb) (b:Bool×Int) (d:Int→Int→Option (Int×Int)) (e:Bool):Option (Int×Int):=
  if e=true then
    some (1,b.2)
  else
    if a.Kind=1 then
      (mi a.Name).bind fun f =>
      rm fu self c i65 a b d (!f)
    else
      if a.Kind=2 then
        (mi a.Name).bind fun g =>
        rm fu self c i65 a b d (!g)
      else
        if a.Kind=7 then
          (mi a.Name).bind fun h =>
          rm fu self c i65 a b d (!h)
        else
          rm fu self c i65 a b d false
def ek (fu:Nat) (self:Zl) (b:List Eb) (a:Int):Nat→Int→Int→Option (Int×Int)
  | 0,_,_=>none
  | n+1,i65,i66 =>
    if i65<(b.length:Int) then
      (at_ b i65).bind fun c =>
      (vk i66 a).bind fun d =>
      if d.1=true then
        if c.Kind<1 then
          tm fu self a i65 c d (ek fu self b a n) true
        else
          tm fu self a i65 c d (ek fu self b a n) (decide ((9:Int)<c.Kind))
      else
        some (4,d.2)
    else
      some (0,i66)
def ni (fu:Nat) (self:Zl) (b:Int) (a:List Eb) (c:Int):Option (Int×Int):=
  if (50:Int)<(a.length:Int) then
    some (5,b)
  else
    ek fu self a c (a.length+1) 0 b
def Hj:Nat→Zl
  | 0=>⟨fun _ _ _=>none⟩
  | n+1=>⟨ni n (Hj n)⟩
def Hm (fu:Nat) (b:dc) (a:Bool×Int) (d:Bool):Option (Int×Int):=
  if d=true then
    some (3,a.2)
  else
    if b.Kind=1 then
      some (0,a.2)
    else
      ((Hj fu).ni a.2 b.Body 2).bind fun c =>
      some (c.1,c.2)
def No (fu:Nat) (a:dc) (b:Bool×Int):Option (Int×Int):=
  if a.Kind=1 then
    if a.Hf<1 then
      Hm fu a b true
    else
      Hm fu a b (decide ((20:Int)<a.Hf))
  else
    Hm fu a b false
def Oo (fu:Nat) (a:dc) (b:Bool×Int):Option (Int×Int):=
  if a.Kind<4 then
    (Mn a.Yc).bind fun c =>
    if c≠0 then
      some (c,b.2)
    else
      No fu a b
  else
    No fu a b
def Po (fu:Nat) (a:dc) (b:Bool×Int):Option (Int×Int):=
  if a.Kind=3 then
    (Mn a.Qd).bind fun c =>
    if c≠0 then
      some (c,b.2)
    else
      Oo fu a b
  else
    Oo fu a b
def Qo (fu:Nat) (a:dc) (b:Bool×Int):Nat→Int→Option (Int×Int)
  | 0,_=>none
  | n+1,i46 =>
    if i46<(a.Params.length:Int) then
      (at_ a.Params i46).bind fun c =>
      (mi c.Name).bind fun e =>
      if e=true then
        (Mn c.Yc).bind fun d =>
        if d≠0 then
          some (d,b.2)
        else
          (i64 (i46+1)).bind fun i85 =>
          Qo fu a b n i85
      else
        some (7,b.2)
    else
      Po fu a b
def Ro (fu:Nat) (a:dc) (b:Bool×Int) (c:Bool):Option (Int×Int):=
  if c=true then
    if (6:Int)<(a.Params.length:Int) then
      some (5,b.2)
    else
      Qo fu a b (a.Params.length+1) 0
  else
    Po fu a b
def So (fu:Nat) (a:dc) (b:Bool×Int) (c:Bool):Option (Int×Int):=
  if c=true then
    some (1,b.2)
  else
    (mi a.Name).bind fun d =>
    if d=true then
      if a.Kind=2 then
        Ro fu a b true
      else
        Ro fu a b (decide (a.Kind=3))
    else
      some (7,b.2)
def sq (fu:Nat)  (c:Int) (a:dc):Option (Int×Int):=
  (vk c 1).bind fun b =>
  if b.1=true then
    if a.Kind<1 then
      So fu a b true
    else
      So fu a b (decide ((4:Int)<a.Kind))
  else
    some (4,b.2)
def Ao (fu:Nat) (a:List dc):Nat→Int→Int→Option xb
  | 0,_,_=>none
  | n+1,i28,i29 =>
    if i28<(a.length:Int) then
      (at_ a i28).bind fun c =>
      (sq fu i29 c).bind fun b =>
      if b.1≠0 then
        some (xb.mk b.1 i28)
      else
        (i64 (i28+1)).bind fun i69 =>
        Ao fu a n i69 b.2
    else
      some (xb.mk 0 0)
def gq (fu:Nat)  (a:List dc):Option xb :=
  if (30:Int)<(a.length:Int) then
    some (xb.mk 5 0)
  else
    Ao fu a (a.length+1) 0 0
end Go.Y
namespace Go.Y
open Go.cc Go.Kc
def pg  (b:List ya) (c:Int) (d:Int) (a:Int) (e:Int):Option Bool :=
  some (decide (a=0))
def zi  (a:List ya) (b:Int) (d:Int) (e:Int) (f:Int):Option Int :=
  if (0:Int)<(a.length:Int) then
    (at_ a 0).bind fun c =>
    some c.Td
  else
    some b
def Sm  (a:List ya) (b:Int) (c:Int) (d:Int) (e:Int) (f:List UInt8):Option Bool :=
  (pg a b c d e).bind fun g =>
  if g=true then
    if (0:Int)<(a.length:Int) then
      (at_ a 0).bind fun h =>
      some (decide (h.Text=f))
    else
      some false
  else
    some false
def wh  (a:List ya) (b:Int) (c:Int) (d:Int) (e:Int) (f:Int) (g:Int):Option (List ya×Int×Int×Int×Int):=
  (pg a b c d e).bind fun h =>
  if h=true then
    some (a,b,c,f,g)
  else
    some (a,b,c,d,e)
def gf  (a:List ya) (b:Int) (c:Int) (d:Int) (e:Int) (f:List UInt8):Option (Bool×List ya×Int×Int×Int×Int):=
  (Sm a b c d e f).bind fun g =>
  if g=true then
    (cut a 1 a.length).bind fun h =>
    some (true,h,b,c,d,e)
  else
    some (false,a,b,c,d,e)
def Bf  (c:List ya) (d:Int) (e:Int) (f:Int) (g:Int) (h:List UInt8):Option (List ya×Int×Int×Int×Int):=
  (gf c d e f g h).bind fun a =>
  if a.1=true then
    some (a.2.1,a.2.2.1,a.2.2.2.1,a.2.2.2.2.1,a.2.2.2.2.2)
  else
    (zi a.2.1 a.2.2.1 a.2.2.2.1 a.2.2.2.2.1 a.2.2.2.2.2).bind fun i =>
    (wh a.2.1 a.2.2.1 a.2.2.2.1 a.2.2.2.2.1 a.2.2.2.2.2 2 i).bind fun b =>
    some (b.1,b.2.1,b.2.2.1,b.2.2.2.1,b.2.2.2.2)
def Cn (a:List ya) (b:Int) (c:Int) (d:Int) (e:Int) (i:Bool):Option (List UInt8×List ya×Int×Int×Int×Int):=
  if i=true then
    (zi a b c d e).bind fun j =>
    (wh a b c d e 2 j).bind fun f =>
    some ([],f.1,f.2.1,f.2.2.1,f.2.2.2.1,f.2.2.2.2)
  else
    (at_ a 0).bind fun h =>
    (mi h.Text).bind fun k =>
    if k=true then
      (cut a 1 a.length).bind fun l =>
      some (h.Text,l,b,c,d,e)
    else
      (zi a b c d e).bind fun m =>
      (wh a b c d e 7 m).bind fun g =>
      some ([],g.1,g.2.1,g.2.2.1,g.2.2.2.1,g.2.2.2.2)
def Rg  (a:List ya) (b:Int) (c:Int) (d:Int) (e:Int):Option (List UInt8×List ya×Int×Int×Int×Int):=
  (pg a b c d e).bind fun f =>
  if f=true then
    if (a.length:Int)=0 then
      Cn a b c d e true
    else
      (at_ a 0).bind fun g =>
      Cn a b c d e (decide (g.Kind≠1))
  else
    Cn a b c d e true
def Gn (a:List ya) (c:Int) (d:Int) (e:Int) (f:Int) (g:Bool):Option (Int×List ya×Int×Int×Int×Int):=
  if g=true then
    (zi a c d e f).bind fun h =>
    (wh a c d e f 2 h).bind fun b =>
    some (0,b.1,b.2.1,b.2.2.1,b.2.2.2.1,b.2.2.2.2)
  else
    (at_ a 0).bind fun i =>
    (cut a 1 a.length).bind fun j =>
    some (i.hn,j,c,d,e,f)
def Tl  (a:List ya) (b:Int) (c:Int) (d:Int) (e:Int):Option (Int×List ya×Int×Int×Int×Int):=
  (pg a b c d e).bind fun f =>
  if f=true then
    if (a.length:Int)=0 then
      Gn a b c d e true
    else
      (at_ a 0).bind fun g =>
      Gn a b c d e (decide (g.Kind≠2))
  else
    Gn a b c d e true
def Ik  (d:List ya) (e:Int) (f:Int) (g:Int) (h:Int):Option (fe×List ya×Int×Int×Int×Int):=
  (gf d e f g h [110,117,109]).bind fun a =>
  if a.1=true then
    some ((fe.mk 1 []),a.2.1,a.2.2.1,a.2.2.2.1,a.2.2.2.2.1,a.2.2.2.2.2)
  else
    (gf a.2.1 a.2.2.1 a.2.2.2.1 a.2.2.2.2.1 a.2.2.2.2.2 [98,111,111,108]).bind fun b =>
    if b.1=true then
      some ((fe.mk 2 []),b.2.1,b.2.2.1,b.2.2.2.1,b.2.2.2.2.1,b.2.2.2.2.2)
    else
      (Rg b.2.1 b.2.2.1 b.2.2.2.1 b.2.2.2.2.1 b.2.2.2.2.2).bind fun c =>
      some ((fe.mk 3 c.1),c.2.1,c.2.2.1,c.2.2.2.1,c.2.2.2.2.1,c.2.2.2.2.2)
def ep  (a:List ya) (i19:Int) (i20:Int) (i21:Int) (i22:Int):Option (Bool×List ya×Int×Int×Int×Int):=
  (pg a i19 i20 i21 i22).bind fun b =>
  some (b,a,i19,i20,i21,i22)
def Sj  (b:List ya) (c:Int) (f:Int) (d:Int) (e:Int):Option (Bool×List ya×Int×Int×Int×Int):=
  (i64 (f+1)).bind fun i13 =>
  if (200:Int)<i13 then
    (zi b c i13 d e).bind fun g =>
    (wh b c i13 d e 4 g).bind fun a =>
    ep a.1 a.2.1 a.2.2.1 a.2.2.2.1 a.2.2.2.2
  else
    ep b c i13 d e
def vn (c:List TParam) (d:(List ya)→Int→Int→Int→Int→(List TParam)→Option (List TParam×List ya×Int×Int×Int×Int)) (e:List ya) (f:Int) (g:Int) (h:Int) (i222:Int):Option (List TParam×List ya×Int×Int×Int×Int):=
  (Rg e f g h i222).bind fun b =>
  (Ik b.2.1 b.2.2.1 b.2.2.2.1 b.2.2.2.2.1 b.2.2.2.2.2).bind fun a =>
  (app c [(TParam.mk b.1 (fe.mk a.1.Kind a.1.Jc))]).bind fun i =>
  d a.2.1 a.2.2.1 a.2.2.2.1 a.2.2.2.2.1 a.2.2.2.2.2 i
def Dl (b:List TParam) (g:(List ya)→Int→Int→Int→Int→(List TParam)→Option (List TParam×List ya×Int×Int×Int×Int)) (c:List ya) (d:Int) (i203:Int) (e:Int) (f:Int):Option (List TParam×List ya×Int×Int×Int×Int):=
  if (b.length:Int)=6 then
    (zi c d i203 e f).bind fun h =>
    (wh c d i203 e f 5 h).bind fun a =>
    vn b g a.1 a.2.1 a.2.2.1 a.2.2.2.1 a.2.2.2.2
  else
    vn b g c d i203 e f
def Tp (b:List TParam) (d:(List ya)→Int→Int→Int→Int→(List TParam)→Option (List TParam×List ya×Int×Int×Int×Int)) (e:Bool) (c:List ya) (i181:Int) (i182:Int) (i183:Int) (i184:Int):Option (List TParam×List ya×Int×Int×Int×Int):=
  if e=true then
    if (0:Int)<(b.length:Int) then
      (Bf c i181 i182 i183 i184 [44]).bind fun a =>
      Dl b d a.1 a.2.1 a.2.2.1 a.2.2.2.1 a.2.2.2.2
    else
      Dl b d c i181 i182 i183 i184
  else
    some (b,c,i181,i182,i183,i184)
def ji :Nat→(List ya)→Int→Int→Int→Int→(List TParam)→Option (List TParam×List ya×Int×Int×Int×Int)
  | 0,_,_,_,_,_,_=>none
  | n+1,b,i96,i97,i98,i99,c =>
    (pg b i96 i97 i98 i99).bind fun d =>
    if d=true then
      (gf b i96 i97 i98 i99 [41]).bind fun a =>
      Tp c (ji n) (!a.1) a.2.1 a.2.2.1 a.2.2.2.1 a.2.2.2.2.1 a.2.2.2.2.2
    else
      Tp c (ji n) false b i96 i97 i98 i99
def Jl (fu:Nat)  (b:List ya) (c:Int) (d:Int) (e:Int) (f:Int):Option (List TParam×List ya×Int×Int×Int×Int):=
  (Bf b c d e f [40]).bind fun a =>
  ji fu a.1 a.2.1 a.2.2.1 a.2.2.2.1 a.2.2.2.2 []
def Fl (b:Int) (c:List UInt8) (a:List (List UInt8)):Nat→Int→Option Int
  | 0,_=>none
  | n+1,i65 =>
    if i65<(a.length:Int) then
      (at_ a i65).bind fun d =>
      if d=c then
        (i64 (b - 1)).bind fun i99 =>
        (at_ [18,17,11,6,8] i99).bind fun e =>
        (i64 (e+i65)).bind fun i109 =>
        some i109
      else
        (i64 (i65+1)).bind fun i111 =>
        Fl b c a n i111
    else
      some 0
def al  (a:Int) (c:List UInt8):Option Int :=
  (i64 (a - 1)).bind fun i25 =>
  (at_ [[[111,114]],[[97,110,100]],[[61,61],[33,61],[60],[60,61],[62],[62,61]],[[43],[45]],[[42],[47],[37]]] i25).bind fun b =>
  Fl a c b (b.length+1) 0
structure Dg where
  uf:(List ya)→Int→Int→Int→Int→Option (ab×List ya×Int×Int×Int×Int)
  si:(List ya)→Int→Int→Int→Int→Int→Option (ab×List ya×Int×Int×Int×Int)
  ti:(List ya)→Int→Int→Int→Int→Option (ab×List ya×Int×Int×Int×Int)
  fg:(List ya)→Int→Int→Int→Int→Int→Option (List ab×List ya×Int×Int×Int×Int)
  Ij:(List ya)→Int→Int→Int→Int→Option (ab×List ya×Int×Int×Int×Int)
def Im  (a:List ya) (i30:Int) (i31:Int) (i33:Int) (i34:Int) (i35:Int) (i36:Int) (b:List UInt8) (c:List ab):Option (ab×List ya×Int×Int×Int×Int):=
  (i64 (i31 - 1)).bind fun i55 =>
  some ((ab.mk i35 i36 b c),a,i30,i55,i33,i34)
def uf (self:Dg) (c:List ya) (d:Int) (e:Int) (f:Int) (g:Int):Option (ab×List ya×Int×Int×Int×Int):=
  (Sj c d e f g).bind fun a =>
  if a.1=true then
    (self.si a.2.1 a.2.2.1 a.2.2.2.1 a.2.2.2.2.1 a.2.2.2.2.2 1).bind fun b =>
    Im b.2.1 b.2.2.1 b.2.2.2.1 b.2.2.2.2.1 b.2.2.2.2.2 b.1.Kind b.1.N b.1.Name b.1.Kids
  else
    Im a.2.1 a.2.2.1 a.2.2.2.1 a.2.2.2.2.1 a.2.2.2.2.2 0 0 [] []
def Cm  (a:List ya) (i45:Int) (i46:Int) (i47:Int) (i48:Int) (i49:Int) (i50:Int) (b:List UInt8) (c:List ab):Option (ab×List ya×Int×Int×Int×Int):=
  some ((ab.mk i49 i50 b c),a,i45,i46,i47,i48)
def Dm (self:Dg) (c:Int) (b:List ya) (i109:Int) (i110:Int) (i111:Int) (i112:Int) (i113:Int) (i114:Int) (d:List UInt8) (e:List ab) (g:(List ya)→Int→Int→Int→Int→Int→Int→(List UInt8)→(List ab)→Option (ab×List ya×Int×Int×Int×Int)) (h:Bool):Option (ab×List ya×Int×Int×Int×Int):=
  if h=true then
    (at_ b 0).bind fun i =>
    (al c i.Text).bind fun f =>
    (cut b 1 b.length).bind fun j =>
    (i64 (c+1)).bind fun i208 =>
    (self.si j i109 i110 i111 i112 i208).bind fun a =>
    if c=3 then
      Cm a.2.1 a.2.2.1 a.2.2.2.1 a.2.2.2.2.1 a.2.2.2.2.2 f 0 [] [(ab.mk i113 i114 d e),a.1]
    else
      g a.2.1 a.2.2.1 a.2.2.2.1 a.2.2.2.2.1 a.2.2.2.2.2 f 0 [] [(ab.mk i113 i114 d e),a.1]
  else
    Cm b i109 i110 i111 i112 i113 i114 d e
def Aj (self:Dg) (a:Int):Nat→(List ya)→Int→Int→Int→Int→Int→Int→(List UInt8)→(List ab)→Option (ab×List ya×Int×Int×Int×Int)
  | 0,_,_,_,_,_,_,_,_,_=>none
  | n+1,b,i109,i110,i111,i112,i113,i114,c,d =>
    (pg b i109 i110 i111 i112).bind fun e =>
    if e=true then
      if (0:Int)<(b.length:Int) then
        (at_ b 0).bind fun f =>
        (al a f.Text).bind fun g =>
        Dm self a b i109 i110 i111 i112 i113 i114 c d (Aj self a n) (decide ((0:Int)<g))
      else
        Dm self a b i109 i110 i111 i112 i113 i114 c d (Aj self a n) false
    else
      Dm self a b i109 i110 i111 i112 i113 i114 c d (Aj self a n) false
def si (fu:Nat) (self:Dg) (d:List ya) (e:Int) (f:Int) (g:Int) (h:Int) (c:Int):Option (ab×List ya×Int×Int×Int×Int):=
  if c=6 then
    (self.ti d e f g h).bind fun b =>
    some (b.1,b.2.1,b.2.2.1,b.2.2.2.1,b.2.2.2.2.1,b.2.2.2.2.2)
  else
    (i64 (c+1)).bind fun i28 =>
    (self.si d e f g h i28).bind fun a =>
    Aj self c fu a.2.1 a.2.2.1 a.2.2.2.1 a.2.2.2.2.1 a.2.2.2.2.2 a.1.Kind a.1.N a.1.Name a.1.Kids
def Wk (i24:Int) (a:List ya) (i66:Int) (i67:Int) (i68:Int) (i69:Int) (b:List ab):Option (ab×List ya×Int×Int×Int×Int):=
  (i64 (i67 - 1)).bind fun i91 =>
  some ((ab.mk i24 0 [] b),a,i66,i91,i68,i69)
def Wp (self:Dg) (i24:Int) (d:List ya) (i29:Int) (i30:Int) (i31:Int) (i33:Int):Option (ab×List ya×Int×Int×Int×Int):=
  if i24=0 then
    (self.Ij d i29 i30 i31 i33).bind fun b =>
    some (b.1,b.2.1,b.2.2.1,b.2.2.2.1,b.2.2.2.2.1,b.2.2.2.2.2)
  else
    (Sj d i29 i30 i31 i33).bind fun a =>
    if a.1=true then
      (self.ti a.2.1 a.2.2.1 a.2.2.2.1 a.2.2.2.2.1 a.2.2.2.2.2).bind fun c =>
      Wk i24 c.2.1 c.2.2.1 c.2.2.2.1 c.2.2.2.2.1 c.2.2.2.2.2 [c.1]
    else
      Wk i24 a.2.1 a.2.2.1 a.2.2.2.1 a.2.2.2.2.1 a.2.2.2.2.2 []
def ti (self:Dg) (c:List ya) (d:Int) (e:Int) (f:Int) (g:Int):Option (ab×List ya×Int×Int×Int×Int):=
  (gf c d e f g [45]).bind fun a =>
  if a.1=true then
    Wp self 4 a.2.1 a.2.2.1 a.2.2.2.1 a.2.2.2.2.1 a.2.2.2.2.2
  else
    (gf a.2.1 a.2.2.1 a.2.2.2.1 a.2.2.2.2.1 a.2.2.2.2.2 [110,111,116]).bind fun b =>
    if b.1=true then
      Wp self 5 b.2.1 b.2.2.1 b.2.2.2.1 b.2.2.2.2.1 b.2.2.2.2.2
    else
      Wp self 0 b.2.1 b.2.2.1 b.2.2.2.1 b.2.2.2.2.1 b.2.2.2.2.2
def lr (a:List ab) (b:List ya) (c:Int) (d:Int) (e:Int) (f:Int):Option (List ab×List ya×Int×Int×Int×Int):=
  some (a,b,c,d,e,f)
def To (d:Int) (b:List ya) (i26:Int) (i27:Int) (i28:Int) (i29:Int) (c:List ab):Option (List ab×List ya×Int×Int×Int×Int):=
  if (0:Int)<d then
    (Bf b i26 i27 i28 i29 [41]).bind fun a =>
    lr c a.1 a.2.1 a.2.2.1 a.2.2.2.1 a.2.2.2.2
  else
    lr c b i26 i27 i28 i29
def Bj (self:Dg) (b:List ab) (c:(List ya)→Int→Int→Int→Int→(List ab)→Option (List ab×List ya×Int×Int×Int×Int)) (d:List ya) (e:Int) (i236:Int) (f:Int) (g:Int):Option (List ab×List ya×Int×Int×Int×Int):=
  (self.uf d e i236 f g).bind fun a =>
  (app b [a.1]).bind fun h =>
  c a.2.1 a.2.2.1 a.2.2.2.1 a.2.2.2.2.1 a.2.2.2.2.2 h
def Cj (self:Dg) (b:List ab) (g:(List ya)→Int→Int→Int→Int→(List ab)→Option (List ab×List ya×Int×Int×Int×Int)) (c:List ya) (i218:Int) (d:Int) (e:Int) (f:Int):Option (List ab×List ya×Int×Int×Int×Int):=
  if (b.length:Int)=6 then
    (zi c i218 d e f).bind fun h =>
    (wh c i218 d e f 5 h).bind fun a =>
    Bj self b g a.1 a.2.1 a.2.2.1 a.2.2.2.1 a.2.2.2.2
  else
    Bj self b g c i218 d e f
def Jm (self:Dg) (h:Int) (b:List ab) (g:(List ya)→Int→Int→Int→Int→(List ab)→Option (List ab×List ya×Int×Int×Int×Int)) (i:Bool) (c:List ya) (d:Int) (i198:Int) (e:Int) (f:Int):Option (List ab×List ya×Int×Int×Int×Int):=
  if i=true then
    To h c d i198 e f b
  else
    if (0:Int)<(b.length:Int) then
      (Bf c d i198 e f [44]).bind fun a =>
      Cj self b g a.1 a.2.1 a.2.2.1 a.2.2.2.1 a.2.2.2.2
    else
      Cj self b g c d i198 e f
def jf (self:Dg) (a:Int):Nat→(List ya)→Int→Int→Int→Int→(List ab)→Option (List ab×List ya×Int×Int×Int×Int)
  | 0,_,_,_,_,_,_=>none
  | n+1,d,i108,i109,i110,i111,c =>
    (pg d i108 i109 i110 i111).bind fun e =>
    if e=true then
      if a=0 then
        (gf d i108 i109 i110 i111 [41]).bind fun b =>
        if b.1=true then
          Jm self a c (jf self a n) true b.2.1 b.2.2.1 b.2.2.2.1 b.2.2.2.2.1 b.2.2.2.2.2
        else
          if (0:Int)<a then
            Jm self a c (jf self a n) (decide ((c.length:Int)=a)) b.2.1 b.2.2.1 b.2.2.2.1 b.2.2.2.2.1 b.2.2.2.2.2
          else
            Jm self a c (jf self a n) false b.2.1 b.2.2.1 b.2.2.2.1 b.2.2.2.2.1 b.2.2.2.2.2
      else
        if (0:Int)<a then
          Jm self a c (jf self a n) (decide ((c.length:Int)=a)) d i108 i109 i110 i111
        else
          Jm self a c (jf self a n) false d i108 i109 i110 i111
    else
      To a d i108 i109 i110 i111 c
def fg (fu:Nat) (self:Dg) (b:List ya) (c:Int) (d:Int) (e:Int) (f:Int) (g:Int):Option (List ab×List ya×Int×Int×Int×Int):=
  (Bf b c d e f [40]).bind fun a =>
  jf self g fu a.1 a.2.1 a.2.2.1 a.2.2.2.1 a.2.2.2.2 []
def Bn (self:Dg) (v:List ya) (w:Int) (x:Int) (y:Int) (z:Int) (A:Bool):Option (ab×List ya×Int×Int×Int×Int):=
  if A=true then
    (Tl v w x y z).bind fun j =>
    some ((ab.mk 1 j.1 [] ([]:List ab)),j.2.1,j.2.2.1,j.2.2.2.1,j.2.2.2.2.1,j.2.2.2.2.2)
  else
    (gf v w x y z [116,114,117,101]).bind fun b =>
    if b.1=true then
      some ((ab.mk 2 1 [] ([]:List ab)),b.2.1,b.2.2.1,b.2.2.2.1,b.2.2.2.2.1,b.2.2.2.2.2)
    else
      (gf b.2.1 b.2.2.1 b.2.2.2.1 b.2.2.2.2.1 b.2.2.2.2.2 [102,97,108,115,101]).bind fun c =>
      if c.1=true then
        some ((ab.mk 2 0 [] ([]:List ab)),c.2.1,c.2.2.1,c.2.2.2.1,c.2.2.2.2.1,c.2.2.2.2.2)
      else
        (gf c.2.1 c.2.2.1 c.2.2.2.1 c.2.2.2.2.1 c.2.2.2.2.2 [40]).bind fun d =>
        if d.1=true then
          (self.uf d.2.1 d.2.2.1 d.2.2.2.1 d.2.2.2.2.1 d.2.2.2.2.2).bind fun k =>
          (Bf k.2.1 k.2.2.1 k.2.2.2.1 k.2.2.2.2.1 k.2.2.2.2.2 [41]).bind fun s =>
          some (k.1,s.1,s.2.1,s.2.2.1,s.2.2.2.1,s.2.2.2.2)
        else
          (gf d.2.1 d.2.2.1 d.2.2.2.1 d.2.2.2.2.1 d.2.2.2.2.2 [114,101,99,118]).bind fun e =>
          if e.1=true then
            (Bf e.2.1 e.2.2.1 e.2.2.2.1 e.2.2.2.2.1 e.2.2.2.2.2 [40]).bind fun t =>
            (Rg t.1 t.2.1 t.2.2.1 t.2.2.2.1 t.2.2.2.2).bind fun l =>
            (Bf l.2.1 l.2.2.1 l.2.2.2.1 l.2.2.2.2.1 l.2.2.2.2.2 [41]).bind fun u =>
            some ((ab.mk 20 0 l.1 ([]:List ab)),u.1,u.2.1,u.2.2.1,u.2.2.2.1,u.2.2.2.2)
          else
            (gf e.2.1 e.2.2.1 e.2.2.2.1 e.2.2.2.2.1 e.2.2.2.2.2 [121,105,101,108,100]).bind fun f =>
            if f.1=true then
              (self.fg f.2.1 f.2.2.1 f.2.2.2.1 f.2.2.2.2.1 f.2.2.2.2.2 1).bind fun m =>
              some ((ab.mk 21 0 [] m.1),m.2.1,m.2.2.1,m.2.2.2.1,m.2.2.2.2.1,m.2.2.2.2.2)
            else
              (gf f.2.1 f.2.2.1 f.2.2.2.1 f.2.2.2.2.1 f.2.2.2.2.2 [97,108,105,118,101]).bind fun g =>
              if g.1=true then
                (self.fg g.2.1 g.2.2.1 g.2.2.2.1 g.2.2.2.2.1 g.2.2.2.2.2 1).bind fun n =>
                some ((ab.mk 24 0 [] n.1),n.2.1,n.2.2.1,n.2.2.2.1,n.2.2.2.2.1,n.2.2.2.2.2)
              else
                (gf g.2.1 g.2.2.1 g.2.2.2.1 g.2.2.2.2.1 g.2.2.2.2.2 [114,101,115,117,109,101]).bind fun h =>
                if h.1=true then
                  (self.fg h.2.1 h.2.2.1 h.2.2.2.1 h.2.2.2.2.1 h.2.2.2.2.2 2).bind fun o =>
                  some ((ab.mk 23 0 [] o.1),o.2.1,o.2.2.1,o.2.2.2.1,o.2.2.2.2.1,o.2.2.2.2.2)
                else
                  (gf h.2.1 h.2.2.1 h.2.2.2.1 h.2.2.2.2.1 h.2.2.2.2.2 [115,116,97,114,116]).bind fun i =>
                  if i.1=true then
                    (Rg i.2.1 i.2.2.1 i.2.2.2.1 i.2.2.2.2.1 i.2.2.2.2.2).bind fun p =>
                    (self.fg p.2.1 p.2.2.1 p.2.2.2.1 p.2.2.2.2.1 p.2.2.2.2.2 0).bind fun q =>
                    some ((ab.mk 22 0 p.1 q.1),q.2.1,q.2.2.1,q.2.2.2.1,q.2.2.2.2.1,q.2.2.2.2.2)
                  else
                    (Rg i.2.1 i.2.2.1 i.2.2.2.1 i.2.2.2.2.1 i.2.2.2.2.2).bind fun a =>
                    (Sm a.2.1 a.2.2.1 a.2.2.2.1 a.2.2.2.2.1 a.2.2.2.2.2 [40]).bind fun B =>
                    if B=true then
                      (self.fg a.2.1 a.2.2.1 a.2.2.2.1 a.2.2.2.2.1 a.2.2.2.2.2 0).bind fun r =>
                      some ((ab.mk 19 0 a.1 r.1),r.2.1,r.2.2.1,r.2.2.2.1,r.2.2.2.2.1,r.2.2.2.2.2)
                    else
                      some ((ab.mk 3 0 a.1 ([]:List ab)),a.2.1,a.2.2.1,a.2.2.2.1,a.2.2.2.2.1,a.2.2.2.2.2)
def Ij (self:Dg) (a:List ya) (b:Int) (c:Int) (d:Int) (e:Int):Option (ab×List ya×Int×Int×Int×Int):=
  (pg a b c d e).bind fun f =>
  if f=true then
    if (0:Int)<(a.length:Int) then
      (at_ a 0).bind fun g =>
      Bn self a b c d e (decide (g.Kind=2))
    else
      Bn self a b c d e false
  else
    Bn self a b c d e false
def qd:Nat→Dg
  | 0=>⟨fun _ _ _ _ _=>none,fun _ _ _ _ _ _=>none,fun _ _ _ _ _=>none,fun _ _ _ _ _ _=>none,fun _ _ _ _ _=>none⟩
  | n+1=>⟨uf (qd n),si n (qd n),ti (qd n),fg n (qd n),Ij (qd n)⟩
structure Nk where
  Sg:(List ya)→Int→Int→Int→Int→Option (List Eb×List ya×Int×Int×Int×Int)
  Oi:(List ya)→Int→Int→Int→Int→Option (Eb×List ya×Int×Int×Int×Int)
def Km  (a:List ya) (i26:Int) (i27:Int) (i28:Int) (i29:Int) (b:List Eb):Option (List Eb×List ya×Int×Int×Int×Int):=
  (i64 (i27 - 1)).bind fun c =>
  some (b,a,i26,c,i28,i29)
def Hl (self:Nk) (b:List Eb) (c:(List ya)→Int→Int→Int→Int→(List Eb)→Option (List Eb×List ya×Int×Int×Int×Int)) (d:List ya) (e:Int) (f:Int) (i201:Int) (g:Int):Option (List Eb×List ya×Int×Int×Int×Int):=
  (self.Oi d e f i201 g).bind fun a =>
  (app b [a.1]).bind fun h =>
  c a.2.1 a.2.2.1 a.2.2.2.1 a.2.2.2.2.1 a.2.2.2.2.2 h
def Yp (self:Nk) (b:List Eb) (d:(List ya)→Int→Int→Int→Int→(List Eb)→Option (List Eb×List ya×Int×Int×Int×Int)) (e:Bool) (c:List ya) (i178:Int) (i179:Int) (i180:Int) (i181:Int):Option (List Eb×List ya×Int×Int×Int×Int):=
  if e=true then
    if (b.length:Int)=50 then
      (zi c i178 i179 i180 i181).bind fun f =>
      (wh c i178 i179 i180 i181 5 f).bind fun a =>
      Hl self b d a.1 a.2.1 a.2.2.1 a.2.2.2.1 a.2.2.2.2
    else
      Hl self b d c i178 i179 i180 i181
  else
    Km c i178 i179 i180 i181 b
def Rh (self:Nk):Nat→(List ya)→Int→Int→Int→Int→(List Eb)→Option (List Eb×List ya×Int×Int×Int×Int)
  | 0,_,_,_,_,_,_=>none
  | n+1,b,i104,i105,i106,i107,c =>
    (pg b i104 i105 i106 i107).bind fun d =>
    if d=true then
      (gf b i104 i105 i106 i107 [125]).bind fun a =>
      Yp self c (Rh self n) (!a.1) a.2.1 a.2.2.1 a.2.2.2.1 a.2.2.2.2.1 a.2.2.2.2.2
    else
      Yp self c (Rh self n) false b i104 i105 i106 i107
def Sg (fu:Nat) (self:Nk) (c:List ya) (d:Int) (e:Int) (f:Int) (g:Int):Option (List Eb×List ya×Int×Int×Int×Int):=
  (Sj c d e f g).bind fun a =>
  if a.1=true then
    (Bf a.2.1 a.2.2.1 a.2.2.2.1 a.2.2.2.2.1 a.2.2.2.2.2 [123]).bind fun b =>
    Rh self fu b.1 b.2.1 b.2.2.1 b.2.2.2.1 b.2.2.2.2 []
  else
    Km a.2.1 a.2.2.1 a.2.2.2.1 a.2.2.2.2.1 a.2.2.2.2.2 []
def Dn (a:ab×List ya×Int×Int×Int×Int) (b:List Eb×List ya×Int×Int×Int×Int) (c:List ya) (i61:Int) (i62:Int) (i63:Int) (i65:Int) (d:List Eb):Option (Eb×List ya×Int×Int×Int×Int):=
  some ((Eb.mk 3 [] (ab.mk a.1.Kind a.1.N a.1.Name a.1.Kids) b.1 d),c,i61,i62,i63,i65)
def Sh (i149:Int) (b:List UInt8) (c:List ya) (d:Int) (e:Int) (f:Int) (i218:Int) (g:Int) (h:Int) (i:List UInt8) (j:List ab):Option (Eb×List ya×Int×Int×Int×Int):=
  (Bf c d e f i218 [59]).bind fun a =>
  some ((Eb.mk i149 b (ab.mk g h i j) ([]:List Eb) ([]:List Eb)),a.1,a.2.1,a.2.2.1,a.2.2.2.1,a.2.2.2.2)
def Zp (fu:Nat) (i149:Int) (b:List UInt8) (c:List ya) (i198:Int) (d:Int) (e:Int) (i201:Int):Option (Eb×List ya×Int×Int×Int×Int):=
  if i149≠6 then
    ((qd fu).uf c i198 d e i201).bind fun a =>
    Sh i149 b a.2.1 a.2.2.1 a.2.2.2.1 a.2.2.2.2.1 a.2.2.2.2.2 a.1.Kind a.1.N a.1.Name a.1.Kids
  else
    Sh i149 b c i198 d e i201 0 0 [] []
def aq (fu:Nat) (i149:Int) (b:List ya) (i177:Int) (i178:Int) (i179:Int) (i180:Int) (c:List UInt8) (d:Bool):Option (Eb×List ya×Int×Int×Int×Int):=
  if d=true then
    (Bf b i177 i178 i179 i180 [61]).bind fun a =>
    Zp fu i149 c a.1 a.2.1 a.2.2.1 a.2.2.2.1 a.2.2.2.2
  else
    Zp fu i149 c b i177 i178 i179 i180
def bq (fu:Nat) (i149:Int) (a:List ya) (i177:Int) (i178:Int) (i179:Int) (i180:Int) (b:List UInt8):Option (Eb×List ya×Int×Int×Int×Int):=
  if i149=1 then
    aq fu i149 a i177 i178 i179 i180 b true
  else
    aq fu i149 a i177 i178 i179 i180 b (decide (i149=2))
def Uo (fu:Nat) (a:Bool×List ya×Int×Int×Int×Int) (c:List ya) (i149:Int) (d:Bool):Option (Eb×List ya×Int×Int×Int×Int):=
  if d=true then
    (Rg c a.2.2.1 a.2.2.2.1 a.2.2.2.2.1 a.2.2.2.2.2).bind fun b =>
    bq fu i149 b.2.1 b.2.2.1 b.2.2.2.1 b.2.2.2.2.1 b.2.2.2.2.2 b.1
  else
    bq fu i149 c a.2.2.1 a.2.2.2.1 a.2.2.2.2.1 a.2.2.2.2.2 []
def Lm (fu:Nat) (a:Bool×List ya×Int×Int×Int×Int) (b:List ya) (i149:Int):Option (Eb×List ya×Int×Int×Int×Int):=
  if i149=1 then
    Uo fu a b i149 true
  else
    if i149=2 then
      Uo fu a b i149 true
    else
      Uo fu a b i149 (decide (i149=7))
def Dj (fu:Nat) (a:Bool×List ya×Int×Int×Int×Int) (b:Bool):Option (Eb×List ya×Int×Int×Int×Int):=
  if b=true then
    (at_ a.2.1 0).bind fun c =>
    (cut a.2.1 1 a.2.1.length).bind fun d =>
    Lm fu a d ((Ef (ed (ed (ed (ed (ed (ed ([]:List (List UInt8×Int)) [108,101,116] 1) [114,101,116,117,114,110] 5) [115,116,111,112] 6) [115,101,110,100] 7) [111,117,116] 8) [100,111] 9) c.Text).getD 0)
  else
    Lm fu a a.2.1 2
def Oi (fu:Nat) (self:Nk) (i:List ya) (j:Int) (k:Int) (l:Int) (m:Int):Option (Eb×List ya×Int×Int×Int×Int):=
  (gf i j k l m [105,102]).bind fun b =>
  if b.1=true then
    ((qd fu).uf b.2.1 b.2.2.1 b.2.2.2.1 b.2.2.2.2.1 b.2.2.2.2.2).bind fun e =>
    (self.Sg e.2.1 e.2.2.1 e.2.2.2.1 e.2.2.2.2.1 e.2.2.2.2.2).bind fun f =>
    (gf f.2.1 f.2.2.1 f.2.2.2.1 f.2.2.2.2.1 f.2.2.2.2.2 [101,108,115,101]).bind fun c =>
    if c.1=true then
      (self.Sg c.2.1 c.2.2.1 c.2.2.2.1 c.2.2.2.2.1 c.2.2.2.2.2).bind fun g =>
      Dn e f g.2.1 g.2.2.1 g.2.2.2.1 g.2.2.2.2.1 g.2.2.2.2.2 g.1
    else
      Dn e f c.2.1 c.2.2.1 c.2.2.2.1 c.2.2.2.2.1 c.2.2.2.2.2 []
  else
    (gf b.2.1 b.2.2.1 b.2.2.2.1 b.2.2.2.2.1 b.2.2.2.2.2 [119,104,105,108,101]).bind fun a =>
    if a.1=true then
      ((qd fu).uf a.2.1 a.2.2.1 a.2.2.2.1 a.2.2.2.2.1 a.2.2.2.2.2).bind fun d =>
      (self.Sg d.2.1 d.2.2.1 d.2.2.2.1 d.2.2.2.2.1 d.2.2.2.2.2).bind fun h =>
      some ((Eb.mk 4 [] (ab.mk d.1.Kind d.1.N d.1.Name d.1.Kids) h.1 ([]:List Eb)),h.2.1,h.2.2.1,h.2.2.2.1,h.2.2.2.2.1,h.2.2.2.2.2)
    else
      (pg a.2.1 a.2.2.1 a.2.2.2.1 a.2.2.2.2.1 a.2.2.2.2.2).bind fun n =>
      if n=true then
        if (0:Int)<(a.2.1.length:Int) then
          (at_ a.2.1 0).bind fun o =>
          Dj fu a (decide ((0:Int)<((Ef (ed (ed (ed (ed (ed (ed ([]:List (List UInt8×Int)) [108,101,116] 1) [114,101,116,117,114,110] 5) [115,116,111,112] 6) [115,101,110,100] 7) [111,117,116] 8) [100,111] 9) o.Text).getD 0)))
        else
          Dj fu a false
      else
        Dj fu a false
def Tg:Nat→Nk
  | 0=>⟨fun _ _ _ _ _=>none,fun _ _ _ _ _=>none⟩
  | n+1=>⟨Sg n (Tg n),Oi n (Tg n)⟩
def Hn (c:List UInt8×List ya×Int×Int×Int×Int) (b:fe×List ya×Int×Int×Int×Int) (d:Int×List ya×Int×Int×Int×Int) (e:List ya) (i58:Int) (i59:Int) (i60:Int) (i61:Int):Option (dc×List ya×Int×Int×Int×Int):=
  (Bf e i58 i59 i60 i61 [59]).bind fun a =>
  some ((dc.mk 1 c.1 (fe.mk b.1.Kind b.1.Jc) (fe.mk 0 []) d.1 ([]:List TParam) ([]:List Eb)),a.1,a.2.1,a.2.2.1,a.2.2.2.1,a.2.2.2.2)
def Mm (c:List UInt8×List ya×Int×Int×Int×Int) (d:fe×List ya×Int×Int×Int×Int) (e:Int) (a:Int×List ya×Int×Int×Int×Int) (f:Bool):Option (dc×List ya×Int×Int×Int×Int):=
  if f=true then
    (wh a.2.1 a.2.2.1 a.2.2.2.1 a.2.2.2.2.1 a.2.2.2.2.2 3 e).bind fun b =>
    Hn c d a b.1 b.2.1 b.2.2.1 b.2.2.2.1 b.2.2.2.2
  else
    Hn c d a a.2.1 a.2.2.1 a.2.2.2.1 a.2.2.2.2.1 a.2.2.2.2.2
def lk (fu:Nat) (b:List ya) (i87:Int) (i88:Int) (i89:Int) (i90:Int) (i91:Int) (c:List UInt8) (i93:Int) (d:List UInt8) (i95:Int) (e:List UInt8) (f:List TParam):Option (dc×List ya×Int×Int×Int×Int):=
  ((Tg fu).Sg b i87 i88 i89 i90).bind fun a =>
  some ((dc.mk i91 c (fe.mk i93 d) (fe.mk i95 e) 0 f a.1),a.2.1,a.2.2.1,a.2.2.2.1,a.2.2.2.2.1,a.2.2.2.2.2)
def Wn (fu:Nat)  (s:List ya) (t:Int) (u:Int) (v:Int) (w:Int):Option (dc×List ya×Int×Int×Int×Int):=
  (gf s t u v w [98,111,120]).bind fun b =>
  if b.1=true then
    (Rg b.2.1 b.2.2.1 b.2.2.2.1 b.2.2.2.2.1 b.2.2.2.2.2).bind fun e =>
    (Ik e.2.1 e.2.2.1 e.2.2.2.1 e.2.2.2.2.1 e.2.2.2.2.2).bind fun a =>
    (zi a.2.1 a.2.2.1 a.2.2.2.1 a.2.2.2.2.1 a.2.2.2.2.2).bind fun r =>
    (Tl a.2.1 a.2.2.1 a.2.2.2.1 a.2.2.2.2.1 a.2.2.2.2.2).bind fun q =>
    if q.1<1 then
      Mm e a r q true
    else
      Mm e a r q (decide ((20:Int)<q.1))
  else
    (gf b.2.1 b.2.2.1 b.2.2.2.1 b.2.2.2.2.1 b.2.2.2.2.2 [102,110]).bind fun c =>
    if c.1=true then
      (Rg c.2.1 c.2.2.1 c.2.2.2.1 c.2.2.2.2.1 c.2.2.2.2.2).bind fun i =>
      (Jl fu i.2.1 i.2.2.1 i.2.2.2.1 i.2.2.2.2.1 i.2.2.2.2.2).bind fun j =>
      (Ik j.2.1 j.2.2.1 j.2.2.2.1 j.2.2.2.2.1 j.2.2.2.2.2).bind fun f =>
      lk fu f.2.1 f.2.2.1 f.2.2.2.1 f.2.2.2.2.1 f.2.2.2.2.2 2 i.1 f.1.Kind f.1.Jc 0 [] j.1
    else
      (gf c.2.1 c.2.2.1 c.2.2.2.1 c.2.2.2.2.1 c.2.2.2.2.2 [103,101,110]).bind fun d =>
      if d.1=true then
        (Rg d.2.1 d.2.2.1 d.2.2.2.1 d.2.2.2.2.1 d.2.2.2.2.2).bind fun k =>
        (Jl fu k.2.1 k.2.2.1 k.2.2.2.1 k.2.2.2.2.1 k.2.2.2.2.2).bind fun l =>
        (Bf l.2.1 l.2.2.1 l.2.2.2.1 l.2.2.2.2.1 l.2.2.2.2.2 [116,97,107,101,115]).bind fun n =>
        (Ik n.1 n.2.1 n.2.2.1 n.2.2.2.1 n.2.2.2.2).bind fun g =>
        (Bf g.2.1 g.2.2.1 g.2.2.2.1 g.2.2.2.2.1 g.2.2.2.2.2 [121,105,101,108,100,115]).bind fun o =>
        (Ik o.1 o.2.1 o.2.2.1 o.2.2.2.1 o.2.2.2.2).bind fun h =>
        lk fu h.2.1 h.2.2.1 h.2.2.2.1 h.2.2.2.2.1 h.2.2.2.2.2 3 k.1 h.1.Kind h.1.Jc g.1.Kind g.1.Jc l.1
      else
        (Bf d.2.1 d.2.2.1 d.2.2.2.1 d.2.2.2.2.1 d.2.2.2.2.2 [116,97,115,107]).bind fun p =>
        (Rg p.1 p.2.1 p.2.2.1 p.2.2.2.1 p.2.2.2.2).bind fun m =>
        lk fu m.2.1 m.2.2.1 m.2.2.2.1 m.2.2.2.2.1 m.2.2.2.2.2 4 m.1 0 [] 0 [] []
def Vo (fu:Nat) (b:List dc) (c:(List ya)→Int→Int→Int→Int→(List dc)→Option (List dc×xb)) (d:List ya) (i127:Int) (i128:Int) (i129:Int) (i130:Int):Option (List dc×xb):=
  (Wn fu d i127 i128 i129 i130).bind fun a =>
  (app b [a.1]).bind fun e =>
  c a.2.1 a.2.2.1 a.2.2.2.1 a.2.2.2.2.1 a.2.2.2.2.2 e
def Wo (a:List dc) (b:List ya) (i169:Int) (i170:Int) (i171:Int) (i172:Int):Option (List dc×xb):=
  (pg b i169 i170 i171 i172).bind fun c =>
  if c=true then
    some (a,(xb.mk 0 0))
  else
    some (([]:List dc),(xb.mk i171 i172))
def Xo (fu:Nat) (a:List ya) (i63:Int) (i65:Int) (i66:Int) (i67:Int) (b:List dc) (e:(List ya)→Int→Int→Int→Int→(List dc)→Option (List dc×xb)) (f:Bool):Option (List dc×xb):=
  if f=true then
    if (b.length:Int)=30 then
      (zi a i63 i65 i66 i67).bind fun g =>
      (wh a i63 i65 i66 i67 5 g).bind fun c =>
      Vo fu b e c.1 c.2.1 c.2.2.1 c.2.2.2.1 c.2.2.2.2
    else
      Vo fu b e a i63 i65 i66 i67
  else
    (pg a i63 i65 i66 i67).bind fun h =>
    if h=true then
      (gq fu b).bind fun i =>
      (wh a i63 i65 i66 i67 i.oe 0).bind fun d =>
      Wo b d.1 d.2.1 d.2.2.1 d.2.2.2.1 d.2.2.2.2
    else
      Wo b a i63 i65 i66 i67
def hk (fu:Nat):Nat→(List ya)→Int→Int→Int→Int→(List dc)→Option (List dc×xb)
  | 0,_,_,_,_,_,_=>none
  | n+1,a,i63,i65,i66,i67,b =>
    (pg a i63 i65 i66 i67).bind fun c =>
    if c=true then
      Xo fu a i63 i65 i66 i67 b (hk fu n) (decide ((0:Int)<(a.length:Int)))
    else
      Xo fu a i63 i65 i66 i67 b (hk fu n) false
def tq (fu:Nat)  (b:List UInt8):Option (List dc×xb):=
  (Xp fu b).bind fun a =>
  if a.2.oe≠0 then
    some (([]:List dc),a.2)
  else
    hk fu fu a.1 (b.length:Int) 0 0 0 []
end Go.Y
namespace Go.Y
open Go.cc Go.Kc
def hq (fu:Nat)  (c:List UInt8):Option Bool :=
  (jk fu c).bind fun a =>
  (tq fu c).bind fun b =>
  if (ch [(decide (a.2.oe=b.2.oe)),(decide (a.2.Td=b.2.Td))])=true then
    (Rm fu a.1 b.1).bind fun d =>
    some d
  else
    some false
end Go.Y
