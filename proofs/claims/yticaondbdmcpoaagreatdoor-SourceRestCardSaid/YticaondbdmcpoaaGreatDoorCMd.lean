/- Texts of Md. -/
import Derived.Test.YticaondbdmcpoaaGreatDoorCXu
set_option linter.unusedSimpArgs false
set_option linter.unusedVariables false
set_option linter.unusedSectionVars false
namespace Go.Y
open Go.hc Go.Mc
structure Va where
  Kind:Int
  N:Int
  Name:List UInt8
  Kids:List Va
  deriving Inhabited,Repr
structure gb where
  Kind:Int
  Name:List UInt8
  X:Va
  Body:List gb
  Ff:List gb
  deriving Inhabited,Repr
def rm {α:Type}(sz:Nat) (μ:M) (a:Option Addr) (c:Nat) (xs:List α) (g:Nat→List Value):Prop :=
  xs.length≤c∧c≤maxLen∧(xs=[]∨∃ b o,a=some ⟨b,o,none⟩∧∀ (i:Nat) (y:α),xs[i]?=some y→Ba μ b (o+i*sz) (g i))
inductive fp (μ:M):List Value→Va→Prop where
  | mk (x:Va) (a:Option Addr) (c:Nat) (g:Nat→List Value) (h:rm 4 μ a c x.Kids g) (k:∀ (i:Nat) (y:Va),x.Kids[i]?=some y→fp μ (g i) y) :
    fp μ [.int .i64 x.Kind,.int .i64 x.N,S x.Name,.slice a x.Kids.length c] x
theorem rm.Vt {α:Type}{sz:Nat}{μ:M}{a:Option Addr}{c:Nat}{xs:List α}{g:Nat→List Value}{R:List Value→α→Prop}(h:rm sz μ a c xs g) (k:∀ (i:Nat) (y:α),xs[i]?=some y→R (g i) y):qd sz R μ a c xs:=by
  refine ⟨h.1,h.2.1,?_⟩;rcases h.2.2 with h | ⟨b,o,e,f⟩
  · exact .inl h
  · exact .inr ⟨b,o,e,g,fun i x d=>⟨f i x d,k i x d⟩⟩
theorem rm.of {α:Type}{sz:Nat}{μ:M}{a:Option Addr}{c:Nat}{xs:List α}{R:List Value→α→Prop}(h:qd sz R μ a c xs):∃ g,rm sz μ a c xs g∧∀ (i:Nat) (y:α),xs[i]?=some y→R (g i) y:=by
  rcases h.el with e | ⟨b,o,j,g,f⟩
  · exact ⟨fun _=>[],⟨h.le,h.cap,.inl e⟩,fun i y d=>by simp [e] at d⟩
  · exact ⟨g,⟨h.le,h.cap,.inr ⟨b,o,j,fun i y d=>(f i y d).1⟩⟩,fun i y d=>(f i y d).2⟩
theorem rm.up {α:Type}{sz:Nat}{μ J:M}{a:Option Addr}{c:Nat}{xs:List α}{g:Nat→List Value}(h:rm sz μ a c xs g) (l:ha μ J):rm sz J a c xs g:=by
  refine ⟨h.1,h.2.1,?_⟩;rcases h.2.2 with h | ⟨b,o,d,e⟩
  · exact .inl h
  · exact .inr ⟨b,o,d,fun i y f=>(e i y f).up l⟩
theorem fp.up {μ J:M}(l:ha μ J){cs:List Value}{x:Va}(h:fp μ cs x):fp J cs x:=by
  induction h with
  | mk x a c g h k b=>exact .mk x a c g (h.up l) b
instance:mb Va where
  sz:=4
  pos:=by decide
  cs:=fp
  Gi h:=by cases h;rfl
  up l h:=fp.up l h
  Fh h:=by cases h;rfl
theorem Va.o {μ:M}{l:List Value}{x:Va}(h:mb.cs μ l x):∃ a c,l=[.int .i64 x.Kind,.int .i64 x.N,S x.Name,.slice a x.Kids.length c]∧Na μ a c x.Kids:=by
  have b:fp μ l x:=h;cases b with
  | mk _ a c g d k1=>exact ⟨a,c,rfl,d.Vt k1⟩
theorem Va.i {μ:M}{l:List Value}{x:Va}(h:∃ a c,l=[.int .i64 x.Kind,.int .i64 x.N,S x.Name,.slice a x.Kids.length c]∧Na μ a c x.Kids):mb.cs μ l x:=by
  obtain ⟨a,c,rfl,h⟩:=h;obtain ⟨g,h,k⟩:=rm.of h;exact fp.mk x a c g h k
inductive Xn (μ:M):List Value→gb→Prop where
  | mk (x:gb) (na:Option Addr) (bc:Nat) (a2:Option Addr) (c2:Nat) (a3:Option Addr) (c3:Nat) (g2 g3:Nat→List Value) (a:Na μ na bc x.X.Kids)
      (b:rm 8 μ a2 c2 x.Body g2) (c:∀ (i:Nat) (y:gb),x.Body[i]?=some y→Xn μ (g2 i) y)
      (d:rm 8 μ a3 c3 x.Ff g3) (e:∀ (i:Nat) (y:gb),x.Ff[i]?=some y→Xn μ (g3 i) y) :
    Xn μ [.int .i64 x.Kind,S x.Name,.int .i64 x.X.Kind,.int .i64 x.X.N,S x.X.Name,.slice na x.X.Kids.length bc,.slice a2 x.Body.length c2,.slice a3 x.Ff.length c3] x
theorem Xn.up {μ J:M}(l:ha μ J){cs:List Value}{x:gb}(h:Xn μ cs x):Xn J cs x:=by
  induction h with
  | mk x na bc a2 c2 a3 c3 g2 g3 a b f c g d e=>exact .mk x na bc a2 c2 a3 c3 g2 g3 (a.up l) (b.up l) d (c.up l) e
instance:mb gb where
  sz:=8
  pos:=by decide
  cs:=Xn
  Gi h:=by cases h;rfl
  up l h:=Xn.up l h
  Fh h:=by cases h;rfl
theorem gb.o {μ:M}{l:List Value}{x:gb}(h:mb.cs μ l x):∃ na bc a2 c2 a3 c3,l=[.int .i64 x.Kind,S x.Name,.int .i64 x.X.Kind,.int .i64 x.X.N,S x.X.Name,.slice na x.X.Kids.length bc,.slice a2 x.Body.length c2,.slice a3 x.Ff.length c3]∧Na μ na bc x.X.Kids∧Na μ a2 c2 x.Body∧Na μ a3 c3 x.Ff:=by
  have a:Xn μ l x:=h;cases a with
  | mk _ na bc a2 c2 a3 c3 g2 g3 b c d e f=>exact ⟨na,bc,a2,c2,a3,c3,rfl,b,c.Vt d,e.Vt f⟩
theorem gb.i {μ:M}{l:List Value}{x:gb}(h:∃ na bc a2 c2 a3 c3,l=[.int .i64 x.Kind,S x.Name,.int .i64 x.X.Kind,.int .i64 x.X.N,S x.X.Name,.slice na x.X.Kids.length bc,.slice a2 x.Body.length c2,.slice a3 x.Ff.length c3]∧Na μ na bc x.X.Kids∧Na μ a2 c2 x.Body∧Na μ a3 c3 x.Ff):mb.cs μ l x:=by
  obtain ⟨na,bc,a2,c2,a3,c3,rfl,c,a,b⟩:=h;obtain ⟨g2,a,d⟩:=rm.of a;obtain ⟨g3,b,e⟩:=rm.of b;exact Xn.mk x na bc a2 c2 a3 c3 g2 g3 c a d b e
structure Cc where
  Kind:Int
  Text:List UInt8
  GD:Int
  Ba:Int
  deriving DecidableEq,Inhabited,Repr
instance:mb Cc where
  sz:=4
  pos:=by decide
  cs μ l x:=l=[.int .i64 x.Kind,S x.Text,.int .i64 x.GD,.int .i64 x.Ba]
  Gi h:=by obtain rfl:=h;rfl
  up le h:=by exact h
  Fh h:=by obtain rfl:=h;rfl
structure Fe where
  tg:Int
  Ba:Int
  deriving DecidableEq,Inhabited,Repr
structure Ya where
  Kind:Int
  Gc:List UInt8
  deriving DecidableEq,Inhabited,Repr
instance:mb Ya where
  sz:=2
  pos:=by decide
  cs μ l x:=l=[.int .i64 x.Kind,S x.Gc]
  Gi h:=by obtain rfl:=h;rfl
  up le h:=by exact h
  Fh h:=by obtain rfl:=h;rfl
structure TParam where
  Name:List UInt8
  ic:Ya
  deriving DecidableEq,Inhabited,Repr
instance:mb TParam where
  sz:=3
  pos:=by decide
  cs μ l x:=l=[S x.Name,.int .i64 x.ic.Kind,S x.ic.Gc]
  Gi h:=by obtain rfl:=h;rfl
  up le h:=by exact h
  Fh h:=by obtain rfl:=h;rfl
structure va where
  Kind:Int
  Name:List UInt8
  ic:Ya
  se:Ya
  gf:Int
  Params:List TParam
  Body:List gb
  deriving Inhabited,Repr
instance:mb va where
  sz:=9
  pos:=by decide
  cs μ l x:=∃ na bc a2 c2,l=[.int .i64 x.Kind,S x.Name,.int .i64 x.ic.Kind,S x.ic.Gc,.int .i64 x.se.Kind,S x.se.Gc,.int .i64 x.gf,.slice na x.Params.length bc,.slice a2 x.Body.length c2]∧Na μ na bc x.Params∧Na μ a2 c2 x.Body
  Gi h:=by obtain ⟨na,bc,a2,c2,rfl,m1,m2⟩:=h;rfl
  up le h:=by obtain ⟨na,bc,a2,c2,rfl,m1,m2⟩:=h;exact ⟨na,bc,a2,c2,rfl,m1.up le,m2.up le⟩
  Fh h:=by obtain ⟨na,bc,a2,c2,rfl,m1,m2⟩:=h;rfl
theorem va.i {μ:M}{l:List Value}{x:va}(h:∃ na bc a2 c2,l=[.int .i64 x.Kind,S x.Name,.int .i64 x.ic.Kind,S x.ic.Gc,.int .i64 x.se.Kind,S x.se.Gc,.int .i64 x.gf,.slice na x.Params.length bc,.slice a2 x.Body.length c2]∧Na μ na bc x.Params∧Na μ a2 c2 x.Body):mb.cs μ l x:=h
structure Ah where
  yo:List UInt8
  Writer:List UInt8
  Reader:List UInt8
  deriving DecidableEq,Inhabited,Repr
instance:mb Ah where
  sz:=3
  pos:=by decide
  cs μ l x:=l=[S x.yo,S x.Writer,S x.Reader]
  Gi h:=by obtain rfl:=h;rfl
  up le h:=by exact h
  Fh h:=by obtain rfl:=h;rfl
instance:xh Ya:=⟨Ds,Ds.up⟩
instance:xh va:=⟨Ke,Ke.up⟩
structure yb where
  defs:List va
  named:List (List UInt8×va)
  deriving Inhabited,Repr
structure kf where
  calls:List (List UInt8)
  Qj:List (List UInt8)
  uj:List (List UInt8)
  deriving DecidableEq,Inhabited,Repr
instance:mb kf where
  sz:=3
  pos:=by decide
  cs μ l x:=∃ na bc a2 c2 a3 c3,l=[.slice na x.calls.length bc,.slice a2 x.Qj.length c2,.slice a3 x.uj.length c3]∧Na μ na bc x.calls∧Na μ a2 c2 x.Qj∧Na μ a3 c3 x.uj
  Gi h:=by obtain ⟨na,bc,a2,c2,a3,c3,rfl,m1,m2,m3⟩:=h;rfl
  up le h:=by obtain ⟨na,bc,a2,c2,a3,c3,rfl,m1,m2,m3⟩:=h;exact ⟨na,bc,a2,c2,a3,c3,rfl,m1.up le,m2.up le,m3.up le⟩
  Fh h:=by obtain ⟨na,bc,a2,c2,a3,c3,rfl,m1,m2,m3⟩:=h;rfl
theorem kf.i {μ:M}{l:List Value}{x:kf}(h:∃ na bc a2 c2 a3 c3,l=[.slice na x.calls.length bc,.slice a2 x.Qj.length c2,.slice a3 x.uj.length c3]∧Na μ na bc x.calls∧Na μ a2 c2 x.Qj∧Na μ a3 c3 x.uj):mb.cs μ l x:=h
structure Gh where
  Dt:List (List UInt8×Int)
  once:Bool
  deriving DecidableEq,Inhabited,Repr
instance:mb Gh where
  sz:=2
  pos:=by decide
  cs μ l x:=∃ za,l=[.map (some za),.bool x.once]∧lh μ za x.Dt
  Gi h:=by obtain ⟨za,rfl,m1⟩:=h;rfl
  up le h:=by obtain ⟨za,rfl,m1⟩:=h;exact ⟨za,rfl,m1.up le⟩
  Fh h:=by obtain ⟨za,rfl,m1⟩:=h;rfl
theorem Gh.i {μ:M}{l:List Value}{x:Gh}(h:∃ za,l=[.map (some za),.bool x.once]∧lh μ za x.Dt):mb.cs μ l x:=h
instance:xh kf:=⟨Ds,Ds.up⟩
end Go.Y
namespace Go.Y
open Go.hc Go.Mc
def HK:List UInt8:=[32,98,111,120,32,102,110,32,103,101,110,32,116,97,115,107,32,116,97,107,101,115,32,121,105,101,108,100,115,32,108,101,116,32,105,102,32,101,108,115,101,32,119,104,105,108,101,32,114,101,116,117,114,110,32,115,116,111,112,32,115,101,110,100,32,111,117,116,32,100,111,32,114,101,99,118,32,121,105,101,108,100,32,115,116,97,114,116,32,114,101,115,117,109,101,32,97,108,105,118,101,32,110,117,109,32,98,111,111,108,32,116,114,117,101,32,102,97,108,115,101,32,97,110,100,32,111,114,32,110,111,116,32]
def pq  (p_1:UInt8):Option Bool :=
  if (97:Int)≤(p_1.toNat:Int) then
    if (p_1.toNat:Int)≤122 then
      some true
    else
      some (decide ((p_1.toNat:Int)=95))
  else
    some (decide ((p_1.toNat:Int)=95))
def tq  (p_1:UInt8):Option Bool :=
  if (48:Int)≤(p_1.toNat:Int) then
    some (decide ((p_1.toNat:Int)≤57))
  else
    some false
def fq (i13:Int) (a:Int→Option Int) (b:Bool):Option Int :=
  if b=true then
    (i64 (i13+1)).bind fun i33 =>
    a i33
  else
    some i13
def Ul (p_1:List UInt8) (a:UInt8→Option Bool):Nat→Int→Option Int
  | 0,_=>none
  | n+1,i13 =>
    if i13<(p_1.length:Int) then
      (at_ p_1 i13).bind fun b =>
      (a b).bind fun c =>
      fq i13 (Ul p_1 a n) c
    else
      fq i13 (Ul p_1 a n) false
def Cr (fu:Nat)  (p_1:List UInt8) (a:UInt8→Option Bool):Option Int :=
  Ul p_1 a fu 0
def Vy  (p_1:UInt8):Option Bool :=
  (pq p_1).bind fun a =>
  if a=true then
    some true
  else
    (tq p_1).bind fun b =>
    some b
def Lq  (p_1:UInt8):Option Bool :=
  (pq p_1).bind fun a =>
  if a=true then
    some true
  else
    (tq p_1).bind fun b =>
    some b
def an (fu:Nat) (p_1:List UInt8) (za:Bool):Option Bool :=
  if za=true then
    some false
  else
    (Cr fu p_1 Lq).bind fun a =>
    some (decide (a=(p_1.length:Int)))
def Hh (fu:Nat)  (p_1:List UInt8):Option Bool :=
  if (p_1.length:Int)<1 then
    an fu p_1 true
  else
    if (12:Int)<(p_1.length:Int) then
      an fu p_1 true
    else
      (at_ p_1 0).bind fun a =>
      (pq a).bind fun b =>
      if b=true then
        (cat [32] p_1).bind fun c =>
        (cat c [32]).bind fun d =>
        (Ow HK d).bind fun e =>
        an fu p_1 e
      else
        an fu p_1 true
def Ay  (p_1:List UInt8) (a:List UInt8):Option Bool :=
  if (a.length:Int)≤(p_1.length:Int) then
    (cut p_1 0 (a.length:Int)).bind fun s2 =>
    some (decide (s2=a))
  else
    some false
def Wy  (p_1:List UInt8) (a:List UInt8):Option Bool :=
  (Ay p_1 a).bind fun b =>
  some b
def Ov (p_1:List UInt8):Nat→Int→Option (List UInt8)
  | 0,_=>none
  | n+1,i18 =>
    if i18<18 then
      (at_ [[61,61],[33,61],[60,61],[62,61],[60],[62],[61],[43],[45],[42],[47],[37],[40],[41],[123],[125],[44],[59]] i18).bind fun a =>
      (Wy p_1 a).bind fun b =>
      if b=true then
        some a
      else
        (i64 (i18+1)).bind fun i46 =>
        Ov p_1 n i46
    else
      none
def iy  (p_1:List UInt8):Option (List UInt8):=
  Ov p_1 19 0
def Hv (i6:Int) (a:UInt8) (b:Int→Option Int) (c:Bool):Option Int :=
  if c=true then
    (i64 (i6+1)).bind fun i21 =>
    b i21
  else
    if (a.toNat:Int)=35 then
      none
    else
      some i6
def Ws (p_1:List UInt8):Nat→Int→Option Int
  | 0,_=>none
  | n+1,i6 =>
    if i6<(p_1.length:Int) then
      (at_ p_1 i6).bind fun a =>
      if (a.toNat:Int)=32 then
        Hv i6 a (Ws p_1 n) (decide ((a.toNat:Int)=32))
      else
        if (a.toNat:Int)=9 then
          none
        else
          Hv i6 a (Ws p_1 n) (decide ((a.toNat:Int)=10))
    else
      some i6
def fw (fu:Nat)  (p_1:List UInt8):Option Int :=
  Ws p_1 fu 0
def eu (fu:Nat) (p_1:List UInt8) (i58:Int) (b:List Cc) (c:Int→(List Cc)→Option (List Cc×Fe)) (i118:Int) (a:List UInt8) (i120:Int):Option (List Cc×Fe):=
  (app b [(Cc.mk i118 a i120 i58)]).bind fun d =>
  (i64 (i58+(a.length:Int))).bind fun i154 =>
  (cut p_1 i154 p_1.length).bind fun e =>
  (fw fu e).bind fun f =>
  (i64 (i154+f)).bind fun i161 =>
  c i161 d
def sr (fu:Nat) (p_1:List UInt8):Nat→Int→(List Cc)→Option (List Cc×Fe)
  | 0,_,_=>none
  | n+1,i58,b =>
    if i58<(p_1.length:Int) then
      (cut p_1 i58 p_1.length).bind fun a =>
      (at_ a 0).bind fun d =>
      (pq d).bind fun f =>
      if f=true then
        (Cr fu a Vy).bind fun g =>
        (cut a 0 g).bind fun h =>
        eu fu p_1 i58 b (sr fu p_1 n) 1 h 0
      else
        (tq d).bind fun i =>
        if i=true then
          (Cr fu a tq).bind fun j =>
          (cut a 0 j).bind fun c =>
          if (15:Int)<(c.length:Int) then
            none
          else
            (qz c).bind fun i140 =>
            eu fu p_1 i58 b (sr fu p_1 n) 2 c i140
        else
          (iy a).bind fun e =>
          if e=[] then
            none
          else
            eu fu p_1 i58 b (sr fu p_1 n) 3 e 0
    else
      some (b,(Fe.mk 0 0))
def Ex (fu:Nat)  (p_1:List UInt8):Option (List Cc×Fe):=
  if (6000:Int)<(p_1.length:Int) then
    none
  else
    (fw fu p_1).bind fun a =>
    sr fu p_1 fu a []
end Go.Y
namespace Go.Y
open Go.hc Go.Mc
def Iv  (a:Bool):Option Int :=
  if a=true then
    some 2
  else
    some (-1)
def Xs (p_1:Int) (a:Bool):Option Int :=
  if a=true then
    some 1
  else
    if p_1≤18 then
      Iv true
    else
      Iv (decide (p_1=23))
def mu (p_1:Int) (za:Bool):Option Int :=
  if za=true then
    some 0
  else
    if p_1≤5 then
      Xs p_1 true
    else
      if p_1=21 then
        Xs p_1 true
      else
        Xs p_1 (decide (p_1=24))
def uu  (p_1:Int):Option Int :=
  if p_1≤3 then
    mu p_1 true
  else
    mu p_1 (decide (p_1=20))
def Jv (i3:Int) (a:Bool):Option (Int×Int):=
  if a=true then
    some (4,i3)
  else
    some (0,i3)
def Dr  (a:Int) (b:Int):Option (Int×Int):=
  (i64 (a+1)).bind fun i3 =>
  if (2000:Int)<i3 then
    Jv i3 true
  else
    Jv i3 (decide ((40:Int)<b))
def ou  (a:Bool):Option Int :=
  if a=true then
    some 7
  else
    some 0
def Br (fu:Nat) (p_1:Ya) (Ub:Bool):Option Int :=
  if Ub=true then
    some 1
  else
    if p_1.Kind=3 then
      (Hh fu p_1.Gc).bind fun a =>
      ou (!a)
    else
      ou false
def dp (fu:Nat)  (p_1:Ya):Option Int :=
  if p_1.Kind<1 then
    Br fu p_1 true
  else
    Br fu p_1 (decide ((3:Int)<p_1.Kind))
structure Bm where
  Ui:Int→Va→Int→Option (Int×Int)
def tk (self:Bm) (b:Va) (p_3:Int):Nat→Int→Int→Option (Int×Int)
  | 0,_,_=>none
  | n+1,i72,i73 =>
    if i72<(b.Kids.length:Int) then
      (at_ b.Kids i72).bind fun c =>
      (i64 (p_3+1)).bind fun i105 =>
      (self.Ui i73 c i105).bind fun a =>
      if a.1≠0 then
        some (a.1,a.2)
      else
        (i64 (i72+1)).bind fun i111 =>
        tk self b p_3 n i111 a.2
    else
      some (0,i73)
def To (self:Bm) (a:Va) (p_3:Int) (b:Int×Int) (c:Bool):Option (Int×Int):=
  if c=true then
    some (5,b.2)
  else
    tk self a p_3 (a.Kids.length+1) 0 b.2
def Uo (self:Bm) (a:Va) (p_3:Int) (b:Int×Int) (d:Int) (c:Bool):Option (Int×Int):=
  if c=true then
    To self a p_3 b c
  else
    if d<0 then
      To self a p_3 b (decide ((6:Int)<(a.Kids.length:Int)))
    else
      To self a p_3 b false
def dn (self:Bm) (b:Va) (p_3:Int) (c:Int×Int) (a:Int) (d:Bool):Option (Int×Int):=
  if d=true then
    some (7,c.2)
  else
    if (0:Int)≤a then
      Uo self b p_3 c a (decide ((b.Kids.length:Int)≠a))
    else
      Uo self b p_3 c a false
def Mn (fu:Nat) (self:Bm) (a:Va) (p_3:Int) (b:Int×Int) (c:Int) (d:Bool):Option (Int×Int):=
  if d=true then
    some (3,b.2)
  else
    if a.Kind=3 then
      (Hh fu a.Name).bind fun e =>
      dn self a p_3 b c (!e)
    else
      if a.Kind=20 then
        (Hh fu a.Name).bind fun f =>
        dn self a p_3 b c (!f)
      else
        if c<0 then
          (Hh fu a.Name).bind fun g =>
          dn self a p_3 b c (!g)
        else
          dn self a p_3 b c false
def Vo (fu:Nat) (self:Bm) (a:Va) (p_3:Int) (b:Int×Int) (c:Int) (d:Bool):Option (Int×Int):=
  if d=true then
    Mn fu self a p_3 b c d
  else
    if a.Kind=2 then
      if a.N≠0 then
        Mn fu self a p_3 b c (decide (a.N≠1))
      else
        Mn fu self a p_3 b c false
    else
      Mn fu self a p_3 b c false
def ym (fu:Nat) (self:Bm) (a:Va) (p_3:Int) (b:Int×Int) (d:Bool):Option (Int×Int):=
  if d=true then
    some (1,b.2)
  else
    (uu a.Kind).bind fun c =>
    if a.Kind=1 then
      if a.N<0 then
        Vo fu self a p_3 b c true
      else
        Vo fu self a p_3 b c (decide ((999999999999999:Int)<a.N))
    else
      Vo fu self a p_3 b c false
def Ui (fu:Nat) (self:Bm) (c:Int) (b:Va) (p_3:Int):Option (Int×Int):=
  (Dr c p_3).bind fun a =>
  if a.1≠0 then
    some (a.1,a.2)
  else
    if b.Kind<1 then
      ym fu self b p_3 a true
    else
      ym fu self b p_3 a (decide ((24:Int)<b.Kind))
def Ti:Nat→Bm
  | 0=>⟨fun _ _ _=>none⟩
  | n+1=>⟨Ui n (Ti n)⟩
structure Cm where
  Xg:Int→(List gb)→Int→Option (Int×Int)
  ak:Int→gb→Int→Option (Int×Int)
def Tp (self:Cm) (b:List gb) (p_3:Int):Nat→Int→Int→Option (Int×Int)
  | 0,_,_=>none
  | n+1,i29,i30 =>
    if i29<(b.length:Int) then
      (at_ b i29).bind fun c =>
      (self.ak i30 c p_3).bind fun a =>
      if a.1≠0 then
        some (a.1,a.2)
      else
        (i64 (i29+1)).bind fun i76 =>
        Tp self b p_3 n i76 a.2
    else
      some (0,i30)
def Xg (self:Cm) (b:Int) (a:List gb) (p_3:Int):Option (Int×Int):=
  if (50:Int)<(a.length:Int) then
    some (5,b)
  else
    Tp self a p_3 (a.length+1) 0 b
def gq (self:Cm) (a:gb) (p_3:Int) (i48:Int):Option (Int×Int):=
  if a.Kind=3 then
    (i64 (p_3+1)).bind fun i58 =>
    (self.Xg i48 a.Ff i58).bind fun b =>
    some (b.1,b.2)
  else
    some (0,i48)
def hq (self:Cm) (b:gb) (p_3:Int) (c:Int×Int) (d:Bool):Option (Int×Int):=
  if d=true then
    (i64 (p_3+1)).bind fun i50 =>
    (self.Xg c.2 b.Body i50).bind fun a =>
    if a.1≠0 then
      some (a.1,a.2)
    else
      gq self b p_3 a.2
  else
    gq self b p_3 c.2
def en (fu:Nat) (self:Cm) (a:gb) (p_3:Int) (c:Int×Int) (d:Bool):Option (Int×Int):=
  if d=true then
    some (7,c.2)
  else
    if a.Kind=6 then
      some (0,c.2)
    else
      (i64 (p_3+1)).bind fun i39 =>
      ((Ti fu).Ui c.2 a.X i39).bind fun b =>
      if b.1≠0 then
        some (b.1,b.2)
      else
        if a.Kind=3 then
          hq self a p_3 b true
        else
          hq self a p_3 b (decide (a.Kind=4))
def Nn (fu:Nat) (self:Cm) (a:gb) (p_3:Int) (b:Int×Int) (c:Bool):Option (Int×Int):=
  if c=true then
    some (1,b.2)
  else
    if a.Kind=1 then
      (Hh fu a.Name).bind fun d =>
      en fu self a p_3 b (!d)
    else
      if a.Kind=2 then
        (Hh fu a.Name).bind fun e =>
        en fu self a p_3 b (!e)
      else
        if a.Kind=7 then
          (Hh fu a.Name).bind fun f =>
          en fu self a p_3 b (!f)
        else
          en fu self a p_3 b false
def ak (fu:Nat) (self:Cm) (c:Int) (b:gb) (p_3:Int):Option (Int×Int):=
  (Dr c p_3).bind fun a =>
  if a.1≠0 then
    some (a.1,a.2)
  else
    if b.Kind<1 then
      Nn fu self b p_3 a true
    else
      Nn fu self b p_3 a (decide ((9:Int)<b.Kind))
def Ji:Nat→Cm
  | 0=>⟨fun _ _ _=>none,fun _ _ _=>none⟩
  | n+1=>⟨Xg (Ji n),ak n (Ji n)⟩
def ct (rf:Int×Int) (a:Bool):Option (Int×Int):=
  if a=true then
    some (3,rf.2)
  else
    some (0,rf.2)
def jq (fu:Nat) (a:va) (rf:Int×Int):Option (Int×Int):=
  if a.Kind≠1 then
    ((Ji fu).Xg rf.2 a.Body 2).bind fun b =>
    some (b.1,b.2)
  else
    if a.gf<1 then
      ct rf true
    else
      ct rf (decide ((20:Int)<a.gf))
def kq (fu:Nat) (a:va) (rf:Int×Int):Option (Int×Int):=
  if a.Kind≠4 then
    (dp fu a.ic).bind fun b =>
    if b≠0 then
      some (b,rf.2)
    else
      jq fu a rf
  else
    jq fu a rf
def Pn (fu:Nat) (a:va) (rf:Int×Int):Option (Int×Int):=
  if a.Kind=3 then
    (dp fu a.se).bind fun b =>
    if b≠0 then
      some (b,rf.2)
    else
      kq fu a rf
  else
    kq fu a rf
def lq (fu:Nat) (a:va) (rf:Int×Int):Nat→Int→Option (Int×Int)
  | 0,_=>none
  | n+1,i47 =>
    if i47<(a.Params.length:Int) then
      (at_ a.Params i47).bind fun b =>
      (Hh fu b.Name).bind fun d =>
      if d=true then
        (dp fu b.ic).bind fun c =>
        if c≠0 then
          some (c,rf.2)
        else
          (i64 (i47+1)).bind fun i87 =>
          lq fu a rf n i87
      else
        some (7,rf.2)
    else
      Pn fu a rf
def mq (fu:Nat) (a:va) (rf:Int×Int) (b:Bool):Option (Int×Int):=
  if b=true then
    if (6:Int)<(a.Params.length:Int) then
      some (5,rf.2)
    else
      lq fu a rf (a.Params.length+1) 0
  else
    Pn fu a rf
def Qn (fu:Nat) (a:va) (rf:Int×Int) (b:Bool):Option (Int×Int):=
  if b=true then
    some (1,rf.2)
  else
    (Hh fu a.Name).bind fun c =>
    if c=true then
      if a.Kind=2 then
        mq fu a rf true
      else
        mq fu a rf (decide (a.Kind=3))
    else
      some (7,rf.2)
def Ir (fu:Nat)  (b:Int) (a:va):Option (Int×Int):=
  (Dr b 1).bind fun rf =>
  if rf.1≠0 then
    some (rf.1,rf.2)
  else
    if a.Kind<1 then
      Qn fu a rf true
    else
      Qn fu a rf (decide ((4:Int)<a.Kind))
def Up (fu:Nat) (p_1:List va):Nat→Int→Int→Option Fe
  | 0,_,_=>none
  | n+1,i28,i29 =>
    if i28<(p_1.length:Int) then
      (at_ p_1 i28).bind fun b =>
      (Ir fu i29 b).bind fun a =>
      if a.1≠0 then
        some (Fe.mk a.1 i28)
      else
        (i64 (i28+1)).bind fun i69 =>
        Up fu p_1 n i69 a.2
    else
      some (Fe.mk 0 0)
def qq (fu:Nat)  (p_1:List va):Option Fe :=
  if (30:Int)<(p_1.length:Int) then
    some (Fe.mk 5 0)
  else
    Up fu p_1 (p_1.length+1) 0 0
end Go.Y
namespace Go.Y
open Go.hc Go.Mc
def Xw  (a:List Cc) (c:Int) (d:Int):Option Int :=
  if (a.length:Int)=0 then
    none
  else
    (at_ a 0).bind fun b =>
    some b.Ba
def gp  (a:List Cc) (d:Int) (e:Int) (b:List UInt8):Option Bool :=
  if (0:Int)<(a.length:Int) then
    (at_ a 0).bind fun c =>
    some (decide (c.Text=b))
  else
    none
def gh  (a:List Cc) (b:Int) (c:Int) (d:List UInt8):Option (Bool×List Cc×Int×Int):=
  (gp a b c d).bind fun e =>
  if e=true then
    (cut a 1 a.length).bind fun f =>
    some (true,f,b,c)
  else
    some (false,a,b,c)
def Vv (b:List (List UInt8)):Nat→Int→(List Cc)→Int→Int→Option (List Cc×Int×Int)
  | 0,_,_,_,_=>none
  | n+1,i30,c,i35,i36 =>
    if i30<(b.length:Int) then
      (at_ b i30).bind fun d =>
      (gh c i35 i36 d).bind fun a =>
      if a.1=true then
        (i64 (i30+1)).bind fun i71 =>
        Vv b n i71 a.2.1 a.2.2.1 a.2.2.2
      else
        none
    else
      some (c,i35,i36)
def Pr  (b:List Cc) (c:Int) (d:Int) (a:List (List UInt8)):Option (List Cc×Int×Int):=
  Vv a (a.length+1) 0 b c d
def vt (fu:Nat)  (a:List Cc) (c:Int) (d:Int):Option (List UInt8×List Cc×Int×Int):=
  if (a.length:Int)=0 then
    none
  else
    (at_ a 0).bind fun e =>
    if e.Kind≠1 then
      none
    else
      (at_ a 0).bind fun b =>
      (Hh fu b.Text).bind fun f =>
      if f=true then
        (cut a 1 a.length).bind fun g =>
        some (b.Text,g,c,d)
      else
        none
def gw  (a:List Cc) (b:Int) (c:Int):Option (Int×List Cc×Int×Int):=
  if (a.length:Int)=0 then
    none
  else
    (at_ a 0).bind fun d =>
    if d.Kind≠2 then
      none
    else
      (at_ a 0).bind fun e =>
      (cut a 1 a.length).bind fun f =>
      some (e.GD,f,b,c)
def Xy  (b:List Cc) (c:Int) (d:Int):Option (Ya×List Cc×Int×Int):=
  (gh b c d [110,117,109]).bind fun a =>
  if a.1=true then
    some ((Ya.mk 1 []),a.2.1,a.2.2.1,a.2.2.2)
  else
    none
def Ux  :Option (List Gh):=
  some [(Gh.mk (Nd ([]:List (List UInt8×Int)) [111,114] 18) false),(Gh.mk (Nd ([]:List (List UInt8×Int)) [97,110,100] 17) false),(Gh.mk (Nd (Nd (Nd (Nd (Nd (Nd ([]:List (List UInt8×Int)) [61,61] 11) [33,61] 12) [60] 13) [60,61] 14) [62] 15) [62,61] 16) true),(Gh.mk (Nd (Nd ([]:List (List UInt8×Int)) [43] 6) [45] 7) false),(Gh.mk (Nd (Nd (Nd ([]:List (List UInt8×Int)) [42] 8) [47] 9) [37] 10) false)]
def Fw  (a:List Cc) (b:Int) (c:Int):Option (List Cc×Int×Int):=
  (i64 (c+1)).bind fun i14 =>
  if (200:Int)<i14 then
    none
  else
    some (a,b,i14)
def Pw  (a:List Cc) (b:Int) (c:Int):Option (List Cc×Int×Int):=
  (i64 (c - 1)).bind fun i12 =>
  some (a,b,i12)
end Go.Y
namespace Go.Y
open Go.hc Go.Mc
structure sn where
  Yn:(List Cc)→Int→Int→Option (Va×List Cc×Int×Int)
  Dm:(List Cc)→Int→Int→Int→Option (Va×List Cc×Int×Int)
  wq:(List Cc)→Int→Int→Option (Va×List Cc×Int×Int)
  Wo:(List Cc)→Int→Int→Option (Va×List Cc×Int×Int)
def Yn (self:sn) (d:List Cc) (e:Int) (f:Int):Option (Va×List Cc×Int×Int):=
  (Fw d e f).bind fun b =>
  (self.Dm b.1 b.2.1 b.2.2 0).bind fun a =>
  (Pw a.2.1 a.2.2.1 a.2.2.2).bind fun c =>
  some (a.1,c.1,c.2.1,c.2.2)
def Fx (a:Int) (b:List Gh) (c:Gh) (d:Cc) (e:(List Cc)→Int→Int→Int→Int→(List UInt8)→(List Va)→Option (Va×List Cc×Int×Int)) (f:List Cc) (i204:Int) (i205:Int) (g:List Va):Option (Va×List Cc×Int×Int):=
  (at_ b a).bind fun h =>
  if h.once=true then
    none
  else
    e f i204 i205 ((ob c.Dt d.Text).getD 0) 0 [] g
def qu (self:sn) (b:Int) (d:List Gh):Nat→(List Cc)→Int→Int→Int→Int→(List UInt8)→(List Va)→Option (Va×List Cc×Int×Int)
  | 0,_,_,_,_,_,_,_=>none
  | n+1,a,i103,i104,i105,i106,e,f =>
    if (0:Int)<(a.length:Int) then
      (at_ d b).bind fun g =>
      (at_ a 0).bind fun h =>
      if ((ob g.Dt h.Text).getD 0)=0 then
        some ((Va.mk i105 i106 e f),a,i103,i104)
      else
        (cut a 1 a.length).bind fun i =>
        (i64 (b+1)).bind fun i218 =>
        (self.Dm i i103 i104 i218).bind fun c =>
        Fx b d g h (qu self b d n) c.2.1 c.2.2.1 c.2.2.2 [(Va.mk i105 i106 e f),c.1]
    else
      none
def Dm (fu:Nat) (self:sn) (d:List Cc) (e:Int) (f:Int) (c:Int):Option (Va×List Cc×Int×Int):=
  (Ux ).bind fun g =>
  if c=(g.length:Int) then
    (self.wq d e f).bind fun b =>
    some (b.1,b.2.1,b.2.2.1,b.2.2.2)
  else
    (i64 (c+1)).bind fun i33 =>
    (self.Dm d e f i33).bind fun a =>
    qu self c g fu a.2.1 a.2.2.1 a.2.2.2 a.1.Kind a.1.N a.1.Name a.1.Kids
def wq (self:sn) (d:List Cc) (e:Int) (f:Int):Option (Va×List Cc×Int×Int):=
  (gh d e f [45]).bind fun a =>
  if a.1=true then
    none
  else
    (gh a.2.1 a.2.2.1 a.2.2.2 [110,111,116]).bind fun b =>
    if b.1=true then
      none
    else
      (self.Wo b.2.1 b.2.2.1 b.2.2.2).bind fun c =>
      some (c.1,c.2.1,c.2.2.1,c.2.2.2)
def Wo (fu:Nat) (self:sn) (a:List Cc) (j:Int) (k:Int):Option (Va×List Cc×Int×Int):=
  if (0:Int)<(a.length:Int) then
    (at_ a 0).bind fun l =>
    if l.Kind=2 then
      (gw a j k).bind fun b =>
      some ((Va.mk 1 b.1 [] ([]:List Va)),b.2.1,b.2.2.1,b.2.2.2)
    else
      (gh a j k [116,114,117,101]).bind fun c =>
      if c.1=true then
        none
      else
        (gh c.2.1 c.2.2.1 c.2.2.2 [102,97,108,115,101]).bind fun d =>
        if d.1=true then
          none
        else
          (gh d.2.1 d.2.2.1 d.2.2.2 [40]).bind fun e =>
          if e.1=true then
            none
          else
            (gh e.2.1 e.2.2.1 e.2.2.2 [114,101,99,118]).bind fun f =>
            if f.1=true then
              (Pr f.2.1 f.2.2.1 f.2.2.2 [[40]]).bind fun h =>
              (vt fu h.1 h.2.1 h.2.2).bind fun g =>
              (Pr g.2.1 g.2.2.1 g.2.2.2 [[41]]).bind fun i =>
              some ((Va.mk 20 0 g.1 ([]:List Va)),i.1,i.2.1,i.2.2)
            else
              none
  else
    none
def Er:Nat→sn
  | 0=>⟨fun _ _ _=>none,fun _ _ _ _=>none,fun _ _ _=>none,fun _ _ _=>none⟩
  | n+1=>⟨Yn (Er n),Dm n (Er n),wq (Er n),Wo n (Er n)⟩
structure fs where
  Aq:(List Cc)→Int→Int→Option (List gb×List Cc×Int×Int)
  Bq:(List Cc)→Int→Int→Option (gb×List Cc×Int×Int)
def Wv (self:fs):Nat→(List Cc)→Int→Int→(List gb)→Option (List gb×List Cc×Int×Int)
  | 0,_,_,_,_=>none
  | n+1,e,i65,i66,c =>
    (gh e i65 i66 [125]).bind fun a =>
    if a.1=true then
      (Pw a.2.1 a.2.2.1 a.2.2.2).bind fun d =>
      some (c,d.1,d.2.1,d.2.2)
    else
      if (c.length:Int)=50 then
        none
      else
        (self.Bq a.2.1 a.2.2.1 a.2.2.2).bind fun b =>
        (app c [b.1]).bind fun f =>
        Wv self n b.2.1 b.2.2.1 b.2.2.2 f
def Aq (fu:Nat) (self:fs) (c:List Cc) (d:Int) (e:Int):Option (List gb×List Cc×Int×Int):=
  (Fw c d e).bind fun a =>
  (Pr a.1 a.2.1 a.2.2 [[123]]).bind fun b =>
  Wv self fu b.1 b.2.1 b.2.2 []
def Xv  (b:List Cc) (i28:Int) (i29:Int) (i30:Int) (c:List UInt8) (i33:Int) (i34:Int) (d:List UInt8) (e:List Va):Option (gb×List Cc×Int×Int):=
  (Pr b i28 i29 [[59]]).bind fun a =>
  some ((gb.mk i30 c (Va.mk i33 i34 d e) ([]:List gb) ([]:List gb)),a.1,a.2.1,a.2.2)
def Bq (fu:Nat) (self:fs) (k:List Cc) (l:Int) (m:Int):Option (gb×List Cc×Int×Int):=
  (gh k l m [105,102]).bind fun d =>
  if d.1=true then
    none
  else
    (gh d.2.1 d.2.2.1 d.2.2.2 [119,104,105,108,101]).bind fun e =>
    if e.1=true then
      none
    else
      (gh e.2.1 e.2.2.1 e.2.2.2 [108,101,116]).bind fun f =>
      if f.1=true then
        none
      else
        (gh f.2.1 f.2.2.1 f.2.2.2 [114,101,116,117,114,110]).bind fun g =>
        if g.1=true then
          none
        else
          (gh g.2.1 g.2.2.1 g.2.2.2 [115,116,111,112]).bind fun h =>
          if h.1=true then
            none
          else
            (gh h.2.1 h.2.2.1 h.2.2.2 [115,101,110,100]).bind fun a =>
            if a.1=true then
              (vt fu a.2.1 a.2.2.1 a.2.2.2).bind fun i =>
              ((Er fu).Yn i.2.1 i.2.2.1 i.2.2.2).bind fun b =>
              Xv b.2.1 b.2.2.1 b.2.2.2 7 i.1 b.1.Kind b.1.N b.1.Name b.1.Kids
            else
              (gh a.2.1 a.2.2.1 a.2.2.2 [111,117,116]).bind fun j =>
              if j.1=true then
                ((Er fu).Yn j.2.1 j.2.2.1 j.2.2.2).bind fun c =>
                Xv c.2.1 c.2.2.1 c.2.2.2 8 [] c.1.Kind c.1.N c.1.Name c.1.Kids
              else
                none
def iw:Nat→fs
  | 0=>⟨fun _ _ _=>none,fun _ _ _=>none⟩
  | n+1=>⟨Aq n (iw n),Bq n (iw n)⟩
def Yy (fu:Nat)  (k:List Cc) (l:Int) (m:Int):Option (va×List Cc×Int×Int):=
  (Xw k l m).bind fun n =>
  (gh k l m [98,111,120]).bind fun b =>
  if b.1=true then
    (vt fu b.2.1 b.2.2.1 b.2.2.2).bind fun d =>
    (Xy d.2.1 d.2.2.1 d.2.2.2).bind fun a =>
    (Xw a.2.1 a.2.2.1 a.2.2.2).bind fun o =>
    (gw a.2.1 a.2.2.1 a.2.2.2).bind fun c =>
    if c.1<1 then
      none
    else
      if (20:Int)<c.1 then
        none
      else
        (Pr c.2.1 c.2.2.1 c.2.2.2 [[59]]).bind fun j =>
        some ((va.mk 1 d.1 (Ya.mk a.1.Kind a.1.Gc) (Ya.mk 0 []) c.1 ([]:List TParam) ([]:List gb)),j.1,j.2.1,j.2.2)
  else
    (gh b.2.1 b.2.2.1 b.2.2.2 [102,110]).bind fun e =>
    if e.1=true then
      none
    else
      (gh e.2.1 e.2.2.1 e.2.2.2 [103,101,110]).bind fun f =>
      if f.1=true then
        none
      else
        (gh f.2.1 f.2.2.1 f.2.2.2 [116,97,115,107]).bind fun g =>
        if g.1=true then
          (vt fu g.2.1 g.2.2.1 g.2.2.2).bind fun h =>
          ((iw fu).Aq h.2.1 h.2.2.1 h.2.2.2).bind fun i =>
          some ((va.mk 4 h.1 (Ya.mk 0 []) (Ya.mk 0 []) 0 ([]:List TParam) i.1),i.2.1,i.2.2.1,i.2.2.2)
        else
          none
end Go.Y
namespace Go.Y
open Go.hc Go.Mc
theorem gH {α:Type}{l:List Cc}{e d:Int}{k1 b:List UInt8}(j:¬ k1=b){A B C:Bool×List Cc×Int×Int→Option α}{r:α}
    (h:(Option.bind (gh l e d k1) fun x=>if x.1=true then A x else Option.bind (gh x.2.1 x.2.2.1 x.2.2.2 b) fun y=>if y.1=true then B y else C y)=some r) :
    (Option.bind (gh l e d b) fun y=>if y.1=true then B y else Option.bind (gh y.2.1 y.2.2.1 y.2.2.2 k1) fun x=>if x.1=true then A x else C x)=some r:=by
  have key:∀ k,(gp l e d k=some false∧gh l e d k=some (false,l,e,d))∨(∃ t a,l=t::a∧t.Text=k∧gh l e d k=some (true,a,e,d)):=by
    intro k;cases l with
    | nil=>first | (left; simp [gp,gh]; done) | (exfalso; simp [gp,gh] at h)
    | cons t a =>
      by_cases c:t.Text=k
      · right;refine ⟨t,a,rfl,c,?_⟩;have f:(0:Int)<((a.length+1:Nat):Int):=by omega
        have m:(1:Int)≤((a.length+1:Nat):Int):=by omega
        have n:cut (t::a) 1 ((t::a).length)=some a:=by
          unfold cut;rw [if_pos ⟨by omega,by simpa using m,by simp⟩];simp
        have o:gp (t::a) e d k=some true:=by
          unfold gp;rw [if_pos (by simp)];simp [at_,c]
        unfold gh;rw [o,Option.bind_some];simp only [if_true];rw [n];rfl
      · left;have f:(0:Int)<((a.length+1:Nat):Int):=by omega
        simp [gh,gp,at_,c,f]
  rcases key k1 with ⟨s1,i1⟩ | ⟨t,a,oa,g,i1⟩
  · rw [i1,Option.bind_some] at h;simp only [Bool.false_eq_true,if_false] at h;rcases key b with ⟨s2,i2⟩ | ⟨t,a,oa,g,i2⟩
    · rw [i2,Option.bind_some] at h ⊢;simp only [Bool.false_eq_true,if_false] at h ⊢;rw [i1,Option.bind_some];simpa using h
    · rw [i2,Option.bind_some] at h ⊢;simp only [if_true] at h ⊢;exact h
  · rw [i1,Option.bind_some] at h;simp only [if_true] at h;rcases key b with ⟨s2,i2⟩ | ⟨t2,q,i,p,i2⟩
    · rw [i2,Option.bind_some];simp only [Bool.false_eq_true,if_false];rw [i1,Option.bind_some];simpa using h
    · rw [oa] at i;obtain ⟨rfl,rfl⟩:=List.cons.inj i;exact absurd (g.symm.trans p) j
end Go.Y
namespace Go.Y
open Go.hc Go.Mc
def yC:Option Unit:=some ()
def ux (a:(List Cc)→Int→Int→(List va)→Option (List va×Fe)) (b:List Cc) (i75:Int) (i76:Int) (c:List va):Option (List va×Fe):=
  a b i75 i76 c
def vx (r8:List Cc×Fe) (a:List va):Option (List va×Fe):=
  (yC ).bind fun b =>
  some (a,r8.2)
def nu (fu:Nat) (r8:List Cc×Fe):Nat→(List Cc)→Int→Int→(List va)→Option (List va×Fe)
  | 0,_,_,_,_=>none
  | n+1,c,i41,i42,a =>
    if (0:Int)<(c.length:Int) then
      if (a.length:Int)=30 then
        none
      else
        (Yy fu c i41 i42).bind fun b =>
        (app a [b.1]).bind fun d =>
        ux (nu fu r8 n) b.2.1 b.2.2.1 b.2.2.2 d
    else
      (qq fu a).bind fun e =>
      if e.tg≠0 then
        none
      else
        vx r8 a
def Vx (fu:Nat)  (p_1:List UInt8):Option (List va×Fe):=
  (Ex fu p_1).bind fun r8 =>
  if r8.2.tg≠0 then
    none
  else
    nu fu r8 fu r8.1 (p_1.length:Int) 0 []
end Go.Y
namespace Go.Y
open Go.hc Go.Mc
def gn  (p_1:Ya):Option Bool :=
  some (decide (p_1.Kind≠3))
def rq  (p_1:yb) (a:Int) (p_3:List UInt8):Option (Option va×Bool):=
  if (ob p_1.named p_3).isSome=true then
    ((ob p_1.named p_3)).bind fun b =>
    some ((ob p_1.named p_3),decide (b.Kind=a))
  else
    some ((ob p_1.named p_3),false)
def vu  (p_1:yb) (a:Ya):Option Int :=
  (gn a).bind fun b =>
  if b=true then
    some 0
  else
    (rq p_1 3 a.Gc).bind fun c =>
    if c.2=true then
      some 0
    else
      some 7
def Cv (p_1:Ya) (a:List UInt8):Option Ya :=
  some (Ya.mk p_1.Kind a)
def Sn  (p_1:Ya):Option Ya :=
  (gn p_1).bind fun a =>
  if a=true then
    Cv p_1 []
  else
    Cv p_1 p_1.Gc
def yk  :Option Ya :=
  some (Ya.mk 1 [])
def ij  :Option Ya :=
  some (Ya.mk 2 [])
def Vp (a:List UInt8) (b:List (List (List UInt8×Ya))):Nat→Int→Option (Ya×Bool)
  | 0,_=>none
  | n+1,i48 =>
    if (0:Int)≤i48 then
      (at_ b i48).bind fun c =>
      if (ob c a).isSome=true then
        some (((ob c a).getD (Ya.mk 0 [])),true)
      else
        (i64 (i48 - 1)).bind fun i88 =>
        Vp a b n i88
    else
      some ((Ya.mk 0 []),false)
def Xo (fu:Nat)  (c:yb) (d:va) (a:List (List (List UInt8×Ya))) (b:List UInt8):Option (Ya×Bool):=
  (i64 ((a.length:Int) - 1)).bind fun i27 =>
  Vp b a fu i27
structure dk where
  fh:yb→va→(List (List (List UInt8×Ya)))→Va→Ya→Option Int
  wk:yb→va→(List (List (List UInt8×Ya)))→Va→Int→Option (Option va×Int)
  Fl:yb→va→(List (List (List UInt8×Ya)))→Va→Option (Ya×Int)
  uk:yb→va→(List (List (List UInt8×Ya)))→Va→Option (Option va×Int)
  ei:yb→va→(List (List (List UInt8×Ya)))→Va→Option (Ya×Int)
def yv  (i44:Int):Option Int :=
  some i44
def gu (a:Ya×Int) (b:Bool):Option Int :=
  if b=true then
    yv 9
  else
    yv a.2
def fh (self:dk) (c:yb) (d:va) (e:List (List (List UInt8×Ya))) (f:Va) (p_3:Ya):Option Int :=
  (self.ei c d e f).bind fun a =>
  if a.2=0 then
    (Sn p_3).bind fun b =>
    gu a (!(Gk [(decide (a.1.Kind=b.Kind)),(decide (a.1.Gc=b.Gc))]))
  else
    gu a false
def Wp (self:dk) (b:Va) (c:yb) (d:va) (e:List (List (List UInt8×Ya))) (f:Option va×Bool) (a:va):Nat→Int→Option (Option va×Int)
  | 0,_=>none
  | n+1,i104 =>
    if i104<(a.Params.length:Int) then
      (at_ a.Params i104).bind fun h =>
      (at_ b.Kids i104).bind fun i =>
      (self.fh c d e i h.ic).bind fun g =>
      if g≠0 then
        some (none,g)
      else
        (i64 (i104+1)).bind fun i158 =>
        Wp self b c d e f a n i158
    else
      some (f.1,0)
def ju (self:dk) (c:Va) (d:yb) (e:va) (f:List (List (List UInt8×Ya))) (a:Option va×Bool) (g:Bool):Option (Option va×Int):=
  if g=true then
    some (none,5)
  else
    (a.1).bind fun b =>
    Wp self c d e f a b (b.Params.length+1) 0
def wk (self:dk) (c:yb) (d:va) (e:List (List (List UInt8×Ya))) (a:Va) (p_3:Int):Option (Option va×Int):=
  (rq c p_3 a.Name).bind fun b =>
  if b.2=true then
    (b.1).bind fun f =>
    ju self a c d e b (decide ((f.Params.length:Int)≠(a.Kids.length:Int)))
  else
    some (none,7)
def Dv (a:Ya×Int) (i73:Int):Option (Ya×Int):=
  some (a.1,i73)
def ur (a:Ya×Int) (b:Ya×Int) (c:Bool):Option (Ya×Int):=
  if c=true then
    Dv a 9
  else
    Dv a b.2
def Fl (self:dk) (c:yb) (d:va) (e:List (List (List UInt8×Ya))) (f:Va):Option (Ya×Int):=
  (at_ f.Kids 0).bind fun g =>
  (self.ei c d e g).bind fun a =>
  if a.2≠0 then
    some (a.1,a.2)
  else
    (at_ f.Kids 1).bind fun h =>
    (self.ei c d e h).bind fun b =>
    if b.2=0 then
      if (Gk [(decide (a.1.Kind=b.1.Kind)),(decide (a.1.Gc=b.1.Gc))])=true then
        (gn a.1).bind fun i =>
        ur a b (!i)
      else
        ur a b true
    else
      ur a b false
def uk (self:dk) (b:yb) (c:va) (d:List (List (List UInt8×Ya))) (e:Va):Option (Option va×Int):=
  (self.ei b c d e).bind fun a =>
  if a.2≠0 then
    some (none,a.2)
  else
    (gn a.1).bind fun f =>
    if f=true then
      some (none,9)
    else
      some ((ob b.named a.1.Gc),0)
def nx  (i52:Int) (i53:Int) (a:List UInt8):Option (Ya×Int):=
  some ((Ya.mk i53 a),i52)
def ox  (i77:Int) (i78:Int) (a:List UInt8):Option (Ya×Int):=
  some ((Ya.mk i78 a),i77)
def px  (i170:Int) (i171:Int) (a:List UInt8):Option (Ya×Int):=
  some ((Ya.mk i171 a),i170)
def qx  (i218:Int) (i219:Int) (a:List UInt8):Option (Ya×Int):=
  some ((Ya.mk i219 a),i218)
def Xp (self:dk) (a:Va) (c:yb) (d:va) (e:List (List (List UInt8×Ya))) (i282:Int) (f:List UInt8) (i284:Int) (b:List UInt8):Nat→Int→Option (Ya×Int)
  | 0,_=>none
  | n+1,i314 =>
    if i314<(a.Kids.length:Int) then
      (at_ a.Kids i314).bind fun h =>
      (self.fh c d e h (Ya.mk i282 f)).bind fun g =>
      if g≠0 then
        some ((Ya.mk i284 b),g)
      else
        (i64 (i314+1)).bind fun i348 =>
        Xp self a c d e i282 f i284 b n i348
    else
      some ((Ya.mk i284 b),0)
def vr (self:dk) (a:Va) (b:yb) (c:va) (d:List (List (List UInt8×Ya))) (i282:Int) (e:List UInt8) (i284:Int) (f:List UInt8):Option (Ya×Int):=
  Xp self a b c d i282 e i284 f (a.Kids.length+1) 0
def Yp (self:dk) (a:Va) (c:yb) (b:va) (d:List (List (List UInt8×Ya))) (p:Bool):Option (Ya×Int):=
  if p=true then
    (self.Fl c b d a).bind fun q =>
    (ij ).bind fun r =>
    some (r,q.2)
  else
    if a.Kind=19 then
      (self.wk c b d a 2).bind fun f =>
      if f.2≠0 then
        (yk ).bind fun s =>
        some (s,f.2)
      else
        (f.1).bind fun t =>
        (Sn t.ic).bind fun u =>
        some (u,0)
    else
      if a.Kind=20 then
        (rq c 1 a.Name).bind fun h =>
        if h.2=true then
          (h.1).bind fun v =>
          (Sn v.ic).bind fun w =>
          some (w,0)
        else
          (yk ).bind fun x =>
          some (x,7)
      else
        if a.Kind=21 then
          if b.Kind≠3 then
            (yk ).bind fun y =>
            some (y,8)
          else
            (at_ a.Kids 0).bind fun z =>
            (Sn b.se).bind fun i =>
            (self.fh c b d z b.ic).bind fun A =>
            px A i.Kind i.Gc
        else
          if a.Kind=22 then
            (self.wk c b d a 3).bind fun B =>
            some ((Ya.mk 3 a.Name),B.2)
          else
            if a.Kind=23 then
              (at_ a.Kids 0).bind fun C =>
              (self.uk c b d C).bind fun g =>
              if g.2≠0 then
                (yk ).bind fun D =>
                some (D,g.2)
              else
                (g.1).bind fun j =>
                (at_ a.Kids 1).bind fun E =>
                (Sn j.ic).bind fun k =>
                (self.fh c b d E j.se).bind fun F =>
                qx F k.Kind k.Gc
            else
              if a.Kind=24 then
                (at_ a.Kids 0).bind fun G =>
                (self.uk c b d G).bind fun H =>
                (ij ).bind fun K =>
                some (K,H.2)
              else
                (yk ).bind fun e =>
                (yk ).bind fun l =>
                if (17:Int)≤a.Kind then
                  (ij ).bind fun m =>
                  (ij ).bind fun n =>
                  vr self a c b d m.Kind m.Gc n.Kind n.Gc
                else
                  if (13:Int)≤a.Kind then
                    (ij ).bind fun o =>
                    vr self a c b d e.Kind e.Gc o.Kind o.Gc
                  else
                    vr self a c b d e.Kind e.Gc l.Kind l.Gc
def ei (fu:Nat) (self:dk) (b:yb) (c:va) (d:List (List (List UInt8×Ya))) (a:Va):Option (Ya×Int):=
  if a.Kind=1 then
    (yk ).bind fun h =>
    some (h,0)
  else
    if a.Kind=2 then
      (ij ).bind fun i =>
      some (i,0)
    else
      if a.Kind=3 then
        (Xo fu b c d a.Name).bind fun e =>
        if e.2=true then
          some (e.1,0)
        else
          (yk ).bind fun j =>
          some (j,7)
      else
        if a.Kind=4 then
          (at_ a.Kids 0).bind fun k =>
          (yk ).bind fun f =>
          (yk ).bind fun l =>
          (self.fh b c d k l).bind fun m =>
          nx m f.Kind f.Gc
        else
          if a.Kind=5 then
            (at_ a.Kids 0).bind fun n =>
            (ij ).bind fun g =>
            (ij ).bind fun o =>
            (self.fh b c d n o).bind fun p =>
            ox p g.Kind g.Gc
          else
            if a.Kind=11 then
              Yp self a b c d (decide (a.Kind=11))
            else
              Yp self a b c d (decide (a.Kind=12))
def qg:Nat→dk
  | 0=>⟨fun _ _ _ _ _=>none,fun _ _ _ _ _=>none,fun _ _ _ _=>none,fun _ _ _ _=>none,fun _ _ _ _=>none⟩
  | n+1=>⟨fh (qg n),wk (qg n),Fl (qg n),uk (qg n),ei n (qg n)⟩
end Go.Y
namespace Go.Y
open Go.hc Go.Mc
def Kv  (a:List (List (List UInt8×Ya))):Option (List (List (List UInt8×Ya))):=
  some a
def uq  (c:yb) (d:va) (a:List (List (List UInt8×Ya))):Option (List (List (List UInt8×Ya))):=
  (i64 ((a.length:Int) - 1)).bind fun i33 =>
  (cut a 0 i33).bind fun b =>
  Kv b
structure bo where
  Pj:yb→va→(List (List (List UInt8×Ya)))→(List gb)→Option (Int×List (List (List UInt8×Ya)))
  Gl:yb→va→(List (List (List UInt8×Ya)))→gb→Option (Int×List (List (List UInt8×Ya)))
def Rp (self:bo) (d:List gb) (a:yb) (b:va):Nat→Int→(List (List (List UInt8×Ya)))→Option (Int×List (List (List UInt8×Ya)))
  | 0,_,_=>none
  | n+1,i74,e =>
    if i74<(d.length:Int) then
      (at_ d i74).bind fun f =>
      (self.Gl a b e f).bind fun c =>
      if c.1≠0 then
        (uq a b c.2).bind fun g =>
        some (c.1,g)
      else
        (i64 (i74+1)).bind fun i137 =>
        Rp self d a b n i137 c.2
    else
      (uq a b e).bind fun h =>
      some (0,h)
def iu (self:bo) (a:List gb) (b:yb) (c:va) (d:List (List (List UInt8×Ya))):Option (Int×List (List (List UInt8×Ya))):=
  Rp self a b c (a.length+1) 0 d
def Pj (self:bo) (a:yb) (b:va) (c:List (List (List UInt8×Ya))) (d:List gb):Option (Int×List (List (List UInt8×Ya))):=
  (app c [[]]).bind fun e =>
  iu self d a b e
def xr  (a:List (List (List UInt8×Ya))):Option (Int×List (List (List UInt8×Ya))):=
  some (0,a)
def Ms (self:bo) (c:gb) (d:yb) (e:va) (a:Int×List (List (List UInt8×Ya))) (f:Bool):Option (Int×List (List (List UInt8×Ya))):=
  if f=true then
    some (a.1,a.2)
  else
    (self.Pj d e a.2 c.Ff).bind fun b =>
    some (b.1,b.2)
def Ev (a:List (List (List UInt8×Ya))) (i153:Int):Option (Int×List (List (List UInt8×Ya))):=
  some (i153,a)
def ku (a:List (List (List UInt8×Ya))) (b:Ya×Int) (c:Bool):Option (Int×List (List (List UInt8×Ya))):=
  if c=true then
    Ev a 9
  else
    Ev a b.2
def Zp (fu:Nat) (self:bo) (b:gb) (d:yb) (c:va) (a:List (List (List UInt8×Ya))) (i:Bool):Option (Int×List (List (List UInt8×Ya))):=
  if i=true then
    (ij ).bind fun j =>
    ((qg fu).fh d c a b.X j).bind fun g =>
    if g≠0 then
      some (g,a)
    else
      (self.Pj d c a b.Body).bind fun f =>
      if f.1≠0 then
        Ms self b d c f true
      else
        Ms self b d c f (decide (b.Kind=4))
  else
    if b.Kind=5 then
      if c.Kind≠2 then
        some (8,a)
      else
        ((qg fu).fh d c a b.X c.ic).bind fun k =>
        some (k,a)
    else
      if b.Kind=6 then
        if c.Kind=2 then
          some (8,a)
        else
          xr a
      else
        if b.Kind=7 then
          (rq d 1 b.Name).bind fun h =>
          if h.2=true then
            (h.1).bind fun l =>
            ((qg fu).fh d c a b.X l.ic).bind fun m =>
            some (m,a)
          else
            some (7,a)
        else
          if b.Kind=8 then
            ((qg fu).ei d c a b.X).bind fun e =>
            if e.2=0 then
              (gn e.1).bind fun n =>
              ku a e (!n)
            else
              ku a e false
          else
            if b.Kind=9 then
              ((qg fu).ei d c a b.X).bind fun o =>
              some (o.2,a)
            else
              xr a
def Gl (fu:Nat) (self:bo) (c:yb) (d:va) (a:List (List (List UInt8×Ya))) (b:gb):Option (Int×List (List (List UInt8×Ya))):=
  if b.Kind=1 then
    ((qg fu).ei c d a b.X).bind fun e =>
    if e.2≠0 then
      some (e.2,a)
    else
      (Xo fu c d a b.Name).bind fun g =>
      if g.2=true then
        some (7,a)
      else
        (i64 ((a.length:Int) - 1)).bind fun i57 =>
        (at_ a i57).bind fun h =>
        xr (a.set i57.toNat (Nd h b.Name e.1))
  else
    if b.Kind=2 then
      (Xo fu c d a b.Name).bind fun f =>
      if f.2=true then
        ((qg fu).fh c d a b.X f.1).bind fun i =>
        some (i,a)
      else
        some (7,a)
    else
      if b.Kind=3 then
        Zp fu self b c d a (decide (b.Kind=3))
      else
        Zp fu self b c d a (decide (b.Kind=4))
def xk:Nat→bo
  | 0=>⟨fun _ _ _ _=>none,fun _ _ _ _=>none⟩
  | n+1=>⟨Pj (xk n),Gl n (xk n)⟩
def aq  (a:Bool):Option Int :=
  if a=true then
    some 9
  else
    some 0
def Ns (a:va):Option Int :=
  if a.Kind=3 then
    (gn a.se).bind fun b =>
    if b=true then
      if a.Kind≠4 then
        (gn a.ic).bind fun c =>
        aq (!c)
      else
        aq false
    else
      aq true
  else
    if a.Kind≠4 then
      (gn a.ic).bind fun d =>
      aq (!d)
    else
      aq false
def Ps (p_1:yb) (b:va):Nat→Int→(List (List UInt8×Int))→Option Int
  | 0,_,_=>none
  | n+1,i48,c =>
    if i48<(b.Params.length:Int) then
      (at_ b.Params i48).bind fun a =>
      (i64 (((ob c a.Name).getD 0)+1)).bind fun i92 =>
      if (1:Int)<((ob (Nd c a.Name i92) a.Name).getD 0) then
        some 7
      else
        (vu p_1 a.ic).bind fun d =>
        if d≠0 then
          some d
        else
          (i64 (i48+1)).bind fun i104 =>
          Ps p_1 b n i104 (Nd c a.Name i92)
    else
      Ns b
def Qs (p_1:yb) (a:va) (b:Bool):Option Int :=
  if b=true then
    Ps p_1 a (a.Params.length+1) 0 ([]:List (List UInt8×Int))
  else
    Ns a
def ht  (p_1:yb) (a:va):Option Int :=
  if a.Kind=2 then
    Qs p_1 a true
  else
    Qs p_1 a (decide (a.Kind=3))
def bq (fu:Nat) (p_1:yb) (a:va) (b:List (List (List UInt8×Ya))):Option Int :=
  ((xk fu).Pj p_1 a b a.Body).bind fun c =>
  some c.1
def lu (i63:Int) (a:Int→(List (List (List UInt8×Ya)))→Option Int) (b:List (List (List UInt8×Ya))):Option Int :=
  (i64 (i63+1)).bind fun i135 =>
  a i135 b
def Ro (fu:Nat) (p_1:yb) (a:va):Nat→Int→(List (List (List UInt8×Ya)))→Option Int
  | 0,_,_=>none
  | n+1,i63,b =>
    if i63<(a.Params.length:Int) then
      (at_ a.Params i63).bind fun c =>
      (at_ b 0).bind fun d =>
      (Sn c.ic).bind fun e =>
      lu i63 (Ro fu p_1 a n) (b.set (0:Int).toNat (Nd d c.Name e))
    else
      bq fu p_1 a b
def Yo (fu:Nat)  (p_1:yb) (a:va):Option Int :=
  if a.Kind=1 then
    some 0
  else
    if a.Kind≠4 then
      Ro fu p_1 a (a.Params.length+1) 0 [([]:List (List UInt8×Ya))]
    else
      bq fu p_1 a [([]:List (List UInt8×Ya))]
def Oo (fu:Nat) (p_1:List va) (a:List (List UInt8×va)):Nat→Int→Option (yb×Fe)
  | 0,_=>none
  | n+1,i329 =>
    if i329<(p_1.length:Int) then
      (at_ p_1 i329).bind fun c =>
      (Yo fu (yb.mk p_1 a) c).bind fun b =>
      if b≠0 then
        some ((yb.mk p_1 a),(Fe.mk b i329))
      else
        (i64 (i329+1)).bind fun i369 =>
        Oo fu p_1 a n i369
    else
      some ((yb.mk p_1 a),(Fe.mk 0 0))
def Po (fu:Nat) (p_1:List va) (a:List (List UInt8×va)):Nat→Int→Option (yb×Fe)
  | 0,_=>none
  | n+1,i270 =>
    if i270<(p_1.length:Int) then
      (at_ p_1 i270).bind fun c =>
      (ht (yb.mk p_1 a) c).bind fun b =>
      if b≠0 then
        some ((yb.mk p_1 a),(Fe.mk b i270))
      else
        (i64 (i270+1)).bind fun i310 =>
        Po fu p_1 a n i310
    else
      Oo fu p_1 a (p_1.length+1) 0
def Qo (fu:Nat) (p_1:List va):Nat→Int→Int→(List (List UInt8×va))→Option (yb×Fe)
  | 0,_,_,_=>none
  | n+1,i94,i95,a =>
    if i95<(p_1.length:Int) then
      (at_ p_1 i95).bind fun d =>
      if (ob a d.Name).isSome=true then
        some ((yb.mk p_1 a),(Fe.mk 7 i95))
      else
        (at_ p_1 i95).bind fun b =>
        (at_ p_1 i95).bind fun c =>
        (at_ p_1 i95).bind fun e =>
        if e.Kind=4 then
          (i64 (i94+1)).bind fun i236 =>
          (i64 (i95+1)).bind fun i238 =>
          Qo fu p_1 n i236 i238 (Nd a b.Name c)
        else
          (i64 (i95+1)).bind fun i240 =>
          Qo fu p_1 n i94 i240 (Nd a b.Name c)
    else
      if i94=0 then
        some ((yb.mk p_1 a),(Fe.mk 6 (p_1.length:Int)))
      else
        Po fu p_1 a (p_1.length+1) 0
def nq (fu:Nat)  (p_1:List va):Option (yb×Fe):=
  (qq fu p_1).bind fun a =>
  if a.tg≠0 then
    some ((yb.mk p_1 ([]:List (List UInt8×va))),a)
  else
    Qo fu p_1 (p_1.length+1) 0 0 ([]:List (List UInt8×va))
end Go.Y
namespace Go.Y
open Go.hc Go.Mc
structure tp where
  Wl:(List (List UInt8))→(List (List UInt8))→(List (List UInt8))→Va→Option (List (List UInt8)×List (List UInt8)×List (List UInt8))
def Rs (self:tp) (a:Va):Nat→Int→(List (List UInt8))→(List (List UInt8))→(List (List UInt8))→Option (List (List UInt8)×List (List UInt8)×List (List UInt8))
  | 0,_,_,_,_=>none
  | n+1,i96,c,d,e =>
    if i96<(a.Kids.length:Int) then
      (at_ a.Kids i96).bind fun f =>
      (self.Wl c d e f).bind fun b =>
      (i64 (i96+1)).bind fun i162 =>
      Rs self a n i162 b.1 b.2.1 b.2.2
    else
      some (c,d,e)
def yr (self:tp) (a:Va) (b:List (List UInt8)) (c:List (List UInt8)) (d:List (List UInt8)):Option (List (List UInt8)×List (List UInt8)×List (List UInt8)):=
  Rs self a (a.Kids.length+1) 0 c b d
def Fv (self:tp) (a:Va) (b:List (List UInt8)) (c:List (List UInt8)) (d:List (List UInt8)):Option (List (List UInt8)×List (List UInt8)×List (List UInt8)):=
  yr self a b d c
def Gv (self:tp) (a:List (List UInt8)) (b:Va) (c:List (List UInt8)) (d:List (List UInt8)):Option (List (List UInt8)×List (List UInt8)×List (List UInt8)):=
  yr self b c a d
def Ss (self:tp) (b:List (List UInt8)) (a:Va) (c:List (List UInt8)) (d:List (List UInt8)) (e:Bool):Option (List (List UInt8)×List (List UInt8)×List (List UInt8)):=
  if e=true then
    (app b [a.Name]).bind fun f =>
    Fv self a c d f
  else
    if a.Kind=20 then
      (app d [a.Name]).bind fun g =>
      Gv self b a c g
    else
      yr self a c b d
def Wl (self:tp) (b:List (List UInt8)) (c:List (List UInt8)) (d:List (List UInt8)) (a:Va):Option (List (List UInt8)×List (List UInt8)×List (List UInt8)):=
  if a.Kind=19 then
    Ss self b a c d (decide (a.Kind=19))
  else
    Ss self b a c d (decide (a.Kind=22))
def sq:Nat→tp
  | 0=>⟨fun _ _ _ _=>none⟩
  | n+1=>⟨Wl (sq n)⟩
structure eo where
  vk:(List (List UInt8))→(List (List UInt8))→(List (List UInt8))→(List gb)→Option (List (List UInt8)×List (List UInt8)×List (List UInt8))
def Is (self:eo) (i130:Int) (b:gb) (c:Int→(List (List UInt8))→(List (List UInt8))→(List (List UInt8))→Option (List (List UInt8)×List (List UInt8)×List (List UInt8))) (d:List (List UInt8)) (e:List (List UInt8)) (f:List (List UInt8)):Option (List (List UInt8)×List (List UInt8)×List (List UInt8)):=
  if b.Kind=3 then
    (self.vk d e f b.Ff).bind fun a =>
    (i64 (i130+1)).bind fun i363 =>
    c i363 a.1 a.2.1 a.2.2
  else
    (i64 (i130+1)).bind fun i365 =>
    c i365 d e f
def Js (self:eo) (i130:Int) (a:gb) (c:List (List UInt8)) (d:List (List UInt8)) (e:List (List UInt8)) (f:Int→(List (List UInt8))→(List (List UInt8))→(List (List UInt8))→Option (List (List UInt8)×List (List UInt8)×List (List UInt8))) (g:Bool):Option (List (List UInt8)×List (List UInt8)×List (List UInt8)):=
  if g=true then
    (self.vk c d e a.Body).bind fun b =>
    Is self i130 a f b.1 b.2.1 b.2.2
  else
    Is self i130 a f c d e
def Ks (self:eo) (i130:Int) (a:gb) (b:Int→(List (List UInt8))→(List (List UInt8))→(List (List UInt8))→Option (List (List UInt8)×List (List UInt8)×List (List UInt8))) (c:List (List UInt8)) (d:List (List UInt8)) (e:List (List UInt8)):Option (List (List UInt8)×List (List UInt8)×List (List UInt8)):=
  if a.Kind=3 then
    Js self i130 a c d e b true
  else
    Js self i130 a c d e b (decide (a.Kind=4))
def Ls (fu:Nat) (self:eo) (i130:Int) (c:List (List UInt8)) (d:List (List UInt8)) (a:gb) (e:Int→(List (List UInt8))→(List (List UInt8))→(List (List UInt8))→Option (List (List UInt8)×List (List UInt8)×List (List UInt8))) (f:List (List UInt8)):Option (List (List UInt8)×List (List UInt8)×List (List UInt8)):=
  if a.Kind≠6 then
    ((sq fu).Wl c f d a.X).bind fun b =>
    Ks self i130 a e b.1 b.2.1 b.2.2
  else
    Ks self i130 a e c f d
def zv (fu:Nat) (self:eo) (i130:Int) (a:List (List UInt8)) (b:List (List UInt8)) (c:gb) (d:Int→(List (List UInt8))→(List (List UInt8))→(List (List UInt8))→Option (List (List UInt8)×List (List UInt8)×List (List UInt8))) (e:List (List UInt8)):Option (List (List UInt8)×List (List UInt8)×List (List UInt8)):=
  Ls fu self i130 a b c d e
def sk (fu:Nat) (self:eo) (a:List gb):Nat→Int→(List (List UInt8))→(List (List UInt8))→(List (List UInt8))→Option (List (List UInt8)×List (List UInt8)×List (List UInt8))
  | 0,_,_,_,_=>none
  | n+1,i130,c,d,e =>
    if i130<(a.length:Int) then
      (at_ a i130).bind fun b =>
      if b.Kind=7 then
        (app d [b.Name]).bind fun f =>
        zv fu self i130 c e b (sk fu self a n) f
      else
        Ls fu self i130 c e b (sk fu self a n) d
    else
      some (c,d,e)
def vk (fu:Nat) (self:eo) (b:List (List UInt8)) (c:List (List UInt8)) (d:List (List UInt8)) (a:List gb):Option (List (List UInt8)×List (List UInt8)×List (List UInt8)):=
  sk fu self a (a.length+1) 0 b c d
def Uk:Nat→eo
  | 0=>⟨fun _ _ _ _=>none⟩
  | n+1=>⟨vk n (Uk n)⟩
def tr (p_1:yb) (a:List (List UInt8)×List (List UInt8)×List (List UInt8)) (d:List (List UInt8)) (e:List (List UInt8)) (f:(List (List UInt8))→(List (Option va))→(List (List UInt8))→(List (List UInt8))→Option kf):Nat→Int→(List (List UInt8))→(List (Option va))→Option kf
  | 0,_,_,_=>none
  | n+1,b,c,g =>
    if b<(a.1.length:Int) then
      (at_ a.1 b).bind fun h =>
      if c.contains h=true then
        (i64 (b+1)).bind fun i =>
        tr p_1 a d e f n i c g
      else
        (app c [h]).bind fun j =>
        (app g [(ob p_1.named h)]).bind fun k =>
        (i64 (b+1)).bind fun l =>
        tr p_1 a d e f n l j k
    else
      f c g d e
def Av (p_1:yb) (b:List (List UInt8)) (c:List (Option va)) (a:List (List UInt8)×List (List UInt8)×List (List UInt8)) (d:(List (List UInt8))→(List (Option va))→(List (List UInt8))→(List (List UInt8))→Option kf) (g:List (List UInt8)) (h:List (List UInt8)) (e:List (List UInt8)) (f:List (List UInt8)):Option kf :=
  tr p_1 a e f d (a.1.length+1) 0 b c
def Sp (fu:Nat) (p_1:yb):Nat→(List (List UInt8))→(List (Option va))→(List (List UInt8))→(List (List UInt8))→Option kf
  | 0,_,_,_,_=>none
  | n+1,e,b,c,d =>
    if (0:Int)<(b.length:Int) then
      (at_ b 0).bind fun f =>
      (cut b 1 b.length).bind fun g =>
      (f).bind fun h =>
      ((Uk fu).vk ([]:List (List UInt8)) ([]:List (List UInt8)) ([]:List (List UInt8)) h.Body).bind fun a =>
      (app c a.2.1).bind fun i =>
      (app d a.2.2).bind fun j =>
      Av p_1 e g a (Sp fu p_1 n) a.2.1 a.2.2 i j
    else
      some (kf.mk ([]:List (List UInt8)) c d)
def Pv (fu:Nat)  (p_1:yb) (a:va):Option kf :=
  Sp fu p_1 fu ([]:List (List UInt8)) ([(some a)]:List (Option va)) [] []
def wv (i88:Int) (a:Int→(List (List UInt8×kf))→Option (List Ah×Fe)) (b:List (List UInt8×kf)):Option (List Ah×Fe):=
  (i64 (i88+1)).bind fun i223 =>
  a i223 b
def Gs (a:Int) (b:List UInt8) (c:Int→(List UInt8)→(List UInt8)→Option (List Ah×Fe)) (d:List UInt8):Option (List Ah×Fe):=
  (i64 (a+1)).bind fun e =>
  c e b d
def Hs (f:List (List UInt8×kf)) (g:Int) (h:va) (a:Int) (b:List UInt8) (c:va) (d:Int→(List UInt8)→(List UInt8)→Option (List Ah×Fe)) (e:List UInt8):Option (List Ah×Fe):=
  if (((ob f c.Name).getD (kf.mk ([]:List (List UInt8)) ([]:List (List UInt8)) ([]:List (List UInt8)))).uj).contains h.Name=true then
    if b≠[] then
      some (([]:List Ah),(Fe.mk 8 g))
    else
      Gs a e d c.Name
  else
    Gs a e d b
def Zm (p_1:List va) (c:List (List UInt8×kf)) (a:Int) (f:List Ah) (b:va) (g:Int→(List Ah)→Option (List Ah×Fe)):Nat→Int→(List UInt8)→(List UInt8)→Option (List Ah×Fe)
  | 0,_,_,_=>none
  | n+1,d,h,i =>
    if d<(p_1.length:Int) then
      (at_ p_1 d).bind fun e =>
      if e.Kind≠4 then
        (i64 (d+1)).bind fun j =>
        Zm p_1 c a f b g n j h i
      else
        if (((ob c e.Name).getD (kf.mk ([]:List (List UInt8)) ([]:List (List UInt8)) ([]:List (List UInt8)))).Qj).contains b.Name=true then
          if h≠[] then
            some (([]:List Ah),(Fe.mk 8 a))
          else
            Hs c a b d i e (Zm p_1 c a f b g n) e.Name
        else
          Hs c a b d i e (Zm p_1 c a f b g n) h
    else
      (app f [(Ah.mk b.Name h i)]).bind fun k =>
      (i64 (a+1)).bind fun l =>
      g l k
def Ln (p_1:List va) (b:List (List UInt8×kf)):Nat→Int→(List Ah)→Option (List Ah×Fe)
  | 0,_,_=>none
  | n+1,a,c =>
    if a<(p_1.length:Int) then
      (at_ p_1 a).bind fun d =>
      if d.Kind≠1 then
        (i64 (a+1)).bind fun e =>
        Ln p_1 b n e c
      else
        Zm p_1 b a c d (Ln p_1 b n) (p_1.length+1) 0 [] []
    else
      some (c,(Fe.mk 0 0))
def Qp (fu:Nat) (p_1:List va) (a:yb×Fe):Nat→Int→(List (List UInt8×kf))→Option (List Ah×Fe)
  | 0,_,_=>none
  | n+1,i88,b =>
    if i88<(p_1.length:Int) then
      (at_ p_1 i88).bind fun c =>
      if c.Kind=4 then
        (at_ p_1 i88).bind fun d =>
        (at_ p_1 i88).bind fun e =>
        (Pv fu a.1 e).bind fun f =>
        wv i88 (Qp fu p_1 a n) (Nd b d.Name f)
      else
        (i64 (i88+1)).bind fun i225 =>
        Qp fu p_1 a n i225 b
    else
      Ln p_1 b (p_1.length+1) 0 []
def Ys (fu:Nat)  (p_1:List va):Option (List Ah×Fe):=
  (nq fu p_1).bind fun a =>
  if a.2.tg≠0 then
    some (([]:List Ah),a.2)
  else
    Qp fu p_1 a (p_1.length+1) 0 ([]:List (List UInt8×kf))
def oq (fu:Nat)  (p_1:List va):Option Fe :=
  (Ys fu p_1).bind fun a =>
  some a.2
end Go.Y
namespace Go.Y
open Go.hc Go.Mc
abbrev Ie:=List UInt8
mutual
inductive sf where
  | all (l:List Va) (s:Option Nat) (we:List Int) (k:Sk)
  | stat (l:List gb) (s:Option Nat) (e:Rg) (k:me)
  | cg (x:gb) (s:Option Nat) (e:Rg) (k:me)
inductive Sk where
  | ex (x:Va) (k:sf)
inductive me where
  | zero (k:sf)
  | recv (n:Ie) (k:sf)
  | send (n:Ie) (v:Int) (k:me)
  | done (g:Nat)
  | stats (l:List gb) (s:Option Nat) (e:Rg) (k:me)
  | cg (x:gb) (s:Option Nat) (e:Rg) (k:me)
  | fin
  | zj (d:va)
inductive Rg where
  | ret (k:sf)
  | stop (k:me)
end
structure Jh where
  name:Ie
  v:Int
  up:Option Nat
structure Eg where
  jm:va
  args:Option Nat
  begun:Bool
  going:Bool
  ended:Bool
  up:Option Nat
  back:Option sf
  dm:Option sf
structure Od where
  cap:Int
  words:List Int
structure Gd where
  xe:List Jh
  mc:List Eg
  now:Nat
  Nk:Option me
  state:Int
  box:Int
  Le:Int
  out:List Int
structure oe where
  defs:List (Ie×va)
  order:List (Ie×Int)
structure Tc where
  t:Gd
  boxes:List Od
  nodes:Int
inductive uh where
  | expr (x:Va) (s:Option Nat) (k:sf)
  | all (l:List Va) (s:Option Nat) (we:List Int) (k:Sk)
  | stats (l:List gb) (s:Option Nat) (e:Rg) (k:me)
  | cg (x:gb) (s:Option Nat) (e:Rg) (k:me)
  | tf (k:sf) (v:Int)
  | we (k:Sk) (l:List Int)
  | Rd (k:me)
  | recv (n:Ie) (k:sf)
  | send (n:Ie) (v:Int) (k:me)
  | resume (g:Nat) (v:Int) (k:sf)
inductive nj where
  | call (c:uh) (x:Tc)
  | ret (k:Option me) (x:Tc)
  | Ap
def Xk (S:List Jh) (n:Ie):Nat→Option Nat→Option Nat
  | 0,_=>none
  | _+1,none=>none
  | fu+1,some i=>(S[i]?).bind fun c=>if c.name=n then some i else Xk S n fu c.up
def Ak:List TParam→List Int→List Jh→Option Nat→Option (List Jh×Option Nat)
  | [],_,S,s=>some (S,s)
  | p::Eh,[],_,_=>none
  | p::Eh,v::vs,S,s=>Ak Eh vs (S++[⟨p.Name,v,s⟩]) (some S.length)
def lj (b:Bool):Int:=if b then 1 else 0
def fm (k a b:Int):Option Int :=
  let whole:=a=-9223372036854775808∧b=-1
  if k=6 then some (ml (a+b)) else
  if k=7 then some (ml (a - b)) else
  if k=8 then some (ml (a*b)) else
  if k=9 then (if whole then some a else quo a b) else
  if k=10 then (if whole then some 0 else Gt a b) else
  if k=11 then some (lj (decide (a=b))) else
  if k=12 then some (lj (decide (a≠b))) else
  if k=13 then some (lj (decide (a<b))) else
  if k=14 then some (lj (decide (a≤b))) else
  if k=15 then some (lj (decide (b<a))) else
  if k=16 then some (lj (decide (b≤a))) else
  if k=17 then some (min a b) else some (max a b)
def Tc.task (x:Tc) (f:Gd→Gd):Tc:={ x with t:=f x.t }
def Cq (x:Tc) (n:Int):nj:=.ret none (x.task fun t=>{ t with state:=5,Le:=n })
def zI (e:Rg):Option me:=match e with | .ret _=>none | .stop k=>some k
def xq (x:Tc) (f:Tc→Option nj):Option nj:=if 20000<x.nodes+1 then some .Ap else f { x with nodes:=x.nodes+1 }
def Gd.Rl (t:Gd) (g:Nat) (f:Eg→Eg):Gd:=match t.mc[g]? with | none=>t | some c=>{ t with mc:=t.mc.set g (f c) }
def gm (E:oe) (x:Va) (k:sf) (l:List Int) (z:Tc):Option nj :=
  if x.Kind=4 then (at_ l 0).bind fun a=>some (.call (.tf k (ml (-a))) z) else
  if x.Kind=5 then (at_ l 0).bind fun a=>some (.call (.tf k (ml (1 - a))) z) else
  if x.Kind=19 then (ob E.defs x.Name).bind fun d=>(Ak d.Params l z.t.xe none).bind fun r=>some (.call (.stats d.Body r.2 (.ret k) (.zero k)) (z.task fun t=>{ t with xe:=r.1 })) else
  if x.Kind=21 then (at_ l 0).bind fun a=>(z.t.mc[z.t.now]?).bind fun c=>c.up.bind fun u=>c.back.bind fun b=>some (.call (.tf b a) (z.task fun t=>{ t.Rl t.now fun c=>{ c with dm:=some k,going:=false } with now:=u })) else
  if x.Kind=22 then
    if (z.t.mc.length:Int) - 1=30 then some (Cq z 5) else
    (ob E.defs x.Name).bind fun d=>(Ak d.Params l z.t.xe none).bind fun r =>
    some (.call (.tf k (z.t.mc.length - 1)) (z.task fun t=>{ t with xe:=r.1,mc:=t.mc++[⟨d,r.2,false,false,false,none,none,none⟩] })) else
  if x.Kind=23 then (at_ l 0).bind fun a=>(at_ l 1).bind fun b=>if 0≤a∧a<(z.t.mc.length:Int) - 1 then some (.call (.resume (a.toNat+1) b k) z) else none else
  if x.Kind=24 then (at_ l 0).bind fun a=>if 0≤a then (z.t.mc[a.toNat+1]?).bind fun c=>some (.call (.tf k (lj !c.ended)) z) else none else
  (if x.Kind=9∨x.Kind=10 then (at_ l 1).bind fun b=>some (decide (b=0)) else some false).bind fun q =>
  if q=true then some (Cq z 1) else
  (at_ l 0).bind fun a=>(at_ l 1).bind fun b=>(fm x.Kind a b).bind fun v=>some (.call (.tf k v) z)
def zC (E:oe) (z:Tc) (s:Int) (n:Ie) (again:me):nj:=.ret none (z.task fun t=>{ t with state:=s,box:=(ob E.order n).getD 0,Nk:=some again })
def Qr (E:oe) (n:Ie) (k:sf) (z:Tc):Option nj :=
  (ob E.order n).bind fun i=>(at_ z.boxes i).bind fun b =>
  match b.words with
  | []=>some (zC E z 3 n (.recv n k))
  | v::ws=>some (.call (.tf k v) { z with boxes:=z.boxes.set i.toNat { b with words:=ws } })
def Rr (E:oe) (n:Ie) (v:Int) (k:me) (z:Tc):Option nj :=
  (ob E.order n).bind fun i=>(at_ z.boxes i).bind fun b =>
  if (b.words.length:Int)=b.cap then some (zC E z 2 n (.send n v k)) else
  (app b.words [v]).bind fun ws=>some (.ret (some k) { z with boxes:=z.boxes.set i.toNat { b with words:=ws } })
def Gr (g:Nat) (v:Int) (k:sf) (z:Tc):Option nj :=
  (z.t.mc[g]?).bind fun c =>
  if c.ended=true then some (Cq z 2) else
  if c.going=true∨g=z.t.now then some (Cq z 3) else
  let a:=z.task fun t=>{ t.Rl g fun c=>{ c with going:=true,up:=some t.now,back:=some k } with now:=g }
  if c.begun=true then c.dm.bind fun o=>some (.call (.tf o v) a) else
  some (.call (.stats c.jm.Body c.args (.stop (.done g)) (.done g)) (a.task fun t=>t.Rl g fun c=>{ c with begun:=true }))
def nn (x:gb) (l:List gb) (s:Option Nat) (e:Rg) (k:me) (v:Int) (z:Tc):Option nj :=
  if x.Kind=1 then some (.ret (some (.stats l (some z.t.xe.length) e k)) (z.task fun t=>{ t with xe:=t.xe++[⟨x.Name,v,s⟩] })) else
  if x.Kind=2 then (Xk z.t.xe x.Name (z.t.xe.length+1) s).bind fun i=>(z.t.xe[i]?).bind fun c=>some (.ret (some (.stats l s e k)) (z.task fun t=>{ t with xe:=t.xe.set i { c with v:=v } })) else
  if x.Kind=3 then some (.call (.stats (if v≠0 then x.Body else x.Ff) s e (.stats l s e k)) z) else
  if x.Kind=5 then (match e with | .ret q=>some (.call (.tf q v) z) | .stop _=>none) else
  if x.Kind=7 then some (.call (.send x.Name v (.stats l s e k)) z) else
  if x.Kind=8 then (app z.t.out [v]).bind fun o=>some (.ret (some (.stats l s e k)) (z.task fun t=>{ t with out:=o })) else
  some (.ret (some (.stats l s e k)) z)
def ae (E:oe):uh→Tc→Option nj
  | .expr x s k,z=>xq z fun z =>
    if x.Kind=1∨x.Kind=2 then some (.call (.tf k x.N) z) else
    if x.Kind=3 then (Xk z.t.xe x.Name (z.t.xe.length+1) s).bind fun i=>(z.t.xe[i]?).bind fun c=>some (.call (.tf k c.v) z) else
    if x.Kind=20 then some (.call (.recv x.Name k) z) else
    some (.call (.all x.Kids s [] (.ex x k)) z)
  | .all l s we k,z=>if l.length=we.length then some (.call (.we k we) z) else (l[we.length]?).bind fun x=>some (.call (.expr x s (.all l s we k)) z)
  | .stats [] s e k,z=>some (.ret (some k) z)
  | .stats (x::l) s e k,z=>xq z fun z =>
    if x.Kind=6 then some (.ret (zI e) z) else
    if x.Kind=4 then some (.call (.cg x s e (.stats l s e k)) z) else
    some (.call (.expr x.X s (.stat (x::l) s e k)) z)
  | .cg x s e k,z=>some (.call (.expr x.X s (.cg x s e k)) z)
  | .tf (.all l s we k) v,z=>(app we [v]).bind fun g=>some (.call (.all l s g k) z)
  | .tf (.stat l s e k) v,z=>match l with | []=>none | x::l=>nn x l s e k v z
  | .tf (.cg x s e k) v,z=>if v=0 then some (.ret (some k) z) else some (.call (.stats x.Body s e (.cg x s e k)) z)
  | .we (.ex x k) l,z=>gm E x k l z
  | .Rd (.zero k),z=>some (.call (.tf k 0) z)
  | .Rd (.recv n k),z=>Qr E n k z
  | .Rd (.send n v k),z=>Rr E n v k z
  | .Rd (.done g),z=>(z.t.mc[g]?).bind fun c=>c.up.bind fun u=>c.back.bind fun b=>some (.call (.tf b 0) (z.task fun t=>{ t.Rl g fun c=>{ c with ended:=true,going:=false } with now:=u }))
  | .Rd (.stats l s e k),z=>some (.call (.stats l s e k) z)
  | .Rd (.cg x s e k),z=>some (.call (.cg x s e k) z)
  | .Rd .fin,z=>some (.ret none (z.task fun t=>{ t with state:=4 }))
  | .Rd (.zj d),z=>some (.call (.stats d.Body none (.stop .fin) .fin) z)
  | .recv n k,z=>Qr E n k z
  | .send n v k,z=>Rr E n v k z
  | .resume g v k,z=>Gr g v k z
def mn (E:oe):Nat→uh→Tc→Option (Option (Option me×Tc))
  | 0,_,_=>none
  | n+1,c,z=>(ae E c z).bind fun o=>match o with
    | .call c z=>mn E n c z
    | .ret k z=>some (some (k,z))
    | .Ap=>some none
end Go.Y
namespace Go.Y
open Go.hc Go.Mc
def Dq (E:oe):Nat→Option me→Tc→Option (Option Tc)
  | _,none,z=>some (some z)
  | 0,some _,_=>none
  | n+1,some k,z=>(mn E n (.Rd k) z).bind fun r=>match r with
    | none=>some none
    | some (k',a)=>Dq E n k' a
def Ku (E:oe) (n:Nat) (z:Tc):Option (Option Tc):=Dq E n z.t.Nk (z.task fun t=>{ t with state:=1,box:=0 })
def fo (t:Gd) (bs:List Od):Option Bool :=
  if t.state=1 then some true else
  if t.state=2 then (at_ bs t.box).bind fun b=>some (decide ((b.words.length:Int)<b.cap)) else
  if t.state=3 then (at_ bs t.box).bind fun b=>some (decide ((0:Int)<b.words.length)) else
  some false
def Un (E:oe) (n:Nat):List Gd→List Gd→List Od→Int→Bool→Option (Option (List Gd×List Od×Int×Bool))
  | pre,[],bs,nd,od=>some (some (pre,bs,nd,od))
  | pre,t::sa,bs,nd,od=>(fo t bs).bind fun c =>
    if c=true then (Ku E n ⟨t,bs,nd⟩).bind fun r=>match r with
      | none=>some none
      | some z=>Un E n (pre++[z.t]) sa z.boxes z.nodes true
    else Un E n (pre++[t]) sa bs nd od
def Zo (E:oe) (n:Nat):Nat→List Gd→List Od→Int→Option (Option (List Gd×List Od×Int))
  | 0,_,_,_=>none
  | m+1,sa,bs,nd=>(Un E n [] sa bs nd false).bind fun r=>match r with
    | none=>some none
    | some (sa,bs,nd,od)=>if od=true then Zo E n m sa bs nd else some (some (sa,bs,nd))
structure km where
  D:List (Ie×va)
  O:List (Ie×Int)
  bs:List Od
  sa:List Gd
def Im (d:va):Gd:=⟨[],[⟨d,none,false,false,false,none,none,none⟩],0,some (.zj d),1,0,0,[]⟩
def Mq (u:km) (d:va):km:=if d.Kind=1 then { u with O:=Nd u.O d.Name (u.bs.length:Int),bs:=u.bs++[⟨d.gf,[]⟩] } else u
def Nq (u:km) (d:va):km:=if d.Kind=4 then { u with sa:=u.sa++[Im d] } else u
def oh (u:km) (d:va):km:=Nq (Mq { u with D:=Nd u.D d.Name d } d) d
def Tg (l:List va):km:=l.foldl oh ⟨[],[],[],[]⟩
def km.env (u:km):oe:=⟨u.D,u.O⟩
def BC (n:Nat) (l:List va):Option (Option (List Gd×List Od×Int)):=Zo (Tg l).env n n (Tg l).sa (Tg l).bs 0
end Go.Y
namespace Go.Y
open Go.hc Go.Mc
structure hs where
  State:Int
  yo:Int
  qD:Int
  Out:List Int
  deriving DecidableEq,Inhabited,Repr
instance:mb hs where
  sz:=4
  pos:=by decide
  cs μ l x:=∃ na bc,l=[.int .i64 x.State,.int .i64 x.yo,.int .i64 x.qD,.slice na x.Out.length bc]∧Na μ na bc x.Out
  Gi h:=by obtain ⟨na,bc,rfl,m1⟩:=h;rfl
  up le h:=by obtain ⟨na,bc,rfl,m1⟩:=h;exact ⟨na,bc,rfl,m1.up le⟩
  Fh h:=by obtain ⟨na,bc,rfl,m1⟩:=h;rfl
structure hp where
  zi:List hs
  bl:List (List Int)
  Steps:Int
  deriving DecidableEq,Inhabited,Repr
end Go.Y
namespace Go.Y
open Go.hc Go.Mc
def Ih (t:Gd):hs:=⟨t.state,t.box,t.Le,t.out⟩
def Mx (r:Option (List Gd×List Od×Int)):Option (hp×Fe):=
  match r with
  | none=>some (⟨[],[],0⟩,⟨10,0⟩)
  | some (sa,bs,nd)=>if sa.length≤4294967295∧bs.length≤4294967295∧(bs.all fun c=>decide (c.words.length≤4294967295))=true then some (⟨sa.map Ih,bs.map Od.words,nd⟩,⟨0,0⟩) else none
def jn (fu:Nat) (l:List va):Option (hp×Fe):=
  (oq fu l).bind fun f =>
  if f.tg≠0 then some (⟨[],[],0⟩,f) else
  if l.length≤4294967295 then (BC fu l).bind Mx else none
end Go.Y
namespace Go.Y
open Go.hc Go.Mc
def IK:List UInt8:=[98,111,120,32,98,32,110,117,109,32,49,32,59,32,116,97,115,107,32,97,32,123,32,115,101,110,100,32,98,32,55,32,59,32,125,32,116,97,115,107,32,99,32,123,32,111,117,116,32,114,101,99,118,32,40,32,98,32,41,32,43,32,49,32,59,32,125]
def Yv (fu:Nat)  :Option Bool :=
  (Vx fu IK).bind fun b =>
  (jn fu b.1).bind fun a =>
  if b.2.tg=0 then
    if a.2.tg=0 then
      if (a.1.zi.length:Int)=2 then
        (at_ a.1.zi 1).bind fun c =>
        if c.State=4 then
          (at_ a.1.zi 1).bind fun d =>
          if (d.Out.length:Int)=1 then
            (at_ a.1.zi 1).bind fun e =>
            (at_ e.Out 0).bind fun f =>
            some (decide (f=8))
          else
            some false
        else
          some false
      else
        some false
    else
      some false
  else
    some false
def Ts (i55:Int) (i56:Int) (c:va) (a:Int→Int→(List Int)→Option Bool) (b:List Int):Option Bool :=
  if c.Kind=4 then
    (i64 (i55+1)).bind fun i127 =>
    (i64 (i56+1)).bind fun i129 =>
    a i127 i129 b
  else
    (i64 (i56+1)).bind fun i131 =>
    a i55 i131 b
def cq (r8:hp×Fe) (c:List Int) (i190:Int) (a:hs) (b:Int→Option Bool) (d:Bool):Option Bool :=
  if d=true then
    (i64 (i190+1)).bind fun i262 =>
    b i262
  else
    if a.State=2 then
      (at_ r8.1.bl a.yo).bind fun e =>
      (at_ c a.yo).bind fun f =>
      if (e.length:Int)≠f then
        some false
      else
        (i64 (i190+1)).bind fun i291 =>
        b i291
    else
      if a.State=3 then
        (at_ r8.1.bl a.yo).bind fun g =>
        if (g.length:Int)≠0 then
          some false
        else
          (i64 (i190+1)).bind fun i306 =>
          b i306
      else
        some false
def bn (r8:hp×Fe) (b:List Int):Nat→Int→Option Bool
  | 0,_=>none
  | n+1,i190 =>
    if i190<(r8.1.zi.length:Int) then
      (at_ r8.1.zi i190).bind fun a =>
      if a.State=4 then
        cq r8 b i190 a (bn r8 b n) (decide (a.State=4))
      else
        cq r8 b i190 a (bn r8 b n) (decide (a.State=5))
    else
      some true
def Us (r8:hp×Fe) (a:List Int) (b:Bool):Option Bool :=
  if b=true then
    some false
  else
    bn r8 a (r8.1.zi.length+1) 0
def So (p_1:List va) (r8:hp×Fe):Nat→Int→Int→(List Int)→Option Bool
  | 0,_,_,_=>none
  | n+1,i55,i56,a =>
    if i56<(p_1.length:Int) then
      (at_ p_1 i56).bind fun b =>
      if b.Kind=1 then
        (app a [b.gf]).bind fun c =>
        Ts i55 i56 b (So p_1 r8 n) c
      else
        Ts i55 i56 b (So p_1 r8 n) a
    else
      if (r8.1.zi.length:Int)≠i55 then
        Us r8 a true
      else
        if (r8.1.bl.length:Int)≠(a.length:Int) then
          Us r8 a true
        else
          Us r8 a (decide ((20000:Int)<r8.1.Steps))
def ru (fu:Nat)  (p_1:List va):Option Bool :=
  (Yv fu).bind fun a =>
  if a=true then
    (jn fu p_1).bind fun r8 =>
    if r8.2.tg≠0 then
      some (decide ((r8.1.zi.length:Int)=0))
    else
      So p_1 r8 (p_1.length+1) 0 0 []
  else
    some false
end Go.Y
