/- Texts of Md. -/
import Derived.Test.YtafjdiifkckmbaaGreatDoorCXu
set_option linter.unusedSimpArgs false
set_option linter.unusedVariables false
set_option linter.unusedSectionVars false
namespace Go.Y
open Go.Mc Go.Kf
structure Na where
  Kind:Int
  N:Int
  Name:List UInt8
  Kids:List Na
  deriving Inhabited,Repr
structure Ra where
  Kind:Int
  Name:List UInt8
  X:Na
  Body:List Ra
  sf:List Ra
  deriving Inhabited,Repr
def Zn {α:Type}(sz:Nat) (μ:M) (a:Option Addr) (c:Nat) (xs:List α) (g:Nat->List Value):Prop :=
  xs.length<=c/\c<=maxLen/\(xs=[]\/∃ b o,a=some ⟨b,o,none⟩/\∀ (i:Nat) (y:α),xs[i]?=some y->xa μ b (o+i*sz) (g i))
inductive ur (μ:M):List Value->Na->Prop where
  | mk (x:Na) (a:Option Addr) (c:Nat) (g:Nat->List Value) (h:Zn 4 μ a c x.Kids g) (k:∀ (i:Nat) (y:Na),x.Kids[i]?=some y->ur μ (g i) y) :
    ur μ [.int .i64 x.Kind,.int .i64 x.N,S x.Name,.slice a x.Kids.length c] x
theorem Zn.hx {α:Type}{sz:Nat}{μ:M}{a:Option Addr}{c:Nat}{xs:List α}{g:Nat->List Value}{R:List Value->α->Prop}(h:Zn sz μ a c xs g) (k:∀ (i:Nat) (y:α),xs[i]?=some y->R (g i) y):Ub sz R μ a c xs:=by
  refine ⟨h.1,h.2.1,?_⟩;rcases h.2.2 with h | ⟨b,o,e,f⟩
  · exact .inl h
  · exact .inr ⟨b,o,e,g,λi x d=>⟨f i x d,k i x d⟩⟩
theorem Zn.of {α:Type}{sz:Nat}{μ:M}{a:Option Addr}{c:Nat}{xs:List α}{R:List Value->α->Prop}(h:Ub sz R μ a c xs):∃ g,Zn sz μ a c xs g/\∀ (i:Nat) (y:α),xs[i]?=some y->R (g i) y:=by
  rcases h.el with e | ⟨b,o,j,g,f⟩
  · exact ⟨λ_=>[],⟨h.le,h.cap,.inl e⟩,λi y d=>by simp [e] at d⟩
  · exact ⟨g,⟨h.le,h.cap,.inr ⟨b,o,j,λi y d=>(f i y d).1⟩⟩,λi y d=>(f i y d).2⟩
theorem Zn.up {α:Type}{sz:Nat}{μ J:M}{a:Option Addr}{c:Nat}{xs:List α}{g:Nat->List Value}(h:Zn sz μ a c xs g) (l:ha μ J):Zn sz J a c xs g:=by
  refine ⟨h.1,h.2.1,?_⟩;rcases h.2.2 with h | ⟨b,o,d,e⟩
  · exact .inl h
  · exact .inr ⟨b,o,d,λi y f=>(e i y f).up l⟩
theorem ur.up {μ J:M}(l:ha μ J){cs:List Value}{x:Na}(h:ur μ cs x):ur J cs x:=by
  induction h with
  | mk x a c g h k b=>exact .mk x a c g (h.up l) b
instance:Ma Na where
  sz:=4
  pos:=by decide
  cs:=ur
  Uh h:=by cases h;rfl
  up l h:=ur.up l h
  pg h:=by cases h;rfl
theorem Na.o {μ:M}{l:List Value}{x:Na}(h:Ma.cs μ l x):∃ a c,l=[.int .i64 x.Kind,.int .i64 x.N,S x.Name,.slice a x.Kids.length c]/\ya μ a c x.Kids:=by
  have b:ur μ l x:=h;cases b with
  | mk _ a c g d k1=>exact ⟨a,c,rfl,d.hx k1⟩
theorem Na.i {μ:M}{l:List Value}{x:Na}(h:∃ a c,l=[.int .i64 x.Kind,.int .i64 x.N,S x.Name,.slice a x.Kids.length c]/\ya μ a c x.Kids):Ma.cs μ l x:=by
  obtain ⟨a,c,rfl,h⟩:=h;obtain ⟨g,h,k⟩:=Zn.of h;exact ur.mk x a c g h k
inductive hq (μ:M):List Value->Ra->Prop where
  | mk (x:Ra) (oa:Option Addr) (eb:Nat) (a2:Option Addr) (c2:Nat) (a3:Option Addr) (c3:Nat) (g2 g3:Nat->List Value) (a:ya μ oa eb x.X.Kids)
      (b:Zn 8 μ a2 c2 x.Body g2) (c:∀ (i:Nat) (y:Ra),x.Body[i]?=some y->hq μ (g2 i) y)
      (d:Zn 8 μ a3 c3 x.sf g3) (e:∀ (i:Nat) (y:Ra),x.sf[i]?=some y->hq μ (g3 i) y) :
    hq μ [.int .i64 x.Kind,S x.Name,.int .i64 x.X.Kind,.int .i64 x.X.N,S x.X.Name,.slice oa x.X.Kids.length eb,.slice a2 x.Body.length c2,.slice a3 x.sf.length c3] x
theorem hq.up {μ J:M}(l:ha μ J){cs:List Value}{x:Ra}(h:hq μ cs x):hq J cs x:=by
  induction h with
  | mk x oa eb a2 c2 a3 c3 g2 g3 a b f c g d e=>exact .mk x oa eb a2 c2 a3 c3 g2 g3 (a.up l) (b.up l) d (c.up l) e
instance:Ma Ra where
  sz:=8
  pos:=by decide
  cs:=hq
  Uh h:=by cases h;rfl
  up l h:=hq.up l h
  pg h:=by cases h;rfl
theorem Ra.o {μ:M}{l:List Value}{x:Ra}(h:Ma.cs μ l x):∃ oa eb a b c d,l=[.int .i64 x.Kind,S x.Name,.int .i64 x.X.Kind,.int .i64 x.X.N,S x.X.Name,.slice oa x.X.Kids.length eb,.slice a x.Body.length b,.slice c x.sf.length d]/\ya μ oa eb x.X.Kids/\ya μ a b x.Body/\ya μ c d x.sf:=by
  have e:hq μ l x:=h;cases e with
  | mk _ oa eb a b c d g2 g3 f g i j k=>exact ⟨oa,eb,a,b,c,d,rfl,f,g.hx i,j.hx k⟩
theorem Ra.i {μ:M}{l:List Value}{x:Ra}(h:∃ oa eb a b c d,l=[.int .i64 x.Kind,S x.Name,.int .i64 x.X.Kind,.int .i64 x.X.N,S x.X.Name,.slice oa x.X.Kids.length eb,.slice a x.Body.length b,.slice c x.sf.length d]/\ya μ oa eb x.X.Kids/\ya μ a b x.Body/\ya μ c d x.sf):Ma.cs μ l x:=by
  obtain ⟨oa,eb,a,b,c,d,rfl,g,e,f⟩:=h;obtain ⟨j,e,k⟩:=Zn.of e;obtain ⟨m,f,n⟩:=Zn.of f;exact hq.mk x oa eb a b c d j m g e k f n
structure sc where
  Kind:Int
  Text:List UInt8
  TL:Int
  xa:Int
  deriving DecidableEq,Inhabited,Repr
instance:Ma sc where
  sz:=4
  pos:=by decide
  cs μ l x:=l=[.int .i64 x.Kind,S x.Text,.int .i64 x.TL,.int .i64 x.xa]
  Uh h:=by obtain rfl:=h;rfl
  up le h:=by exact h
  pg h:=by obtain rfl:=h;rfl
structure Nd where
  De:Int
  xa:Int
  deriving DecidableEq,Inhabited,Repr
structure Sa where
  Kind:Int
  Pc:List UInt8
  deriving DecidableEq,Inhabited,Repr
instance:Ma Sa where
  sz:=2
  pos:=by decide
  cs μ l x:=l=[.int .i64 x.Kind,S x.Pc]
  Uh h:=by obtain rfl:=h;rfl
  up le h:=by exact h
  pg h:=by obtain rfl:=h;rfl
structure TParam where
  Name:List UInt8
  Ob:Sa
  deriving DecidableEq,Inhabited,Repr
instance:Ma TParam where
  sz:=3
  pos:=by decide
  cs μ l x:=l=[S x.Name,.int .i64 x.Ob.Kind,S x.Ob.Pc]
  Uh h:=by obtain rfl:=h;rfl
  up le h:=by exact h
  pg h:=by obtain rfl:=h;rfl
structure va where
  Kind:Int
  Name:List UInt8
  Ob:Sa
  Yd:Sa
  cg:Int
  Params:List TParam
  Body:List Ra
  deriving Inhabited,Repr
instance:Ma va where
  sz:=9
  pos:=by decide
  cs μ l x:=∃ oa eb a2 c2,l=[.int .i64 x.Kind,S x.Name,.int .i64 x.Ob.Kind,S x.Ob.Pc,.int .i64 x.Yd.Kind,S x.Yd.Pc,.int .i64 x.cg,.slice oa x.Params.length eb,.slice a2 x.Body.length c2]/\ya μ oa eb x.Params/\ya μ a2 c2 x.Body
  Uh h:=by obtain ⟨oa,eb,a2,c2,rfl,m1,m2⟩:=h;rfl
  up le h:=by obtain ⟨oa,eb,a2,c2,rfl,m1,m2⟩:=h;exact ⟨oa,eb,a2,c2,rfl,m1.up le,m2.up le⟩
  pg h:=by obtain ⟨oa,eb,a2,c2,rfl,m1,m2⟩:=h;rfl
theorem va.i {μ:M}{l:List Value}{x:va}(h:∃ oa eb a b,l=[.int .i64 x.Kind,S x.Name,.int .i64 x.Ob.Kind,S x.Ob.Pc,.int .i64 x.Yd.Kind,S x.Yd.Pc,.int .i64 x.cg,.slice oa x.Params.length eb,.slice a x.Body.length b]/\ya μ oa eb x.Params/\ya μ a b x.Body):Ma.cs μ l x:=h
structure fi where
  Bl:List UInt8
  Writer:List UInt8
  Reader:List UInt8
  deriving DecidableEq,Inhabited,Repr
instance:Ma fi where
  sz:=3
  pos:=by decide
  cs μ l x:=l=[S x.Bl,S x.Writer,S x.Reader]
  Uh h:=by obtain rfl:=h;rfl
  up le h:=by exact h
  pg h:=by obtain rfl:=h;rfl
instance:Lh Sa:=⟨tu,tu.up⟩
instance:Lh va:=⟨Ie,Ie.up⟩
structure mb where
  defs:List va
  named:List (List UInt8×va)
  deriving Inhabited,Repr
structure rf where
  calls:List (List UInt8)
  Tk:List (List UInt8)
  vk:List (List UInt8)
  deriving DecidableEq,Inhabited,Repr
instance:Ma rf where
  sz:=3
  pos:=by decide
  cs μ l x:=∃ oa eb a2 c2 a3 c3,l=[.slice oa x.calls.length eb,.slice a2 x.Tk.length c2,.slice a3 x.vk.length c3]/\ya μ oa eb x.calls/\ya μ a2 c2 x.Tk/\ya μ a3 c3 x.vk
  Uh h:=by obtain ⟨oa,eb,a2,c2,a3,c3,rfl,m1,m2,m3⟩:=h;rfl
  up le h:=by obtain ⟨oa,eb,a2,c2,a3,c3,rfl,m1,m2,m3⟩:=h;exact ⟨oa,eb,a2,c2,a3,c3,rfl,m1.up le,m2.up le,m3.up le⟩
  pg h:=by obtain ⟨oa,eb,a2,c2,a3,c3,rfl,m1,m2,m3⟩:=h;rfl
theorem rf.i {μ:M}{l:List Value}{x:rf}(h:∃ oa eb a b c d,l=[.slice oa x.calls.length eb,.slice a x.Tk.length b,.slice c x.vk.length d]/\ya μ oa eb x.calls/\ya μ a b x.Tk/\ya μ c d x.vk):Ma.cs μ l x:=h
structure oi where
  xy:List (List UInt8×Int)
  once:Bool
  deriving DecidableEq,Inhabited,Repr
instance:Ma oi where
  sz:=2
  pos:=by decide
  cs μ l x:=∃ ka,l=[.map (some ka),.bool x.once]/\Vf μ ka x.xy
  Uh h:=by obtain ⟨ka,rfl,m1⟩:=h;rfl
  up le h:=by obtain ⟨ka,rfl,m1⟩:=h;exact ⟨ka,rfl,m1.up le⟩
  pg h:=by obtain ⟨ka,rfl,m1⟩:=h;rfl
theorem oi.i {μ:M}{l:List Value}{x:oi}(h:∃ ka,l=[.map (some ka),.bool x.once]/\Vf μ ka x.xy):Ma.cs μ l x:=h
structure Mj where
  boxes:List (List UInt8×Int)
  Bw:List (List UInt8×Int)
  defs:List (List UInt8×va)
  deriving Inhabited,Repr
instance:Lh rf:=⟨tu,tu.up⟩
structure Gm where
  Ob:Int
  cg:Int
  deriving DecidableEq,Inhabited,Repr
instance:Ma Gm where
  sz:=2
  pos:=by decide
  cs μ l x:=l=[.int .i64 x.Ob,.int .i64 x.cg]
  Uh h:=by obtain rfl:=h;rfl
  up le h:=by exact h
  pg h:=by obtain rfl:=h;rfl
structure te where
  Op:Int
  A:Int
  N:Int
  deriving DecidableEq,Inhabited,Repr
instance:Ma te where
  sz:=3
  pos:=by decide
  cs μ l x:=l=[.int .i64 x.Op,.int .i64 x.A,.int .i64 x.N]
  Uh h:=by obtain rfl:=h;rfl
  up le h:=by exact h
  pg h:=by obtain rfl:=h;rfl
structure Zi where
  Kind:Int
  Params:Int
  mj:List Int
  Result:Int
  Yd:Int
  Code:List te
  deriving DecidableEq,Inhabited,Repr
instance:Ma Zi where
  sz:=6
  pos:=by decide
  cs μ l x:=∃ oa eb a2 c2,l=[.int .i64 x.Kind,.int .i64 x.Params,.slice oa x.mj.length eb,.int .i64 x.Result,.int .i64 x.Yd,.slice a2 x.Code.length c2]/\ya μ oa eb x.mj/\ya μ a2 c2 x.Code
  Uh h:=by obtain ⟨oa,eb,a2,c2,rfl,m1,m2⟩:=h;rfl
  up le h:=by obtain ⟨oa,eb,a2,c2,rfl,m1,m2⟩:=h;exact ⟨oa,eb,a2,c2,rfl,m1.up le,m2.up le⟩
  pg h:=by obtain ⟨oa,eb,a2,c2,rfl,m1,m2⟩:=h;rfl
theorem Zi.i {μ:M}{l:List Value}{x:Zi}(h:∃ oa eb a b,l=[.int .i64 x.Kind,.int .i64 x.Params,.slice oa x.mj.length eb,.int .i64 x.Result,.int .i64 x.Yd,.slice a x.Code.length b]/\ya μ oa eb x.mj/\ya μ a b x.Code):Ma.cs μ l x:=h
structure Be where
  Yc:List Gm
  ef:List Zi
  deriving DecidableEq,Inhabited,Repr
instance:Ma Be where
  sz:=2
  pos:=by decide
  cs μ l x:=∃ oa eb a2 c2,l=[.slice oa x.Yc.length eb,.slice a2 x.ef.length c2]/\ya μ oa eb x.Yc/\ya μ a2 c2 x.ef
  Uh h:=by obtain ⟨oa,eb,a2,c2,rfl,m1,m2⟩:=h;rfl
  up le h:=by obtain ⟨oa,eb,a2,c2,rfl,m1,m2⟩:=h;exact ⟨oa,eb,a2,c2,rfl,m1.up le,m2.up le⟩
  pg h:=by obtain ⟨oa,eb,a2,c2,rfl,m1,m2⟩:=h;rfl
theorem Be.i {μ:M}{l:List Value}{x:Be}(h:∃ oa eb a b,l=[.slice oa x.Yc.length eb,.slice a x.ef.length b]/\ya μ oa eb x.Yc/\ya μ a b x.ef):Ma.cs μ l x:=h
structure fj where
  De:Int
  Unit:Int
  xa:Int
  deriving DecidableEq,Inhabited,Repr
structure zg where
  stack:List Int
  has:List Bool
  deriving DecidableEq,Inhabited,Repr
structure ug where
  m:Option Be
  deriving DecidableEq,Inhabited,Repr
instance:Ma ug where
  sz:=1
  pos:=by decide
  cs μ l x:=∃ v1,l=[v1]/\Df μ v1 x.m
  Uh h:=by obtain ⟨v1,rfl,m1⟩:=h;rfl
  up le h:=by obtain ⟨v1,rfl,m1⟩:=h;exact ⟨v1,rfl,m1.up le⟩
  pg h:=by obtain ⟨v1,rfl,m1⟩:=h;simp [m1.ee]
theorem ug.i {μ:M}{l:List Value}{x:ug}(h:∃ a,l=[a]/\Df μ a x.m):Ma.cs μ l x:=h
def cW:List UInt8:=[32,98,111,120,32,102,110,32,103,101,110,32,116,97,115,107,32,116,97,107,101,115,32,121,105,101,108,100,115,32,108,101,116,32,105,102,32,101,108,115,101,32,119,104,105,108,101,32,114,101,116,117,114,110,32,115,116,111,112,32,115,101,110,100,32,111,117,116,32,100,111,32,114,101,99,118,32,121,105,101,108,100,32,115,116,97,114,116,32,114,101,115,117,109,101,32,97,108,105,118,101,32,110,117,109,32,98,111,111,108,32,116,114,117,101,32,102,97,108,115,101,32,97,110,100,32,111,114,32,110,111,116,32]
def Zs  (p_1:UInt8):Option Bool :=
  if (97:Int)<=(p_1.toNat:Int) then
    if (p_1.toNat:Int)<=122 then
      some true
    else
      some (decide ((p_1.toNat:Int)=95))
  else
    some (decide ((p_1.toNat:Int)=95))
def et  (p_1:UInt8):Option Bool :=
  if (48:Int)<=(p_1.toNat:Int) then
    some (decide ((p_1.toNat:Int)<=57))
  else
    some false
def Qs (a:Int) (b:Int->Option Int) (Vg:Bool):Option Int :=
  if Vg=true then
    (i64 (a+1)).bind λc =>
    b c
  else
    some a
def En (p_1:List UInt8) (p_2:UInt8->Option Bool):Nat->Int->Option Int
  | 0,_=>none
  | n+1,i13 =>
    if i13<(p_1.length:Int) then
      (at_ p_1 i13).bind λa =>
      (p_2 a).bind λb =>
      Qs i13 (En p_1 p_2 n) b
    else
      Qs i13 (En p_1 p_2 n) false
def Hu (fu:Nat)  (p_1:List UInt8) (p_2:UInt8->Option Bool):Option Int :=
  En p_1 p_2 fu 0
def cG  (p_1:UInt8):Option Bool :=
  (Zs p_1).bind λa =>
  if a=true then
    some true
  else
    (et p_1).bind λb =>
    some b
def Kt  (p_1:UInt8):Option Bool :=
  (Zs p_1).bind λa =>
  if a=true then
    some true
  else
    (et p_1).bind λb =>
    some b
def Uo (fu:Nat) (p_1:List UInt8) (ka:Bool):Option Bool :=
  if ka=true then
    some false
  else
    (Hu fu p_1 Kt).bind λa =>
    some (decide (a=(p_1.length:Int)))
def qi (fu:Nat)  (p_1:List UInt8):Option Bool :=
  if (p_1.length:Int)<1 then
    Uo fu p_1 true
  else
    if (12:Int)<(p_1.length:Int) then
      Uo fu p_1 true
    else
      (at_ p_1 0).bind λa =>
      (Zs a).bind λb =>
      if b=true then
        (cat [32] p_1).bind λc =>
        (cat c [32]).bind λd =>
        (rB cW d).bind λe =>
        Uo fu p_1 e
      else
        Uo fu p_1 true
def CF  (p_1:List UInt8) (p_2:List UInt8):Option Bool :=
  if (p_2.length:Int)<=(p_1.length:Int) then
    (cut p_1 0 (p_2.length:Int)).bind λa =>
    some (decide (a=p_2))
  else
    some false
def dG  (p_1:List UInt8) (p_2:List UInt8):Option Bool :=
  (CF p_1 p_2).bind λa =>
  some a
def aA (p_1:List UInt8):Nat->Int->Option (List UInt8)
  | 0,_=>none
  | n+1,i18 =>
    if i18<18 then
      (at_ [[61,61],[33,61],[60,61],[62,61],[60],[62],[61],[43],[45],[42],[47],[37],[40],[41],[123],[125],[44],[59]] i18).bind λa =>
      (dG p_1 a).bind λb =>
      if b=true then
        some a
      else
        (i64 (i18+1)).bind λc =>
        aA p_1 n c
    else
      none
def XE  (p_1:List UInt8):Option (List UInt8):=
  aA p_1 19 0
def Jz (a:Int) (b:UInt8) (c:Int->Option Int) (d:Bool):Option Int :=
  if d=true then
    (i64 (a+1)).bind λe =>
    c e
  else
    if (b.toNat:Int)=35 then
      none
    else
      some a
def Pv (p_1:List UInt8):Nat->Int->Option Int
  | 0,_=>none
  | n+1,i6 =>
    if i6<(p_1.length:Int) then
      (at_ p_1 i6).bind λa =>
      if (a.toNat:Int)=32 then
        Jz i6 a (Pv p_1 n) (decide ((a.toNat:Int)=32))
      else
        if (a.toNat:Int)=9 then
          none
        else
          Jz i6 a (Pv p_1 n) (decide ((a.toNat:Int)=10))
    else
      some i6
def EA (fu:Nat)  (p_1:List UInt8):Option Int :=
  Pv p_1 fu 0
def Bx (fu:Nat) (p_1:List UInt8) (a:Int) (d:List sc) (e:Int->(List sc)->Option (List sc×Nd)) (f:Int) (b:List UInt8) (g:Int):Option (List sc×Nd):=
  (app d [(sc.mk f b g a)]).bind λh =>
  (i64 (a+(b.length:Int))).bind λc =>
  (cut p_1 c p_1.length).bind λi =>
  (EA fu i).bind λj =>
  (i64 (c+j)).bind λk =>
  e k h
def xu (fu:Nat) (p_1:List UInt8):Nat->Int->(List sc)->Option (List sc×Nd)
  | 0,_,_=>none
  | n+1,i58,b =>
    if i58<(p_1.length:Int) then
      (cut p_1 i58 p_1.length).bind λa =>
      (at_ a 0).bind λd =>
      (Zs d).bind λf =>
      if f=true then
        (Hu fu a cG).bind λg =>
        (cut a 0 g).bind λh =>
        Bx fu p_1 i58 b (xu fu p_1 n) 1 h 0
      else
        (et d).bind λi =>
        if i=true then
          (Hu fu a et).bind λj =>
          (cut a 0 j).bind λc =>
          if (15:Int)<(c.length:Int) then
            none
          else
            (EG c).bind λk =>
            Bx fu p_1 i58 b (xu fu p_1 n) 2 c k
        else
          (XE a).bind λe =>
          if e=[] then
            none
          else
            Bx fu p_1 i58 b (xu fu p_1 n) 3 e 0
    else
      some (b,(Nd.mk 0 0))
def oD (fu:Nat)  (p_1:List UInt8):Option (List sc×Nd):=
  if (6000:Int)<(p_1.length:Int) then
    none
  else
    (EA fu p_1).bind λa =>
    xu fu p_1 fu a []
def Kz  (rh:Bool):Option Int :=
  if rh=true then
    some 2
  else
    some (-1)
def Qv (p_1:Int) (Lf:Bool):Option Int :=
  if Lf=true then
    some 1
  else
    if p_1<=18 then
      Kz true
    else
      Kz (decide (p_1=23))
def Jx (p_1:Int) (ka:Bool):Option Int :=
  if ka=true then
    some 0
  else
    if p_1<=5 then
      Qv p_1 true
    else
      if p_1=21 then
        Qv p_1 true
      else
        Qv p_1 (decide (p_1=24))
def dy  (p_1:Int):Option Int :=
  if p_1<=3 then
    Jx p_1 true
  else
    Jx p_1 (decide (p_1=20))
def Lz (a:Int) (Lf:Bool):Option (Int×Int):=
  if Lf=true then
    some (4,a)
  else
    some (0,a)
def Iu  (b:Int) (p_2:Int):Option (Int×Int):=
  (i64 (b+1)).bind λa =>
  if (2000:Int)<a then
    Lz a true
  else
    Lz a (decide ((40:Int)<p_2))
def Tx  (ie:Bool):Option Int :=
  if ie=true then
    some 7
  else
    some 0
def Eu (fu:Nat) (p_1:Sa) (Ua:Bool):Option Int :=
  if Ua=true then
    some 1
  else
    if p_1.Kind=3 then
      (qi fu p_1.Pc).bind λa =>
      Tx (!a)
    else
      Tx false
def sr (fu:Nat)  (p_1:Sa):Option Int :=
  if p_1.Kind<1 then
    Eu fu p_1 true
  else
    Eu fu p_1 (decide ((3:Int)<p_1.Kind))
structure qo where
  Jj:Int->Na->Int->Option (Int×Int)
def Nl (self:qo) (p_2:Na) (p_3:Int):Nat->Int->Int->Option (Int×Int)
  | 0,_,_=>none
  | n+1,i72,i73 =>
    if i72<(p_2.Kids.length:Int) then
      (at_ p_2.Kids i72).bind λb =>
      (i64 (p_3+1)).bind λc =>
      (self.Jj i73 b c).bind λa =>
      if a.1≠0 then
        some (a.1,a.2)
      else
        (i64 (i72+1)).bind λd =>
        Nl self p_2 p_3 n d a.2
    else
      some (0,i73)
def hr (self:qo) (p_2:Na) (p_3:Int) (a:Int×Int) (b:Bool):Option (Int×Int):=
  if b=true then
    some (5,a.2)
  else
    Nl self p_2 p_3 (p_2.Kids.length+1) 0 a.2
def ir (self:qo) (p_2:Na) (p_3:Int) (a:Int×Int) (c:Int) (b:Bool):Option (Int×Int):=
  if b=true then
    hr self p_2 p_3 a b
  else
    if c<0 then
      hr self p_2 p_3 a (decide ((6:Int)<(p_2.Kids.length:Int)))
    else
      hr self p_2 p_3 a false
def Yo (self:qo) (p_2:Na) (p_3:Int) (b:Int×Int) (a:Int) (c:Bool):Option (Int×Int):=
  if c=true then
    some (7,b.2)
  else
    if (0:Int)<=a then
      ir self p_2 p_3 b a (decide ((p_2.Kids.length:Int)≠a))
    else
      ir self p_2 p_3 b a false
def Tp (fu:Nat) (self:qo) (p_2:Na) (p_3:Int) (a:Int×Int) (b:Int) (Vg:Bool):Option (Int×Int):=
  if Vg=true then
    some (3,a.2)
  else
    if p_2.Kind=3 then
      (qi fu p_2.Name).bind λc =>
      Yo self p_2 p_3 a b (!c)
    else
      if p_2.Kind=20 then
        (qi fu p_2.Name).bind λd =>
        Yo self p_2 p_3 a b (!d)
      else
        if b<0 then
          (qi fu p_2.Name).bind λe =>
          Yo self p_2 p_3 a b (!e)
        else
          Yo self p_2 p_3 a b false
def jr (fu:Nat) (self:qo) (p_2:Na) (p_3:Int) (a:Int×Int) (b:Int) (c:Bool):Option (Int×Int):=
  if c=true then
    Tp fu self p_2 p_3 a b c
  else
    if p_2.Kind=2 then
      if p_2.N≠0 then
        Tp fu self p_2 p_3 a b (decide (p_2.N≠1))
      else
        Tp fu self p_2 p_3 a b false
    else
      Tp fu self p_2 p_3 a b false
def mo (fu:Nat) (self:qo) (p_2:Na) (p_3:Int) (a:Int×Int) (Fg:Bool):Option (Int×Int):=
  if Fg=true then
    some (1,a.2)
  else
    (dy p_2.Kind).bind λb =>
    if p_2.Kind=1 then
      if p_2.N<0 then
        jr fu self p_2 p_3 a b true
      else
        jr fu self p_2 p_3 a b (decide ((999999999999999:Int)<p_2.N))
    else
      jr fu self p_2 p_3 a b false
def Jj (fu:Nat) (self:qo) (b:Int) (p_2:Na) (p_3:Int):Option (Int×Int):=
  (Iu b p_3).bind λa =>
  if a.1≠0 then
    some (a.1,a.2)
  else
    if p_2.Kind<1 then
      mo fu self p_2 p_3 a true
    else
      mo fu self p_2 p_3 a (decide ((24:Int)<p_2.Kind))
def Ij:Nat->qo
  | 0=>⟨λ_ _ _=>none⟩
  | n+1=>⟨Jj n (Ij n)⟩
structure so where
  Bh:Int->(List Ra)->Int->Option (Int×Int)
  jl:Int->Ra->Int->Option (Int×Int)
def Fs (self:so) (p_2:List Ra) (p_3:Int):Nat->Int->Int->Option (Int×Int)
  | 0,_,_=>none
  | n+1,i29,i30 =>
    if i29<(p_2.length:Int) then
      (at_ p_2 i29).bind λb =>
      (self.jl i30 b p_3).bind λa =>
      if a.1≠0 then
        some (a.1,a.2)
      else
        (i64 (i29+1)).bind λc =>
        Fs self p_2 p_3 n c a.2
    else
      some (0,i30)
def Bh (self:so) (a:Int) (p_2:List Ra) (p_3:Int):Option (Int×Int):=
  if (50:Int)<(p_2.length:Int) then
    some (5,a)
  else
    Fs self p_2 p_3 (p_2.length+1) 0 a
def Rs (self:so) (p_2:Ra) (p_3:Int) (a:Int):Option (Int×Int):=
  if p_2.Kind=3 then
    (i64 (p_3+1)).bind λc =>
    (self.Bh a p_2.sf c).bind λb =>
    some (b.1,b.2)
  else
    some (0,a)
def Ss (self:so) (p_2:Ra) (p_3:Int) (b:Int×Int) (c:Bool):Option (Int×Int):=
  if c=true then
    (i64 (p_3+1)).bind λd =>
    (self.Bh b.2 p_2.Body d).bind λa =>
    if a.1≠0 then
      some (a.1,a.2)
    else
      Rs self p_2 p_3 a.2
  else
    Rs self p_2 p_3 b.2
def Zo (fu:Nat) (self:so) (p_2:Ra) (p_3:Int) (b:Int×Int) (c:Bool):Option (Int×Int):=
  if c=true then
    some (7,b.2)
  else
    if p_2.Kind=6 then
      some (0,b.2)
    else
      (i64 (p_3+1)).bind λd =>
      ((Ij fu).Jj b.2 p_2.X d).bind λa =>
      if a.1≠0 then
        some (a.1,a.2)
      else
        if p_2.Kind=3 then
          Ss self p_2 p_3 a true
        else
          Ss self p_2 p_3 a (decide (p_2.Kind=4))
def Up (fu:Nat) (self:so) (p_2:Ra) (p_3:Int) (a:Int×Int) (ng:Bool):Option (Int×Int):=
  if ng=true then
    some (1,a.2)
  else
    if p_2.Kind=1 then
      (qi fu p_2.Name).bind λb =>
      Zo fu self p_2 p_3 a (!b)
    else
      if p_2.Kind=2 then
        (qi fu p_2.Name).bind λc =>
        Zo fu self p_2 p_3 a (!c)
      else
        if p_2.Kind=7 then
          (qi fu p_2.Name).bind λd =>
          Zo fu self p_2 p_3 a (!d)
        else
          Zo fu self p_2 p_3 a false
def jl (fu:Nat) (self:so) (b:Int) (p_2:Ra) (p_3:Int):Option (Int×Int):=
  (Iu b p_3).bind λa =>
  if a.1≠0 then
    some (a.1,a.2)
  else
    if p_2.Kind<1 then
      Up fu self p_2 p_3 a true
    else
      Up fu self p_2 p_3 a (decide ((9:Int)<p_2.Kind))
def Aj:Nat->so
  | 0=>⟨λ_ _ _=>none,λ_ _ _=>none⟩
  | n+1=>⟨Bh (Aj n),jl n (Aj n)⟩
def Vv (Ue:Int×Int) (a:Bool):Option (Int×Int):=
  if a=true then
    some (3,Ue.2)
  else
    some (0,Ue.2)
def Us (fu:Nat) (p_2:va) (Ue:Int×Int):Option (Int×Int):=
  if p_2.Kind≠1 then
    ((Aj fu).Bh Ue.2 p_2.Body 2).bind λa =>
    some (a.1,a.2)
  else
    if p_2.cg<1 then
      Vv Ue true
    else
      Vv Ue (decide ((20:Int)<p_2.cg))
def Vs (fu:Nat) (p_2:va) (Ue:Int×Int):Option (Int×Int):=
  if p_2.Kind≠4 then
    (sr fu p_2.Ob).bind λa =>
    if a≠0 then
      some (a,Ue.2)
    else
      Us fu p_2 Ue
  else
    Us fu p_2 Ue
def Wp (fu:Nat) (p_2:va) (Ue:Int×Int):Option (Int×Int):=
  if p_2.Kind=3 then
    (sr fu p_2.Yd).bind λa =>
    if a≠0 then
      some (a,Ue.2)
    else
      Vs fu p_2 Ue
  else
    Vs fu p_2 Ue
def Ws (fu:Nat) (p_2:va) (Ue:Int×Int):Nat->Int->Option (Int×Int)
  | 0,_=>none
  | n+1,i47 =>
    if i47<(p_2.Params.length:Int) then
      (at_ p_2.Params i47).bind λa =>
      (qi fu a.Name).bind λc =>
      if c=true then
        (sr fu a.Ob).bind λb =>
        if b≠0 then
          some (b,Ue.2)
        else
          (i64 (i47+1)).bind λd =>
          Ws fu p_2 Ue n d
      else
        some (7,Ue.2)
    else
      Wp fu p_2 Ue
def Xs (fu:Nat) (p_2:va) (Ue:Int×Int) (Vg:Bool):Option (Int×Int):=
  if Vg=true then
    if (6:Int)<(p_2.Params.length:Int) then
      some (5,Ue.2)
    else
      Ws fu p_2 Ue (p_2.Params.length+1) 0
  else
    Wp fu p_2 Ue
def Xp (fu:Nat) (p_2:va) (Ue:Int×Int) (a:Bool):Option (Int×Int):=
  if a=true then
    some (1,Ue.2)
  else
    (qi fu p_2.Name).bind λb =>
    if b=true then
      if p_2.Kind=2 then
        Xs fu p_2 Ue true
      else
        Xs fu p_2 Ue (decide (p_2.Kind=3))
    else
      some (7,Ue.2)
def Nu (fu:Nat)  (a:Int) (p_2:va):Option (Int×Int):=
  (Iu a 1).bind λUe =>
  if Ue.1≠0 then
    some (Ue.1,Ue.2)
  else
    if p_2.Kind<1 then
      Xp fu p_2 Ue true
    else
      Xp fu p_2 Ue (decide ((4:Int)<p_2.Kind))
def Gs (fu:Nat) (p_1:List va):Nat->Int->Int->Option Nd
  | 0,_,_=>none
  | n+1,i28,i29 =>
    if i28<(p_1.length:Int) then
      (at_ p_1 i28).bind λb =>
      (Nu fu i29 b).bind λa =>
      if a.1≠0 then
        some (Nd.mk a.1 i28)
      else
        (i64 (i28+1)).bind λc =>
        Gs fu p_1 n c a.2
    else
      some (Nd.mk 0 0)
def bt (fu:Nat)  (p_1:List va):Option Nd :=
  if (30:Int)<(p_1.length:Int) then
    some (Nd.mk 5 0)
  else
    Gs fu p_1 (p_1.length+1) 0 0
def MB  (a:List sc) (c:Int) (d:Int):Option Int :=
  if (a.length:Int)=0 then
    none
  else
    (at_ a 0).bind λb =>
    some b.xa
def vr  (a:List sc) (c:Int) (d:Int) (p_2:List UInt8):Option Bool :=
  if (0:Int)<(a.length:Int) then
    (at_ a 0).bind λb =>
    some (decide (b.Text=p_2))
  else
    none
def Rh  (a:List sc) (b:Int) (c:Int) (p_2:List UInt8):Option (Bool×List sc×Int×Int):=
  (vr a b c p_2).bind λd =>
  if d=true then
    (cut a 1 a.length).bind λe =>
    some (true,e,b,c)
  else
    some (false,a,b,c)
def mA (p_2:List (List UInt8)):Nat->Int->(List sc)->Int->Int->Option (List sc×Int×Int)
  | 0,_,_,_,_=>none
  | n+1,i30,b,i35,i36 =>
    if i30<(p_2.length:Int) then
      (at_ p_2 i30).bind λc =>
      (Rh b i35 i36 c).bind λa =>
      if a.1=true then
        (i64 (i30+1)).bind λd =>
        mA p_2 n d a.2.1 a.2.2.1 a.2.2.2
      else
        none
    else
      some (b,i35,i36)
def Tu  (a:List sc) (b:Int) (c:Int) (p_2:List (List UInt8)):Option (List sc×Int×Int):=
  mA p_2 (p_2.length+1) 0 a b c
def tw (fu:Nat)  (a:List sc) (c:Int) (d:Int):Option (List UInt8×List sc×Int×Int):=
  if (a.length:Int)=0 then
    none
  else
    (at_ a 0).bind λe =>
    if e.Kind≠1 then
      none
    else
      (at_ a 0).bind λb =>
      (qi fu b.Text).bind λf =>
      if f=true then
        (cut a 1 a.length).bind λg =>
        some (b.Text,g,c,d)
      else
        none
def FA  (a:List sc) (b:Int) (c:Int):Option (Int×List sc×Int×Int):=
  if (a.length:Int)=0 then
    none
  else
    (at_ a 0).bind λd =>
    if d.Kind≠2 then
      none
    else
      (at_ a 0).bind λe =>
      (cut a 1 a.length).bind λf =>
      some (e.TL,f,b,c)
def eG  (b:List sc) (c:Int) (d:Int):Option (Sa×List sc×Int×Int):=
  (Rh b c d [110,117,109]).bind λa =>
  if a.1=true then
    some ((Sa.mk 1 []),a.2.1,a.2.2.1,a.2.2.2)
  else
    none
def lE  :Option (List oi):=
  some [(oi.mk (kd ([]:List (List UInt8×Int)) [111,114] 18) false),(oi.mk (kd ([]:List (List UInt8×Int)) [97,110,100] 17) false),(oi.mk (kd (kd (kd (kd (kd (kd ([]:List (List UInt8×Int)) [61,61] 11) [33,61] 12) [60] 13) [60,61] 14) [62] 15) [62,61] 16) true),(oi.mk (kd (kd ([]:List (List UInt8×Int)) [43] 6) [45] 7) false),(oi.mk (kd (kd (kd ([]:List (List UInt8×Int)) [42] 8) [47] 9) [37] 10) false)]
def dB  (b:List sc) (c:Int) (d:Int):Option (List sc×Int×Int):=
  (i64 (d+1)).bind λa =>
  if (200:Int)<a then
    none
  else
    some (b,c,a)
def sB  (a:List sc) (b:Int) (c:Int):Option (List sc×Int×Int):=
  (i64 (c - 1)).bind λd =>
  some (a,b,d)
structure Ap where
  iq:(List sc)->Int->Int->Option (Na×List sc×Int×Int)
  uo:(List sc)->Int->Int->Int->Option (Na×List sc×Int×Int)
  pt:(List sc)->Int->Int->Option (Na×List sc×Int×Int)
  kr:(List sc)->Int->Int->Option (Na×List sc×Int×Int)
def iq (self:Ap) (d:List sc) (e:Int) (f:Int):Option (Na×List sc×Int×Int):=
  (dB d e f).bind λb =>
  (self.uo b.1 b.2.1 b.2.2 0).bind λa =>
  (sB a.2.1 a.2.2.1 a.2.2.2).bind λc =>
  some (a.1,c.1,c.2.1,c.2.2)
def pD (p_2:Int) (a:List oi) (b:oi) (c:sc) (d:(List sc)->Int->Int->Int->Int->(List UInt8)->(List Na)->Option (Na×List sc×Int×Int)) (e:List sc) (f:Int) (g:Int) (h:List Na):Option (Na×List sc×Int×Int):=
  (at_ a p_2).bind λi =>
  if i.once=true then
    none
  else
    d e f g ((Oa b.xy c.Text).getD 0) 0 [] h
def Ux (self:Ap) (p_2:Int) (c:List oi):Nat->(List sc)->Int->Int->Int->Int->(List UInt8)->(List Na)->Option (Na×List sc×Int×Int)
  | 0,_,_,_,_,_,_,_=>none
  | n+1,a,i103,i104,i105,i106,d,e =>
    if (0:Int)<(a.length:Int) then
      (at_ c p_2).bind λf =>
      (at_ a 0).bind λg =>
      if ((Oa f.xy g.Text).getD 0)=0 then
        some ((Na.mk i105 i106 d e),a,i103,i104)
      else
        (cut a 1 a.length).bind λh =>
        (i64 (p_2+1)).bind λi =>
        (self.uo h i103 i104 i).bind λb =>
        pD p_2 c f g (Ux self p_2 c n) b.2.1 b.2.2.1 b.2.2.2 [(Na.mk i105 i106 d e),b.1]
    else
      none
def uo (fu:Nat) (self:Ap) (c:List sc) (d:Int) (e:Int) (p_2:Int):Option (Na×List sc×Int×Int):=
  (lE ).bind λf =>
  if p_2=(f.length:Int) then
    (self.pt c d e).bind λb =>
    some (b.1,b.2.1,b.2.2.1,b.2.2.2)
  else
    (i64 (p_2+1)).bind λg =>
    (self.uo c d e g).bind λa =>
    Ux self p_2 f fu a.2.1 a.2.2.1 a.2.2.2 a.1.Kind a.1.N a.1.Name a.1.Kids
def pt (self:Ap) (d:List sc) (e:Int) (f:Int):Option (Na×List sc×Int×Int):=
  (Rh d e f [45]).bind λa =>
  if a.1=true then
    none
  else
    (Rh a.2.1 a.2.2.1 a.2.2.2 [110,111,116]).bind λb =>
    if b.1=true then
      none
    else
      (self.kr b.2.1 b.2.2.1 b.2.2.2).bind λc =>
      some (c.1,c.2.1,c.2.2.1,c.2.2.2)
def kr (fu:Nat) (self:Ap) (a:List sc) (j:Int) (k:Int):Option (Na×List sc×Int×Int):=
  if (0:Int)<(a.length:Int) then
    (at_ a 0).bind λl =>
    if l.Kind=2 then
      (FA a j k).bind λb =>
      some ((Na.mk 1 b.1 [] ([]:List Na)),b.2.1,b.2.2.1,b.2.2.2)
    else
      (Rh a j k [116,114,117,101]).bind λc =>
      if c.1=true then
        none
      else
        (Rh c.2.1 c.2.2.1 c.2.2.2 [102,97,108,115,101]).bind λd =>
        if d.1=true then
          none
        else
          (Rh d.2.1 d.2.2.1 d.2.2.2 [40]).bind λe =>
          if e.1=true then
            none
          else
            (Rh e.2.1 e.2.2.1 e.2.2.2 [114,101,99,118]).bind λf =>
            if f.1=true then
              (Tu f.2.1 f.2.2.1 f.2.2.2 [[40]]).bind λh =>
              (tw fu h.1 h.2.1 h.2.2).bind λg =>
              (Tu g.2.1 g.2.2.1 g.2.2.2 [[41]]).bind λi =>
              some ((Na.mk 20 0 g.1 ([]:List Na)),i.1,i.2.1,i.2.2)
            else
              none
  else
    none
def Ju:Nat->Ap
  | 0=>⟨λ_ _ _=>none,λ_ _ _ _=>none,λ_ _ _=>none,λ_ _ _=>none⟩
  | n+1=>⟨iq (Ju n),uo n (Ju n),pt (Ju n),kr n (Ju n)⟩
structure ev where
  yt:(List sc)->Int->Int->Option (List Ra×List sc×Int×Int)
  zt:(List sc)->Int->Int->Option (Ra×List sc×Int×Int)
def nA (self:ev):Nat->(List sc)->Int->Int->(List Ra)->Option (List Ra×List sc×Int×Int)
  | 0,_,_,_,_=>none
  | n+1,e,i65,i66,c =>
    (Rh e i65 i66 [125]).bind λa =>
    if a.1=true then
      (sB a.2.1 a.2.2.1 a.2.2.2).bind λd =>
      some (c,d.1,d.2.1,d.2.2)
    else
      if (c.length:Int)=50 then
        none
      else
        (self.zt a.2.1 a.2.2.1 a.2.2.2).bind λb =>
        (app c [b.1]).bind λf =>
        nA self n b.2.1 b.2.2.1 b.2.2.2 f
def yt (fu:Nat) (self:ev) (c:List sc) (d:Int) (e:Int):Option (List Ra×List sc×Int×Int):=
  (dB c d e).bind λa =>
  (Tu a.1 a.2.1 a.2.2 [[123]]).bind λb =>
  nA self fu b.1 b.2.1 b.2.2 []
def oA  (b:List sc) (c:Int) (d:Int) (e:Int) (f:List UInt8) (g:Int) (h:Int) (i:List UInt8) (j:List Na):Option (Ra×List sc×Int×Int):=
  (Tu b c d [[59]]).bind λa =>
  some ((Ra.mk e f (Na.mk g h i j) ([]:List Ra) ([]:List Ra)),a.1,a.2.1,a.2.2)
def zt (fu:Nat) (self:ev) (k:List sc) (l:Int) (m:Int):Option (Ra×List sc×Int×Int):=
  (Rh k l m [105,102]).bind λd =>
  if d.1=true then
    none
  else
    (Rh d.2.1 d.2.2.1 d.2.2.2 [119,104,105,108,101]).bind λe =>
    if e.1=true then
      none
    else
      (Rh e.2.1 e.2.2.1 e.2.2.2 [108,101,116]).bind λf =>
      if f.1=true then
        none
      else
        (Rh f.2.1 f.2.2.1 f.2.2.2 [114,101,116,117,114,110]).bind λg =>
        if g.1=true then
          none
        else
          (Rh g.2.1 g.2.2.1 g.2.2.2 [115,116,111,112]).bind λh =>
          if h.1=true then
            none
          else
            (Rh h.2.1 h.2.2.1 h.2.2.2 [115,101,110,100]).bind λa =>
            if a.1=true then
              (tw fu a.2.1 a.2.2.1 a.2.2.2).bind λi =>
              ((Ju fu).iq i.2.1 i.2.2.1 i.2.2.2).bind λb =>
              oA b.2.1 b.2.2.1 b.2.2.2 7 i.1 b.1.Kind b.1.N b.1.Name b.1.Kids
            else
              (Rh a.2.1 a.2.2.1 a.2.2.2 [111,117,116]).bind λj =>
              if j.1=true then
                ((Ju fu).iq j.2.1 j.2.2.1 j.2.2.2).bind λc =>
                oA c.2.1 c.2.2.1 c.2.2.2 8 [] c.1.Kind c.1.N c.1.Name c.1.Kids
              else
                none
def GA:Nat->ev
  | 0=>⟨λ_ _ _=>none,λ_ _ _=>none⟩
  | n+1=>⟨yt n (GA n),zt n (GA n)⟩
def fG (fu:Nat)  (k:List sc) (l:Int) (m:Int):Option (va×List sc×Int×Int):=
  (MB k l m).bind λn =>
  (Rh k l m [98,111,120]).bind λb =>
  if b.1=true then
    (tw fu b.2.1 b.2.2.1 b.2.2.2).bind λd =>
    (eG d.2.1 d.2.2.1 d.2.2.2).bind λa =>
    (MB a.2.1 a.2.2.1 a.2.2.2).bind λo =>
    (FA a.2.1 a.2.2.1 a.2.2.2).bind λc =>
    if c.1<1 then
      none
    else
      if (20:Int)<c.1 then
        none
      else
        (Tu c.2.1 c.2.2.1 c.2.2.2 [[59]]).bind λj =>
        some ((va.mk 1 d.1 (Sa.mk a.1.Kind a.1.Pc) (Sa.mk 0 []) c.1 ([]:List TParam) ([]:List Ra)),j.1,j.2.1,j.2.2)
  else
    (Rh b.2.1 b.2.2.1 b.2.2.2 [102,110]).bind λe =>
    if e.1=true then
      none
    else
      (Rh e.2.1 e.2.2.1 e.2.2.2 [103,101,110]).bind λf =>
      if f.1=true then
        none
      else
        (Rh f.2.1 f.2.2.1 f.2.2.2 [116,97,115,107]).bind λg =>
        if g.1=true then
          (tw fu g.2.1 g.2.2.1 g.2.2.2).bind λh =>
          ((GA fu).yt h.2.1 h.2.2.1 h.2.2.2).bind λi =>
          some ((va.mk 4 h.1 (Sa.mk 0 []) (Sa.mk 0 []) 0 ([]:List TParam) i.1),i.2.1,i.2.2.1,i.2.2.2)
        else
          none
theorem fR {α:Type}{l:List sc}{e d:Int}{k1 b:List UInt8}(m:¬ k1=b){A B C:Bool×List sc×Int×Int->Option α}{r:α}
    (h:(Option.bind (Rh l e d k1) λx=>if x.1=true then A x else Option.bind (Rh x.2.1 x.2.2.1 x.2.2.2 b) λy=>if y.1=true then B y else C y)=some r) :
    (Option.bind (Rh l e d b) λy=>if y.1=true then B y else Option.bind (Rh y.2.1 y.2.2.1 y.2.2.2 k1) λx=>if x.1=true then A x else C x)=some r:=by
  have key:∀ k,(vr l e d k=some false/\Rh l e d k=some (false,l,e,d))\/(∃ t Ba,l=t::Ba/\t.Text=k/\Rh l e d k=some (true,Ba,e,d)):=by
    intro k;cases l with
    | nil=>first | (left; simp [vr,Rh]; done) | (exfalso; simp [vr,Rh] at h)
    | cons t Ba =>
      by_cases f:t.Text=k
      · right;refine ⟨t,Ba,rfl,f,?_⟩;have g:(0:Int)<((Ba.length+1:Nat):Int):=by omega
        have n:(1:Int)<=((Ba.length+1:Nat):Int):=by omega
        have o:cut (t::Ba) 1 ((t::Ba).length)=some Ba:=by
          unfold cut;rw [if_pos ⟨by omega,by simpa using n,by simp⟩];simp
        have p:vr (t::Ba) e d k=some true:=by
          unfold vr;rw [if_pos (by simp)];simp [at_,f]
        unfold Rh;rw [p,Option.bind_some];simp only [if_true];rw [o];rfl
      · left;have g:(0:Int)<((Ba.length+1:Nat):Int):=by omega
        simp [Rh,vr,at_,f,g]
  rcases key k1 with ⟨u,c⟩ | ⟨t,Ba,ma,i,c⟩
  · rw [c,Option.bind_some] at h;simp only [Bool.false_eq_true,if_false] at h;rcases key b with ⟨q,a⟩ | ⟨t,Ba,ma,i,a⟩
    · rw [a,Option.bind_some] at h ⊢;simp only [Bool.false_eq_true,if_false] at h ⊢;rw [c,Option.bind_some];simpa using h
    · rw [a,Option.bind_some] at h ⊢;simp only [if_true] at h ⊢;exact h
  · rw [c,Option.bind_some] at h;simp only [if_true] at h;rcases key b with ⟨q,a⟩ | ⟨v,w,j,s,a⟩
    · rw [a,Option.bind_some];simp only [Bool.false_eq_true,if_false];rw [c,Option.bind_some];simpa using h
    · rw [ma] at j;obtain ⟨rfl,rfl⟩:=List.cons.inj j;exact absurd (i.symm.trans s) m
def oK:Option Unit:=some ()
def ZC (a:(List sc)->Int->Int->(List va)->Option (List va×Nd)) (b:List sc) (c:Int) (d:Int) (e:List va):Option (List va×Nd):=
  a b c d e
def aD (a:List sc×Nd) (b:List va):Option (List va×Nd):=
  (oK ).bind λc =>
  some (b,a.2)
def Kx (fu:Nat) (c:List sc×Nd):Nat->(List sc)->Int->Int->(List va)->Option (List va×Nd)
  | 0,_,_,_,_=>none
  | n+1,d,i41,i42,a =>
    if (0:Int)<(d.length:Int) then
      if (a.length:Int)=30 then
        none
      else
        (fG fu d i41 i42).bind λb =>
        (app a [b.1]).bind λe =>
        ZC (Kx fu c n) b.2.1 b.2.2.1 b.2.2.2 e
    else
      (bt fu a).bind λf =>
      if f.De≠0 then
        none
      else
        aD c a
def mE (fu:Nat)  (p_1:List UInt8):Option (List va×Nd):=
  (oD fu p_1).bind λa =>
  if a.2.De≠0 then
    none
  else
    Kx fu a fu a.1 (p_1.length:Int) 0 []
def bp  (p_1:Sa):Option Bool :=
  some (decide (p_1.Kind≠3))
def ct  (p_1:mb) (p_2:Int) (p_3:List UInt8):Option (Option va×Bool):=
  if (Oa p_1.named p_3).isSome=true then
    ((Oa p_1.named p_3)).bind λa =>
    some ((Oa p_1.named p_3),decide (a.Kind=p_2))
  else
    some ((Oa p_1.named p_3),false)
def ey  (p_1:mb) (p_2:Sa):Option Int :=
  (bp p_2).bind λa =>
  if a=true then
    some 0
  else
    (ct p_1 3 p_2.Pc).bind λb =>
    if b.2=true then
      some 0
    else
      some 7
def Bz (p_1:Sa) (a:List UInt8):Option Sa :=
  some (Sa.mk p_1.Kind a)
def Zp  (p_1:Sa):Option Sa :=
  (bp p_1).bind λa =>
  if a=true then
    Bz p_1 []
  else
    Bz p_1 p_1.Pc
def Sl  :Option Sa :=
  some (Sa.mk 1 [])
def ak  :Option Sa :=
  some (Sa.mk 2 [])
def Hs (p_2:List UInt8) (a:List (List (List UInt8×Sa))):Nat->Int->Option (Sa×Bool)
  | 0,_=>none
  | n+1,i48 =>
    if (0:Int)<=i48 then
      (at_ a i48).bind λb =>
      if (Oa b p_2).isSome=true then
        some (((Oa b p_2).getD (Sa.mk 0 [])),true)
      else
        (i64 (i48 - 1)).bind λc =>
        Hs p_2 a n c
    else
      some ((Sa.mk 0 []),false)
def lr (fu:Nat)  (c:mb) (d:va) (a:List (List (List UInt8×Sa))) (p_2:List UInt8):Option (Sa×Bool):=
  (i64 ((a.length:Int) - 1)).bind λb =>
  Hs p_2 a fu b
structure rl where
  Oh:mb->va->(List (List (List UInt8×Sa)))->Na->Sa->Option Int
  Ql:mb->va->(List (List (List UInt8×Sa)))->Na->Int->Option (Option va×Int)
  en:mb->va->(List (List (List UInt8×Sa)))->Na->Option (Sa×Int)
  Ol:mb->va->(List (List (List UInt8×Sa)))->Na->Option (Option va×Int)
  Wi:mb->va->(List (List (List UInt8×Sa)))->Na->Option (Sa×Int)
def xz  (a:Int):Option Int :=
  some a
def Cx (a:Sa×Int) (b:Bool):Option Int :=
  if b=true then
    xz 9
  else
    xz a.2
def Oh (self:rl) (c:mb) (d:va) (e:List (List (List UInt8×Sa))) (p_2:Na) (p_3:Sa):Option Int :=
  (self.Wi c d e p_2).bind λa =>
  if a.2=0 then
    (Zp p_3).bind λb =>
    Cx a (!(Jm [(decide (a.1.Kind=b.Kind)),(decide (a.1.Pc=b.Pc))]))
  else
    Cx a false
def Is (self:rl) (p_2:Na) (b:mb) (c:va) (d:List (List (List UInt8×Sa))) (e:Option va×Bool) (a:va):Nat->Int->Option (Option va×Int)
  | 0,_=>none
  | n+1,i104 =>
    if i104<(a.Params.length:Int) then
      (at_ a.Params i104).bind λg =>
      (at_ p_2.Kids i104).bind λh =>
      (self.Oh b c d h g.Ob).bind λf =>
      if f≠0 then
        some (none,f)
      else
        (i64 (i104+1)).bind λi =>
        Is self p_2 b c d e a n i
    else
      some (e.1,0)
def Fx (self:rl) (p_2:Na) (c:mb) (d:va) (e:List (List (List UInt8×Sa))) (a:Option va×Bool) (f:Bool):Option (Option va×Int):=
  if f=true then
    some (none,5)
  else
    (a.1).bind λb =>
    Is self p_2 c d e a b (b.Params.length+1) 0
def Ql (self:rl) (b:mb) (c:va) (d:List (List (List UInt8×Sa))) (p_2:Na) (p_3:Int):Option (Option va×Int):=
  (ct b p_3 p_2.Name).bind λa =>
  if a.2=true then
    (a.1).bind λe =>
    Fx self p_2 b c d a (decide ((e.Params.length:Int)≠(p_2.Kids.length:Int)))
  else
    some (none,7)
def Cz (a:Sa×Int) (b:Int):Option (Sa×Int):=
  some (a.1,b)
def zu (a:Sa×Int) (b:Sa×Int) (c:Bool):Option (Sa×Int):=
  if c=true then
    Cz a 9
  else
    Cz a b.2
def en (self:rl) (c:mb) (d:va) (e:List (List (List UInt8×Sa))) (p_2:Na):Option (Sa×Int):=
  (at_ p_2.Kids 0).bind λf =>
  (self.Wi c d e f).bind λa =>
  if a.2≠0 then
    some (a.1,a.2)
  else
    (at_ p_2.Kids 1).bind λg =>
    (self.Wi c d e g).bind λb =>
    if b.2=0 then
      if (Jm [(decide (a.1.Kind=b.1.Kind)),(decide (a.1.Pc=b.1.Pc))])=true then
        (bp a.1).bind λh =>
        zu a b (!h)
      else
        zu a b true
    else
      zu a b false
def Ol (self:rl) (b:mb) (c:va) (d:List (List (List UInt8×Sa))) (p_2:Na):Option (Option va×Int):=
  (self.Wi b c d p_2).bind λa =>
  if a.2≠0 then
    some (none,a.2)
  else
    (bp a.1).bind λe =>
    if e=true then
      some (none,9)
    else
      some ((Oa b.named a.1.Pc),0)
def RC  (a:Int) (b:Int) (c:List UInt8):Option (Sa×Int):=
  some ((Sa.mk b c),a)
def SC  (a:Int) (b:Int) (c:List UInt8):Option (Sa×Int):=
  some ((Sa.mk b c),a)
def TC  (a:Int) (b:Int) (c:List UInt8):Option (Sa×Int):=
  some ((Sa.mk b c),a)
def UC  (a:Int) (b:Int) (c:List UInt8):Option (Sa×Int):=
  some ((Sa.mk b c),a)
def Js (self:rl) (p_2:Na) (c:mb) (d:va) (e:List (List (List UInt8×Sa))) (f:Int) (g:List UInt8) (a:Int) (b:List UInt8):Nat->Int->Option (Sa×Int)
  | 0,_=>none
  | n+1,i314 =>
    if i314<(p_2.Kids.length:Int) then
      (at_ p_2.Kids i314).bind λi =>
      (self.Oh c d e i (Sa.mk f g)).bind λh =>
      if h≠0 then
        some ((Sa.mk a b),h)
      else
        (i64 (i314+1)).bind λj =>
        Js self p_2 c d e f g a b n j
    else
      some ((Sa.mk a b),0)
def Au (self:rl) (p_2:Na) (a:mb) (b:va) (c:List (List (List UInt8×Sa))) (d:Int) (e:List UInt8) (f:Int) (g:List UInt8):Option (Sa×Int):=
  Js self p_2 a b c d e f g (p_2.Kids.length+1) 0
def Ks (self:rl) (p_2:Na) (b:mb) (a:va) (c:List (List (List UInt8×Sa))) (o:Bool):Option (Sa×Int):=
  if o=true then
    (self.en b a c p_2).bind λp =>
    (ak ).bind λq =>
    some (q,p.2)
  else
    if p_2.Kind=19 then
      (self.Ql b a c p_2 2).bind λe =>
      if e.2≠0 then
        (Sl ).bind λr =>
        some (r,e.2)
      else
        (e.1).bind λs =>
        (Zp s.Ob).bind λt =>
        some (t,0)
    else
      if p_2.Kind=20 then
        (ct b 1 p_2.Name).bind λg =>
        if g.2=true then
          (g.1).bind λu =>
          (Zp u.Ob).bind λv =>
          some (v,0)
        else
          (Sl ).bind λw =>
          some (w,7)
      else
        if p_2.Kind=21 then
          if a.Kind≠3 then
            (Sl ).bind λx =>
            some (x,8)
          else
            (at_ p_2.Kids 0).bind λy =>
            (Zp a.Yd).bind λh =>
            (self.Oh b a c y a.Ob).bind λz =>
            TC z h.Kind h.Pc
        else
          if p_2.Kind=22 then
            (self.Ql b a c p_2 3).bind λA =>
            some ((Sa.mk 3 p_2.Name),A.2)
          else
            if p_2.Kind=23 then
              (at_ p_2.Kids 0).bind λB =>
              (self.Ol b a c B).bind λf =>
              if f.2≠0 then
                (Sl ).bind λC =>
                some (C,f.2)
              else
                (f.1).bind λi =>
                (at_ p_2.Kids 1).bind λD =>
                (Zp i.Ob).bind λj =>
                (self.Oh b a c D i.Yd).bind λE =>
                UC E j.Kind j.Pc
            else
              if p_2.Kind=24 then
                (at_ p_2.Kids 0).bind λF =>
                (self.Ol b a c F).bind λG =>
                (ak ).bind λH =>
                some (H,G.2)
              else
                (Sl ).bind λd =>
                (Sl ).bind λk =>
                if (17:Int)<=p_2.Kind then
                  (ak ).bind λl =>
                  (ak ).bind λm =>
                  Au self p_2 b a c l.Kind l.Pc m.Kind m.Pc
                else
                  if (13:Int)<=p_2.Kind then
                    (ak ).bind λn =>
                    Au self p_2 b a c d.Kind d.Pc n.Kind n.Pc
                  else
                    Au self p_2 b a c d.Kind d.Pc k.Kind k.Pc
def Wi (fu:Nat) (self:rl) (a:mb) (b:va) (c:List (List (List UInt8×Sa))) (p_2:Na):Option (Sa×Int):=
  if p_2.Kind=1 then
    (Sl ).bind λg =>
    some (g,0)
  else
    if p_2.Kind=2 then
      (ak ).bind λh =>
      some (h,0)
    else
      if p_2.Kind=3 then
        (lr fu a b c p_2.Name).bind λd =>
        if d.2=true then
          some (d.1,0)
        else
          (Sl ).bind λi =>
          some (i,7)
      else
        if p_2.Kind=4 then
          (at_ p_2.Kids 0).bind λj =>
          (Sl ).bind λe =>
          (Sl ).bind λk =>
          (self.Oh a b c j k).bind λl =>
          RC l e.Kind e.Pc
        else
          if p_2.Kind=5 then
            (at_ p_2.Kids 0).bind λm =>
            (ak ).bind λf =>
            (ak ).bind λn =>
            (self.Oh a b c m n).bind λo =>
            SC o f.Kind f.Pc
          else
            if p_2.Kind=11 then
              Ks self p_2 a b c (decide (p_2.Kind=11))
            else
              Ks self p_2 a b c (decide (p_2.Kind=12))
def Og:Nat->rl
  | 0=>⟨λ_ _ _ _ _=>none,λ_ _ _ _ _=>none,λ_ _ _ _=>none,λ_ _ _ _=>none,λ_ _ _ _=>none⟩
  | n+1=>⟨Oh (Og n),Ql (Og n),en (Og n),Ol (Og n),Wi n (Og n)⟩
def Mz  (a:List (List (List UInt8×Sa))):Option (List (List (List UInt8×Sa))):=
  some a
def ft  (d:mb) (e:va) (a:List (List (List UInt8×Sa))):Option (List (List (List UInt8×Sa))):=
  (i64 ((a.length:Int) - 1)).bind λb =>
  (cut a 0 b).bind λc =>
  Mz c
structure kq where
  Sk:mb->va->(List (List (List UInt8×Sa)))->(List Ra)->Option (Int×List (List (List UInt8×Sa)))
  gn:mb->va->(List (List (List UInt8×Sa)))->Ra->Option (Int×List (List (List UInt8×Sa)))
def Ds (self:kq) (p_2:List Ra) (a:mb) (b:va):Nat->Int->(List (List (List UInt8×Sa)))->Option (Int×List (List (List UInt8×Sa)))
  | 0,_,_=>none
  | n+1,i74,d =>
    if i74<(p_2.length:Int) then
      (at_ p_2 i74).bind λe =>
      (self.gn a b d e).bind λc =>
      if c.1≠0 then
        (ft a b c.2).bind λf =>
        some (c.1,f)
      else
        (i64 (i74+1)).bind λg =>
        Ds self p_2 a b n g c.2
    else
      (ft a b d).bind λh =>
      some (0,h)
def Dx (self:kq) (p_2:List Ra) (a:mb) (b:va) (c:List (List (List UInt8×Sa))):Option (Int×List (List (List UInt8×Sa))):=
  Ds self p_2 a b (p_2.length+1) 0 c
def Sk (self:kq) (a:mb) (b:va) (c:List (List (List UInt8×Sa))) (p_2:List Ra):Option (Int×List (List (List UInt8×Sa))):=
  (app c [[]]).bind λd =>
  Dx self p_2 a b d
def Bu  (a:List (List (List UInt8×Sa))):Option (Int×List (List (List UInt8×Sa))):=
  some (0,a)
def Fv (self:kq) (p_2:Ra) (c:mb) (d:va) (a:Int×List (List (List UInt8×Sa))) (e:Bool):Option (Int×List (List (List UInt8×Sa))):=
  if e=true then
    some (a.1,a.2)
  else
    (self.Sk c d a.2 p_2.sf).bind λb =>
    some (b.1,b.2)
def Dz (a:List (List (List UInt8×Sa))) (b:Int):Option (Int×List (List (List UInt8×Sa))):=
  some (b,a)
def Gx (a:List (List (List UInt8×Sa))) (b:Sa×Int) (c:Bool):Option (Int×List (List (List UInt8×Sa))):=
  if c=true then
    Dz a 9
  else
    Dz a b.2
def Ls (fu:Nat) (self:kq) (p_2:Ra) (c:mb) (b:va) (a:List (List (List UInt8×Sa))) (h:Bool):Option (Int×List (List (List UInt8×Sa))):=
  if h=true then
    (ak ).bind λi =>
    ((Og fu).Oh c b a p_2.X i).bind λf =>
    if f≠0 then
      some (f,a)
    else
      (self.Sk c b a p_2.Body).bind λe =>
      if e.1≠0 then
        Fv self p_2 c b e true
      else
        Fv self p_2 c b e (decide (p_2.Kind=4))
  else
    if p_2.Kind=5 then
      if b.Kind≠2 then
        some (8,a)
      else
        ((Og fu).Oh c b a p_2.X b.Ob).bind λj =>
        some (j,a)
    else
      if p_2.Kind=6 then
        if b.Kind=2 then
          some (8,a)
        else
          Bu a
      else
        if p_2.Kind=7 then
          (ct c 1 p_2.Name).bind λg =>
          if g.2=true then
            (g.1).bind λk =>
            ((Og fu).Oh c b a p_2.X k.Ob).bind λl =>
            some (l,a)
          else
            some (7,a)
        else
          if p_2.Kind=8 then
            ((Og fu).Wi c b a p_2.X).bind λd =>
            if d.2=0 then
              (bp d.1).bind λm =>
              Gx a d (!m)
            else
              Gx a d false
          else
            if p_2.Kind=9 then
              ((Og fu).Wi c b a p_2.X).bind λn =>
              some (n.2,a)
            else
              Bu a
def gn (fu:Nat) (self:kq) (b:mb) (c:va) (a:List (List (List UInt8×Sa))) (p_2:Ra):Option (Int×List (List (List UInt8×Sa))):=
  if p_2.Kind=1 then
    ((Og fu).Wi b c a p_2.X).bind λd =>
    if d.2≠0 then
      some (d.2,a)
    else
      (lr fu b c a p_2.Name).bind λg =>
      if g.2=true then
        some (7,a)
      else
        (i64 ((a.length:Int) - 1)).bind λe =>
        (at_ a e).bind λh =>
        Bu (a.set e.toNat (kd h p_2.Name d.1))
  else
    if p_2.Kind=2 then
      (lr fu b c a p_2.Name).bind λf =>
      if f.2=true then
        ((Og fu).Oh b c a p_2.X f.1).bind λi =>
        some (i,a)
      else
        some (7,a)
    else
      if p_2.Kind=3 then
        Ls fu self p_2 b c a (decide (p_2.Kind=3))
      else
        Ls fu self p_2 b c a (decide (p_2.Kind=4))
def Rl:Nat->kq
  | 0=>⟨λ_ _ _ _=>none,λ_ _ _ _=>none⟩
  | n+1=>⟨Sk (Rl n),gn n (Rl n)⟩
def Ms  (a:Bool):Option Int :=
  if a=true then
    some 9
  else
    some 0
def Gv (p_2:va):Option Int :=
  if p_2.Kind=3 then
    (bp p_2.Yd).bind λa =>
    if a=true then
      if p_2.Kind≠4 then
        (bp p_2.Ob).bind λb =>
        Ms (!b)
      else
        Ms false
    else
      Ms true
  else
    if p_2.Kind≠4 then
      (bp p_2.Ob).bind λc =>
      Ms (!c)
    else
      Ms false
def Hv (p_1:mb) (p_2:va):Nat->Int->(List (List UInt8×Int))->Option Int
  | 0,_,_=>none
  | n+1,i48,b =>
    if i48<(p_2.Params.length:Int) then
      (at_ p_2.Params i48).bind λa =>
      (i64 (((Oa b a.Name).getD 0)+1)).bind λc =>
      if (1:Int)<((Oa (kd b a.Name c) a.Name).getD 0) then
        some 7
      else
        (ey p_1 a.Ob).bind λd =>
        if d≠0 then
          some d
        else
          (i64 (i48+1)).bind λe =>
          Hv p_1 p_2 n e (kd b a.Name c)
    else
      Gv p_2
def Iv (p_1:mb) (p_2:va) (a:Bool):Option Int :=
  if a=true then
    Hv p_1 p_2 (p_2.Params.length+1) 0 ([]:List (List UInt8×Int))
  else
    Gv p_2
def cw  (p_1:mb) (p_2:va):Option Int :=
  if p_2.Kind=2 then
    Iv p_1 p_2 true
  else
    Iv p_1 p_2 (decide (p_2.Kind=3))
def Ns (fu:Nat) (p_1:mb) (p_2:va) (a:List (List (List UInt8×Sa))):Option Int :=
  ((Rl fu).Sk p_1 p_2 a p_2.Body).bind λb =>
  some b.1
def Hx (a:Int) (b:Int->(List (List (List UInt8×Sa)))->Option Int) (c:List (List (List UInt8×Sa))):Option Int :=
  (i64 (a+1)).bind λd =>
  b d c
def dr (fu:Nat) (p_1:mb) (p_2:va):Nat->Int->(List (List (List UInt8×Sa)))->Option Int
  | 0,_,_=>none
  | n+1,i63,a =>
    if i63<(p_2.Params.length:Int) then
      (at_ p_2.Params i63).bind λb =>
      (at_ a 0).bind λc =>
      (Zp b.Ob).bind λd =>
      Hx i63 (dr fu p_1 p_2 n) (a.set (0:Int).toNat (kd c b.Name d))
    else
      Ns fu p_1 p_2 a
def mr (fu:Nat)  (p_1:mb) (p_2:va):Option Int :=
  if p_2.Kind=1 then
    some 0
  else
    if p_2.Kind≠4 then
      dr fu p_1 p_2 (p_2.Params.length+1) 0 [([]:List (List UInt8×Sa))]
    else
      Ns fu p_1 p_2 [([]:List (List UInt8×Sa))]
def ar (fu:Nat) (p_1:List va) (a:List (List UInt8×va)):Nat->Int->Option (mb×Nd)
  | 0,_=>none
  | n+1,i329 =>
    if i329<(p_1.length:Int) then
      (at_ p_1 i329).bind λc =>
      (mr fu (mb.mk p_1 a) c).bind λb =>
      if b≠0 then
        some ((mb.mk p_1 a),(Nd.mk b i329))
      else
        (i64 (i329+1)).bind λd =>
        ar fu p_1 a n d
    else
      some ((mb.mk p_1 a),(Nd.mk 0 0))
def br (fu:Nat) (p_1:List va) (a:List (List UInt8×va)):Nat->Int->Option (mb×Nd)
  | 0,_=>none
  | n+1,i270 =>
    if i270<(p_1.length:Int) then
      (at_ p_1 i270).bind λc =>
      (cw (mb.mk p_1 a) c).bind λb =>
      if b≠0 then
        some ((mb.mk p_1 a),(Nd.mk b i270))
      else
        (i64 (i270+1)).bind λd =>
        br fu p_1 a n d
    else
      ar fu p_1 a (p_1.length+1) 0
def cr (fu:Nat) (p_1:List va):Nat->Int->Int->(List (List UInt8×va))->Option (mb×Nd)
  | 0,_,_,_=>none
  | n+1,i94,i95,a =>
    if i95<(p_1.length:Int) then
      (at_ p_1 i95).bind λd =>
      if (Oa a d.Name).isSome=true then
        some ((mb.mk p_1 a),(Nd.mk 7 i95))
      else
        (at_ p_1 i95).bind λb =>
        (at_ p_1 i95).bind λc =>
        (at_ p_1 i95).bind λe =>
        if e.Kind=4 then
          (i64 (i94+1)).bind λf =>
          (i64 (i95+1)).bind λg =>
          cr fu p_1 n f g (kd a b.Name c)
        else
          (i64 (i95+1)).bind λh =>
          cr fu p_1 n i94 h (kd a b.Name c)
    else
      if i94=0 then
        some ((mb.mk p_1 a),(Nd.mk 6 (p_1.length:Int)))
      else
        br fu p_1 a (p_1.length+1) 0
def Ys (fu:Nat)  (p_1:List va):Option (mb×Nd):=
  (bt fu p_1).bind λa =>
  if a.De≠0 then
    some ((mb.mk p_1 ([]:List (List UInt8×va))),a)
  else
    cr fu p_1 (p_1.length+1) 0 0 ([]:List (List UInt8×va))
structure Ar where
  Jn:(List (List UInt8))->(List (List UInt8))->(List (List UInt8))->Na->Option (List (List UInt8)×List (List UInt8)×List (List UInt8))
def Jv (self:Ar) (p_2:Na):Nat->Int->(List (List UInt8))->(List (List UInt8))->(List (List UInt8))->Option (List (List UInt8)×List (List UInt8)×List (List UInt8))
  | 0,_,_,_,_=>none
  | n+1,i96,b,c,d =>
    if i96<(p_2.Kids.length:Int) then
      (at_ p_2.Kids i96).bind λe =>
      (self.Jn b c d e).bind λa =>
      (i64 (i96+1)).bind λf =>
      Jv self p_2 n f a.1 a.2.1 a.2.2
    else
      some (b,c,d)
def Cu (self:Ar) (p_2:Na) (a:List (List UInt8)) (b:List (List UInt8)) (c:List (List UInt8)):Option (List (List UInt8)×List (List UInt8)×List (List UInt8)):=
  Jv self p_2 (p_2.Kids.length+1) 0 b a c
def Ez (self:Ar) (p_2:Na) (a:List (List UInt8)) (b:List (List UInt8)) (c:List (List UInt8)):Option (List (List UInt8)×List (List UInt8)×List (List UInt8)):=
  Cu self p_2 a c b
def Fz (self:Ar) (a:List (List UInt8)) (p_2:Na) (b:List (List UInt8)) (c:List (List UInt8)):Option (List (List UInt8)×List (List UInt8)×List (List UInt8)):=
  Cu self p_2 b a c
def Kv (self:Ar) (a:List (List UInt8)) (p_2:Na) (b:List (List UInt8)) (c:List (List UInt8)) (d:Bool):Option (List (List UInt8)×List (List UInt8)×List (List UInt8)):=
  if d=true then
    (app a [p_2.Name]).bind λe =>
    Ez self p_2 b c e
  else
    if p_2.Kind=20 then
      (app c [p_2.Name]).bind λf =>
      Fz self a p_2 b f
    else
      Cu self p_2 b a c
def Jn (self:Ar) (a:List (List UInt8)) (b:List (List UInt8)) (c:List (List UInt8)) (p_2:Na):Option (List (List UInt8)×List (List UInt8)×List (List UInt8)):=
  if p_2.Kind=19 then
    Kv self a p_2 b c (decide (p_2.Kind=19))
  else
    Kv self a p_2 b c (decide (p_2.Kind=22))
def dt:Nat->Ar
  | 0=>⟨λ_ _ _ _=>none⟩
  | n+1=>⟨Jn (dt n)⟩
structure lq where
  Pl:(List (List UInt8))->(List (List UInt8))->(List (List UInt8))->(List Ra)->Option (List (List UInt8)×List (List UInt8)×List (List UInt8))
def Av (self:lq) (b:Int) (c:Ra) (d:Int->(List (List UInt8))->(List (List UInt8))->(List (List UInt8))->Option (List (List UInt8)×List (List UInt8)×List (List UInt8))) (e:List (List UInt8)) (f:List (List UInt8)) (g:List (List UInt8)):Option (List (List UInt8)×List (List UInt8)×List (List UInt8)):=
  if c.Kind=3 then
    (self.Pl e f g c.sf).bind λa =>
    (i64 (b+1)).bind λh =>
    d h a.1 a.2.1 a.2.2
  else
    (i64 (b+1)).bind λi =>
    d i e f g
def Bv (self:lq) (c:Int) (a:Ra) (d:List (List UInt8)) (e:List (List UInt8)) (f:List (List UInt8)) (g:Int->(List (List UInt8))->(List (List UInt8))->(List (List UInt8))->Option (List (List UInt8)×List (List UInt8)×List (List UInt8))) (h:Bool):Option (List (List UInt8)×List (List UInt8)×List (List UInt8)):=
  if h=true then
    (self.Pl d e f a.Body).bind λb =>
    Av self c a g b.1 b.2.1 b.2.2
  else
    Av self c a g d e f
def Cv (self:lq) (b:Int) (a:Ra) (c:Int->(List (List UInt8))->(List (List UInt8))->(List (List UInt8))->Option (List (List UInt8)×List (List UInt8)×List (List UInt8))) (d:List (List UInt8)) (e:List (List UInt8)) (f:List (List UInt8)):Option (List (List UInt8)×List (List UInt8)×List (List UInt8)):=
  if a.Kind=3 then
    Bv self b a d e f c true
  else
    Bv self b a d e f c (decide (a.Kind=4))
def Dv (fu:Nat) (self:lq) (c:Int) (d:List (List UInt8)) (e:List (List UInt8)) (a:Ra) (f:Int->(List (List UInt8))->(List (List UInt8))->(List (List UInt8))->Option (List (List UInt8)×List (List UInt8)×List (List UInt8))) (g:List (List UInt8)):Option (List (List UInt8)×List (List UInt8)×List (List UInt8)):=
  if a.Kind≠6 then
    ((dt fu).Jn d g e a.X).bind λb =>
    Cv self c a f b.1 b.2.1 b.2.2
  else
    Cv self c a f d g e
def yz (fu:Nat) (self:lq) (a:Int) (b:List (List UInt8)) (c:List (List UInt8)) (d:Ra) (e:Int->(List (List UInt8))->(List (List UInt8))->(List (List UInt8))->Option (List (List UInt8)×List (List UInt8)×List (List UInt8))) (f:List (List UInt8)):Option (List (List UInt8)×List (List UInt8)×List (List UInt8)):=
  Dv fu self a b c d e f
def Ml (fu:Nat) (self:lq) (p_2:List Ra):Nat->Int->(List (List UInt8))->(List (List UInt8))->(List (List UInt8))->Option (List (List UInt8)×List (List UInt8)×List (List UInt8))
  | 0,_,_,_,_=>none
  | n+1,i130,b,c,d =>
    if i130<(p_2.length:Int) then
      (at_ p_2 i130).bind λa =>
      if a.Kind=7 then
        (app c [a.Name]).bind λe =>
        yz fu self i130 b d a (Ml fu self p_2 n) e
      else
        Dv fu self i130 b d a (Ml fu self p_2 n) c
    else
      some (b,c,d)
def Pl (fu:Nat) (self:lq) (a:List (List UInt8)) (b:List (List UInt8)) (c:List (List UInt8)) (p_2:List Ra):Option (List (List UInt8)×List (List UInt8)×List (List UInt8)):=
  Ml fu self p_2 (p_2.length+1) 0 a b c
def ym:Nat->lq
  | 0=>⟨λ_ _ _ _=>none⟩
  | n+1=>⟨Pl n (ym n)⟩
def yu (p_1:mb) (a:List (List UInt8)×List (List UInt8)×List (List UInt8)) (d:List (List UInt8)) (e:List (List UInt8)) (f:(List (List UInt8))->(List (Option va))->(List (List UInt8))->(List (List UInt8))->Option rf):Nat->Int->(List (List UInt8))->(List (Option va))->Option rf
  | 0,_,_,_=>none
  | n+1,b,c,g =>
    if b<(a.1.length:Int) then
      (at_ a.1 b).bind λh =>
      if c.contains h=true then
        (i64 (b+1)).bind λi =>
        yu p_1 a d e f n i c g
      else
        (app c [h]).bind λj =>
        (app g [(Oa p_1.named h)]).bind λk =>
        (i64 (b+1)).bind λl =>
        yu p_1 a d e f n l j k
    else
      f c g d e
def zz (p_1:mb) (b:List (List UInt8)) (c:List (Option va)) (a:List (List UInt8)×List (List UInt8)×List (List UInt8)) (d:(List (List UInt8))->(List (Option va))->(List (List UInt8))->(List (List UInt8))->Option rf) (g:List (List UInt8)) (h:List (List UInt8)) (e:List (List UInt8)) (f:List (List UInt8)):Option rf :=
  yu p_1 a e f d (a.1.length+1) 0 b c
def Es (fu:Nat) (p_1:mb):Nat->(List (List UInt8))->(List (Option va))->(List (List UInt8))->(List (List UInt8))->Option rf
  | 0,_,_,_,_=>none
  | n+1,e,b,c,d =>
    if (0:Int)<(b.length:Int) then
      (at_ b 0).bind λf =>
      (cut b 1 b.length).bind λg =>
      (f).bind λh =>
      ((ym fu).Pl ([]:List (List UInt8)) ([]:List (List UInt8)) ([]:List (List UInt8)) h.Body).bind λa =>
      (app c a.2.1).bind λi =>
      (app d a.2.2).bind λj =>
      zz p_1 e g a (Es fu p_1 n) a.2.1 a.2.2 i j
    else
      some (rf.mk ([]:List (List UInt8)) c d)
def bA (fu:Nat)  (p_1:mb) (p_2:va):Option rf :=
  Es fu p_1 fu ([]:List (List UInt8)) ([(some p_2)]:List (Option va)) [] []
def vz (a:Int) (b:Int->(List (List UInt8×rf))->Option (List fi×Nd)) (c:List (List UInt8×rf)):Option (List fi×Nd):=
  (i64 (a+1)).bind λd =>
  b d c
def yv (a:Int) (b:List UInt8) (c:Int->(List UInt8)->(List UInt8)->Option (List fi×Nd)) (d:List UInt8):Option (List fi×Nd):=
  (i64 (a+1)).bind λe =>
  c e b d
def zv (f:List (List UInt8×rf)) (g:Int) (h:va) (a:Int) (b:List UInt8) (c:va) (d:Int->(List UInt8)->(List UInt8)->Option (List fi×Nd)) (e:List UInt8):Option (List fi×Nd):=
  if (((Oa f c.Name).getD (rf.mk ([]:List (List UInt8)) ([]:List (List UInt8)) ([]:List (List UInt8)))).vk).contains h.Name=true then
    if b≠[] then
      some (([]:List fi),(Nd.mk 8 g))
    else
      yv a e d c.Name
  else
    yv a e d b
def To (p_1:List va) (c:List (List UInt8×rf)) (a:Int) (f:List fi) (b:va) (g:Int->(List fi)->Option (List fi×Nd)):Nat->Int->(List UInt8)->(List UInt8)->Option (List fi×Nd)
  | 0,_,_,_=>none
  | n+1,d,h,i =>
    if d<(p_1.length:Int) then
      (at_ p_1 d).bind λe =>
      if e.Kind≠4 then
        (i64 (d+1)).bind λj =>
        To p_1 c a f b g n j h i
      else
        if (((Oa c e.Name).getD (rf.mk ([]:List (List UInt8)) ([]:List (List UInt8)) ([]:List (List UInt8)))).Tk).contains b.Name=true then
          if h≠[] then
            some (([]:List fi),(Nd.mk 8 a))
          else
            zv c a b d i e (To p_1 c a f b g n) e.Name
        else
          zv c a b d i e (To p_1 c a f b g n) h
    else
      (app f [(fi.mk b.Name h i)]).bind λk =>
      (i64 (a+1)).bind λl =>
      g l k
def Sp (p_1:List va) (b:List (List UInt8×rf)):Nat->Int->(List fi)->Option (List fi×Nd)
  | 0,_,_=>none
  | n+1,a,c =>
    if a<(p_1.length:Int) then
      (at_ p_1 a).bind λd =>
      if d.Kind≠1 then
        (i64 (a+1)).bind λe =>
        Sp p_1 b n e c
      else
        To p_1 b a c d (Sp p_1 b n) (p_1.length+1) 0 [] []
    else
      some (c,(Nd.mk 0 0))
def Bs (fu:Nat) (p_1:List va) (a:mb×Nd):Nat->Int->(List (List UInt8×rf))->Option (List fi×Nd)
  | 0,_,_=>none
  | n+1,i88,b =>
    if i88<(p_1.length:Int) then
      (at_ p_1 i88).bind λc =>
      if c.Kind=4 then
        (at_ p_1 i88).bind λd =>
        (at_ p_1 i88).bind λe =>
        (bA fu a.1 e).bind λf =>
        vz i88 (Bs fu p_1 a n) (kd b d.Name f)
      else
        (i64 (i88+1)).bind λg =>
        Bs fu p_1 a n g b
    else
      Sp p_1 b (p_1.length+1) 0 []
def Rv (fu:Nat)  (p_1:List va):Option (List fi×Nd):=
  (Ys fu p_1).bind λa =>
  if a.2.De≠0 then
    some (([]:List fi),a.2)
  else
    Bs fu p_1 a (p_1.length+1) 0 ([]:List (List UInt8×rf))
def xm (fu:Nat)  (p_1:List va):Option Nd :=
  (Rv fu p_1).bind λa =>
  some a.2
def YE  (p_1:Mj) (p_2:Sa):Option Int :=
  if p_2.Kind=3 then
    none
  else
    some p_2.Kind
def nE  (a:List (List UInt8×Int)) (b:List (List UInt8×Int)) (c:List (List UInt8×va)) (p_2:Sa):Option Int :=
  if p_2.Kind=3 then
    none
  else
    some p_2.Kind
def qt  (k:Mj) (b:Int) (c:Int) (d:List Int) (e:Int) (f:Int) (g:List te) (h:List (List (List UInt8×Int))) (p_2:Int) (p_3:Int) (i:Int):Option (Int×Int×Int×List Int×Int×Int×List te×List (List (List UInt8×Int))):=
  (app g [(te.mk p_2 p_3 i)]).bind λa =>
  (i64 ((a.length:Int) - 1)).bind λj =>
  some (j,b,c,d,e,f,a,h)
structure Py where
  aq:Mj->Int->Int->(List Int)->Int->Int->(List te)->(List (List (List UInt8×Int)))->Na->Option (Int×Int×Int×List Int×Int×Int×List te×List (List (List UInt8×Int)))
def bD (a:Int×Int×Int×List Int×Int×Int×List te×List (List (List UInt8×Int))) (b:Int):Option (Int×Int×Int×List Int×Int×Int×List te×List (List (List UInt8×Int))):=
  some (b,a.2.1,a.2.2.1,a.2.2.2.1,a.2.2.2.2.1,a.2.2.2.2.2.1,a.2.2.2.2.2.2.1,a.2.2.2.2.2.2.2)
def Nz (self:Py) (p_2:Na) (a:Mj):Nat->Int->Int->Int->Int->Int->(List Int)->(List te)->(List (List (List UInt8×Int)))->(List Int)->Option (Int×Int×Int×List Int×Int×Int×List te×List (List (List UInt8×Int)))
  | 0,_,_,_,_,_,_,_,_,_=>none
  | n+1,i76,i77,i78,i79,i80,e,f,g,h =>
    if i76<(p_2.Kids.length:Int) then
      (at_ p_2.Kids i76).bind λi =>
      (self.aq a i77 i78 e i79 i80 f g i).bind λb =>
      (app h [b.1]).bind λj =>
      (i64 (i76+1)).bind λk =>
      Nz self p_2 a n k b.2.1 b.2.2.1 b.2.2.2.2.1 b.2.2.2.2.2.1 b.2.2.2.1 b.2.2.2.2.2.2.1 b.2.2.2.2.2.2.2 j
    else
      if p_2.Kind=1 then
        (qt a i77 i78 e i79 i80 f g 1 0 p_2.N).bind λc =>
        some (1,c.2.1,c.2.2.1,c.2.2.2.1,c.2.2.2.2.1,c.2.2.2.2.2.1,c.2.2.2.2.2.2.1,c.2.2.2.2.2.2.2)
      else
        if p_2.Kind=2 then
          none
        else
          if p_2.Kind=3 then
            none
          else
            if p_2.Kind=4 then
              none
            else
              if p_2.Kind=5 then
                none
              else
                if (6:Int)<=p_2.Kind then
                  if p_2.Kind<=18 then
                    (i64 (8+p_2.Kind)).bind λl =>
                    (i64 (l - 6)).bind λm =>
                    (qt a i77 i78 e i79 i80 f g m 0 0).bind λd =>
                    if p_2.Kind<=10 then
                      some (1,d.2.1,d.2.2.1,d.2.2.2.1,d.2.2.2.2.1,d.2.2.2.2.2.1,d.2.2.2.2.2.2.1,d.2.2.2.2.2.2.2)
                    else
                      none
                  else
                    if p_2.Kind=19 then
                      none
                    else
                      if p_2.Kind=20 then
                        (qt a i77 i78 e i79 i80 f g 27 ((Oa a.boxes p_2.Name).getD 0) 0).bind λo =>
                        ((Oa a.defs p_2.Name)).bind λp =>
                        (YE a p.Ob).bind λq =>
                        bD o q
                      else
                        none
                else
                  none
def aq (self:Py) (a:Mj) (b:Int) (c:Int) (d:List Int) (e:Int) (f:Int) (g:List te) (h:List (List (List UInt8×Int))) (p_2:Na):Option (Int×Int×Int×List Int×Int×Int×List te×List (List (List UInt8×Int))):=
  Nz self p_2 a (p_2.Kids.length+1) 0 b c e f d g h []
def oE:Nat->Py
  | 0=>⟨λ_ _ _ _ _ _ _ _ _=>none⟩
  | n+1=>⟨aq (oE n)⟩
structure fv where
  ht:Mj->Int->Int->(List Int)->Int->Int->(List te)->(List (List (List UInt8×Int)))->(List Ra)->Option (Int×Int×List Int×Int×Int×List te×List (List (List UInt8×Int)))
  jt:Mj->Int->Int->(List Int)->Int->Int->(List te)->(List (List (List UInt8×Int)))->Ra->Option (Int×Int×List Int×Int×Int×List te×List (List (List UInt8×Int)))
def Oz (self:fv) (p_2:List Ra) (c:Mj):Nat->Int->Int->Int->Int->Int->(List Int)->(List te)->(List (List (List UInt8×Int)))->Option (Int×Int×List Int×Int×Int×List te×List (List (List UInt8×Int)))
  | 0,_,_,_,_,_,_,_,_=>none
  | n+1,i81,i82,i83,i84,i85,d,e,b =>
    if i81<(p_2.length:Int) then
      (at_ p_2 i81).bind λf =>
      (self.jt c i82 i83 d i84 i85 e b f).bind λa =>
      (i64 (i81+1)).bind λg =>
      Oz self p_2 c n g a.1 a.2.1 a.2.2.2.1 a.2.2.2.2.1 a.2.2.1 a.2.2.2.2.2.1 a.2.2.2.2.2.2
    else
      (i64 ((b.length:Int) - 1)).bind λh =>
      (cut b 0 h).bind λi =>
      some (i82,i83,d,i84,i85,e,i)
def ht (self:fv) (a:Mj) (b:Int) (c:Int) (d:List Int) (e:Int) (f:Int) (g:List te) (h:List (List (List UInt8×Int))) (p_2:List Ra):Option (Int×Int×List Int×Int×Int×List te×List (List (List UInt8×Int))):=
  (app h [[]]).bind λi =>
  Oz self p_2 a (p_2.length+1) 0 b c e f d g i
def jt (fu:Nat) (self:fv) (d:Mj) (e:Int) (f:Int) (g:List Int) (h:Int) (i:Int) (j:List te) (k:List (List (List UInt8×Int))) (p_2:Ra):Option (Int×Int×List Int×Int×Int×List te×List (List (List UInt8×Int))):=
  if p_2.Kind=3 then
    none
  else
    if p_2.Kind=4 then
      none
    else
      if p_2.Kind=6 then
        none
      else
        ((oE fu).aq d e f g h i j k p_2.X).bind λa =>
        if p_2.Kind=1 then
          none
        else
          if p_2.Kind=2 then
            none
          else
            if p_2.Kind=5 then
              none
            else
              if p_2.Kind=7 then
                (qt d a.2.1 a.2.2.1 a.2.2.2.1 a.2.2.2.2.1 a.2.2.2.2.2.1 a.2.2.2.2.2.2.1 a.2.2.2.2.2.2.2 26 ((Oa d.boxes p_2.Name).getD 0) 0).bind λb =>
                some (b.2.1,b.2.2.1,b.2.2.2.1,b.2.2.2.2.1,b.2.2.2.2.2.1,b.2.2.2.2.2.2.1,b.2.2.2.2.2.2.2)
              else
                if p_2.Kind=8 then
                  (qt d a.2.1 a.2.2.1 a.2.2.2.1 a.2.2.2.2.1 a.2.2.2.2.2.1 a.2.2.2.2.2.2.1 a.2.2.2.2.2.2.2 28 0 0).bind λc =>
                  some (c.2.1,c.2.2.1,c.2.2.2.1,c.2.2.2.2.1,c.2.2.2.2.2.1,c.2.2.2.2.2.2.1,c.2.2.2.2.2.2.2)
                else
                  none
def HA:Nat->fv
  | 0=>⟨λ_ _ _ _ _ _ _ _ _=>none,λ_ _ _ _ _ _ _ _ _=>none⟩
  | n+1=>⟨ht (HA n),jt n (HA n)⟩
def pE (fu:Nat)  (p_1:Mj) (p_2:va):Option Zi :=
  if p_2.Kind≠4 then
    none
  else
    if p_2.Kind=3 then
      none
    else
      ((HA fu).ht p_1 p_2.Kind 0 ([]:List Int) 0 0 ([]:List te) [([]:List (List UInt8×Int))] p_2.Body).bind λa =>
      if p_2.Kind≠2 then
        (qt p_1 a.1 a.2.1 a.2.2.1 a.2.2.2.1 a.2.2.2.2.1 a.2.2.2.2.2.1 a.2.2.2.2.2.2 25 0 0).bind λb =>
        some (Zi.mk b.2.1 b.2.2.1 b.2.2.2.1 b.2.2.2.2.1 b.2.2.2.2.2.1 b.2.2.2.2.2.2.1)
      else
        none
def JC (a:Int) (b:List (List UInt8×Int)) (c:List (List UInt8×va)) (d:va) (e:va) (f:List (List UInt8×Int)) (g:Int->(List (List UInt8×Int))->(List (List UInt8×Int))->(List (List UInt8×va))->(List Gm)->Option (Be×Nd)) (h:List Gm):Option (Be×Nd):=
  (i64 (a+1)).bind λi =>
  g i f b (kd c d.Name e) h
def KC (p_1:List va) (a:Int) (b:List (List UInt8×Int)) (c:List (List UInt8×va)) (g:List Gm) (d:va) (e:va) (h:Int->(List (List UInt8×Int))->(List (List UInt8×Int))->(List (List UInt8×va))->(List Gm)->Option (Be×Nd)) (f:List (List UInt8×Int)):Option (Be×Nd):=
  (at_ p_1 a).bind λi =>
  (at_ p_1 a).bind λj =>
  (nE f b (kd c d.Name e) i.Ob).bind λk =>
  (app g [(Gm.mk k j.cg)]).bind λl =>
  JC a b c d e f h l
def LC (a:Int) (b:List (List UInt8×Int)) (c:List (List UInt8×va)) (d:List Gm) (e:va) (f:va) (g:Int->(List (List UInt8×Int))->(List (List UInt8×Int))->(List (List UInt8×va))->(List Gm)->Option (Be×Nd)) (h:List (List UInt8×Int)):Option (Be×Nd):=
  (i64 (a+1)).bind λi =>
  g i b h (kd c e.Name f) d
def wx (fu:Nat) (p_1:List va) (b:List (List UInt8×Int)) (c:List (List UInt8×Int)) (d:List (List UInt8×va)) (e:List Gm):Nat->Int->(List Zi)->Option (Be×Nd)
  | 0,_,_=>none
  | n+1,a,f =>
    if a<(p_1.length:Int) then
      (at_ p_1 a).bind λh =>
      if h.Kind=1 then
        (i64 (a+1)).bind λi =>
        wx fu p_1 b c d e n i f
      else
        (at_ p_1 a).bind λj =>
        (pE fu (Mj.mk b c d) j).bind λg =>
        if (200:Int)<(g.mj.length:Int) then
          none
        else
          if (4000:Int)<(g.Code.length:Int) then
            none
          else
            (app f [g]).bind λk =>
            (i64 (a+1)).bind λl =>
            wx fu p_1 b c d e n l k
    else
      some ((Be.mk e f),(Nd.mk 0 0))
def Cs (fu:Nat) (p_1:List va):Nat->Int->(List (List UInt8×Int))->(List (List UInt8×Int))->(List (List UInt8×va))->(List Gm)->Option (Be×Nd)
  | 0,_,_,_,_,_=>none
  | n+1,i162,a,b,c,d =>
    if i162<(p_1.length:Int) then
      (at_ p_1 i162).bind λe =>
      (at_ p_1 i162).bind λf =>
      (at_ p_1 i162).bind λg =>
      if g.Kind=1 then
        (at_ p_1 i162).bind λh =>
        KC p_1 i162 b c d e f (Cs fu p_1 n) (kd a h.Name (a.length:Int))
      else
        (at_ p_1 i162).bind λi =>
        LC i162 a c d e f (Cs fu p_1 n) (kd b i.Name (b.length:Int))
    else
      wx fu p_1 a b c d (p_1.length+1) 0 []
def cD (fu:Nat)  (p_1:List va):Option (Be×Nd):=
  (xm fu p_1).bind λa =>
  if a.De≠0 then
    none
  else
    Cs fu p_1 (p_1.length+1) 0 ([]:List (List UInt8×Int)) ([]:List (List UInt8×Int)) ([]:List (List UInt8×va)) []
structure Qy where
  stack:List Int
  Pa:Value
instance:Lh Qy where
  jj μ v x:=∃ a c,v=.agg ⟨[.slice a x.stack.length c,x.Pa]⟩/\ya μ a c x.stack
  up l h:=by obtain ⟨a,c,b,d⟩:=h;exact ⟨a,c,b,d.up l⟩
abbrev Km:=List (Value×List Bool)
def ga:Km->List (Int×zg)->List (Int×Qy)
  | b::bs,e::m=>(e.1,⟨e.2.stack,b.1⟩)::ga bs m
  | _,_=>[]
structure Ck (μ:M) (es:List MapEntry) (c:Nat) (bs:Km) (m:List (Int×zg)):Prop where
  vu:oe μ es c (ga bs m)
  has:bs.map (·.2)=m.map (·.2.has)
theorem Ck.up {μ J:M}{es:List MapEntry}{c:Nat}{bs:Km}{m:List (Int×zg)}(h:Ck μ es c bs m) (l:ha μ J):Ck J es c bs m:=⟨h.vu.up l,h.has⟩
theorem Ck.nil {μ:M}{c:Nat}:Ck μ [] c [] []:=⟨oe.nil,rfl⟩
def fh (T:TypeId) (bs:Km):List Ha:=bs.map λb=>.row b.1 T 1 b.2.length (b.2.map .bool)
theorem DF:∀ (bs:Km) (m:List (Int×zg)) (k:Int) (x:zg),bs.map (·.2)=m.map (·.2.has)->Oa m k=some x->∃ ka v ad,bs=ka++(v,x.has)::ad/\Oa (ga bs m) k=some ⟨x.stack,v⟩/\∀ c,ga (ka++(v,c)::ad) (kd m k ⟨x.stack,c⟩)=ga bs m/\(ka++(v,c)::ad).map (·.2)=(kd m k ⟨x.stack,c⟩).map (·.2.has)
  | bs,[],k,x,h,g=>by simp [Oa] at g
  | [],e::m,k,x,h,g=>by simp at h
  | b::bs,(a,y)::m,k,x,h,g=>by
    simp only [List.map_cons,List.cons.injEq] at h;obtain ⟨d,f⟩:=h;by_cases e:a=k
    · subst e;rw [Oa,if_pos rfl] at g;obtain rfl:=Option.some.inj g;refine ⟨[],b.1,bs,by rw [<- d];rfl,by rw [ga,Oa,if_pos rfl],λc=>?_⟩;rw [kd,if_pos rfl];exact ⟨rfl,by simp [f]⟩
    · rw [Oa,if_neg e] at g;obtain ⟨ka,v,ad,ua,i,j⟩:=DF bs m k x f g;refine ⟨b::ka,v,ad,by rw [ua];rfl,by rw [ga,Oa,if_neg e,i],λc=>?_⟩;obtain ⟨l,n⟩:=j c;rw [kd,if_neg e];refine ⟨?_,?_⟩
      · show ga (b::(ka++(v,c)::ad)) _=_;rw [ga,ga,l]
      · show (b::(ka++(v,c)::ad)).map (·.2)=_;rw [List.map_cons,n,List.map_cons,d]
theorem WK:∀ (bs:Km) (m:List (Int×zg)) (k:Int),Oa m k=none->Oa (ga bs m) k=none
  | bs,[],k,g=>by cases bs <;> rfl
  | [],e::m,k,g=>rfl
  | b::bs,(a,y)::m,k,g=>by
    by_cases e:a=k
    · rw [Oa,if_pos e] at g;cases g
    · rw [Oa,if_neg e] at g;rw [ga,Oa,if_neg e,WK bs m k g]
theorem pK:∀ (bs:Km) (m:List (Int×zg)) (k:Int) (st:List Int) (v:Value) (h:List Bool),bs.map (·.2)=m.map (·.2.has)->Oa m k=none ->
    kd (ga bs m) k ⟨st,v⟩=ga (bs++[(v,h)]) (kd m k ⟨st,h⟩)/\(bs++[(v,h)]).map (·.2)=(kd m k ⟨st,h⟩).map (·.2.has)
  | [],[],k,st,v,h,e,g=>⟨rfl,rfl⟩
  | b::bs,[],k,st,v,h,e,g=>by simp at e
  | [],e::m,k,st,v,h,d,g=>by simp at d
  | b::bs,(a,y)::m,k,st,v,h,e,g=>by
    simp only [List.map_cons,List.cons.injEq] at e;obtain ⟨f,i⟩:=e;by_cases c:a=k
    · rw [Oa,if_pos c] at g;cases g
    · rw [Oa,if_neg c] at g;obtain ⟨j,l⟩:=pK bs m k st v h i g;rw [ga,kd,if_neg c,kd,if_neg c,j];refine ⟨?_,?_⟩
      · show _=ga (b::(bs++[(v,h)])) _;rw [ga]
      · show (b::(bs++[(v,h)])).map (·.2)=_;rw [List.map_cons,l,List.map_cons,f]
theorem gR {m:List (Int×zg)}{k:Int}(h:¬ (Oa m k).isSome=true):Oa m k=none:=by
  cases e:Oa m k with
  | none=>rfl
  | some x=>rw [e] at h; exact absurd rfl h
theorem Ck.new {μ:M}{es:List MapEntry}{c:Nat}{bs:Km}{m:List (Int×zg)}{k:Int}{st:List Int}{v:Value}{h:List Bool}{a:List MapEntry}{c':Nat}{I:M}(p:Ck I es c bs m) (g:Oa m k=none) (q:oe μ a c' (kd (ga bs m) k ⟨st,v⟩)):Ck μ a c' (bs++[(v,h)]) (kd m k ⟨st,h⟩):=by
  obtain ⟨ua,b⟩:=pK bs m k st v h p.has g;exact ⟨by rw [<- ua];exact q,b⟩
theorem qE {μ:M}:∀ h:List Bool,qa μ (h.map Value.bool) h
  | []=>rfl
  | b::h=>qa.cons (cs:=[.bool b]) rfl (qE h)
theorem FH {μ:M}:∀ {h:List Bool}{cells:List Value},qa μ cells h->cells=h.map Value.bool
  | [],cells,r=>r
  | b::h,cells,r=>by
    obtain ⟨cs,t,rfl,a,c⟩:=r;rw [show cs=[.bool b] from a,FH c];rfl
section
variable {μ:M}{da w:World}{T:TypeId}{a p R:List Ha}{ka ad bs:Km}{v:Value}{h:List Bool}
theorem AI (b:fa μ da w (a++(fh T (ka++(v,h)::ad)++R))):fa μ da w (.row v T 1 h.length (h.map .bool)::(a++(fh T (ka++ad)++R))):=
  b.perm (by
    unfold fh;simp only [List.map_append,List.map_cons,List.append_assoc,List.cons_append];exact (List.perm_middle.append_left a).trans List.perm_middle)
theorem XH {cells:List Value}(b:fa μ da w (.row v T 1 h.length cells::(a++(fh T (ka++ad)++R)))) (c:qa μ cells h):fa μ da w (a++(fh T (ka++(v,h)::ad)++R)):=by
  rw [FH c] at b;exact b.perm (by
    unfold fh;simp only [List.map_append,List.map_cons,List.append_assoc,List.cons_append];exact ((List.perm_middle.append_left a).trans List.perm_middle).symm)
theorem CP {cells:List Value}(b:fa μ da w (.row v T 1 h.length cells::(a++(fh T bs++R)))) (c:qa μ cells h):fa μ da w (a++(fh T (bs++[(v,h)])++R)):=by
  have d:fa μ da w (.row v T 1 h.length cells::(a++(fh T (bs++[])++R))):=by rw [List.append_nil];exact b
  exact XH d c
theorem wO (c:fa μ da w (a++(fh T bs++R))):fa μ da w (a++R):=by
  have b:fa μ da w (fh T bs++(a++R)):=c.perm (by rw [<- List.append_assoc,<- List.append_assoc];exact List.Perm.append_right R List.perm_append_comm);generalize fh T bs=l at b
  induction l with
  | nil=>exact b
  | cons r l d=>exact d (b.drop .z)
end
section
variable {P:Program}{Q:Exit->Act->World->Prop}{K:List Value->List Deferred->World->Prop}{fr Aa:List Value}{ds:List Deferred}{w:World}
variable {dst:Option Tmp}{ty:TypeId}{pos:String}{after:Array Edge}{g:Option (Nat×Bool)}{μ:M}{T:TypeId}
variable {x y:Operand}{me ba:TypeId}{b c:Nat}{es:List MapEntry}{m:List (Int×Qy)}{k:Int}
theorem qK {μ:M}:Lh.jj μ (.agg ⟨[.slice none 0 0,.slice none 0 0]⟩) (⟨[],.slice none 0 0⟩:Qy):=⟨none,0,rfl,ya.nil⟩
theorem hR {st:List Int}{Pa:Value}(e:P.underlying T=some (.map me ba)) (f:P.underlying me=some (gb.bd (κ:=Int))) (i:ab fr x (.map (some b))) (j:ab fr y (gb.key k))
    (l:∀ w,(zeroValue ba).run P w=.ok (.agg ⟨[.slice none 0 0,.slice none 0 0]⟩) w) (n:w.heap[b]?=some (.map ⟨es⟩ c)) (o:oe μ es c m) (ux:Oa m k=some ⟨st,Pa⟩)
    (h:∀ a c,ya μ a c st->Rg fr dst (.agg ⟨[.slice a st.length c,Pa]⟩) λAa=>K Aa ds w):yd P (Oper.mk dst (.lookup T x y false) ty pos after g) fr ds w K Q :=
  Ln e f i j l qK n o λv d=>by
    rw [ux] at d;obtain ⟨a,c,rfl,m⟩:=d;exact h a c m
theorem iR {st:List Int}{Pa:Value}(e:P.underlying T=some (.map me ba)) (f:P.underlying me=some (gb.bd (κ:=Int))) (i:ab fr x (.map (some b))) (j:ab fr y (gb.key k))
    (l:∀ w,(zeroValue ba).run P w=.ok (.agg ⟨[.slice none 0 0,.slice none 0 0]⟩) w) (n:w.heap[b]?=some (.map ⟨es⟩ c)) (o:oe μ es c m) (ux:Oa m k=some ⟨st,Pa⟩)
    (h:∀ a c,ya μ a c st->Rg fr dst (.tuple ⟨[.agg ⟨[.slice a st.length c,Pa]⟩,.bool true]⟩) λAa=>K Aa ds w):yd P (Oper.mk dst (.lookup T x y true) ty pos after g) fr ds w K Q :=
  tJ e f i j l qK n o λv d=>by
    rw [ux] at d ⊢;obtain ⟨a,c,rfl,m⟩:=d;exact h a c m
theorem DP (f:P.underlying T=some (.map me ba)) (i:P.underlying me=some (gb.bd (κ:=Int))) (j:ab fr x (.map (some b))) (l:ab fr y (gb.key k))
    (n:∀ w,(zeroValue ba).run P w=.ok (.agg ⟨[.slice none 0 0,.slice none 0 0]⟩) w) (o:w.heap[b]?=some (.map ⟨es⟩ c)) (a:oe μ es c m) (ux:Oa m k=none)
    (h:Rg fr dst (.tuple ⟨[.agg ⟨[.slice none 0 0,.slice none 0 0]⟩,.bool false]⟩) λAa=>K Aa ds w):yd P (Oper.mk dst (.lookup T x y true) ty pos after g) fr ds w K Q:=by
  obtain ⟨Aa,Ea⟩:=Xi fr dst (.tuple #[ql es (gb.key k) (.agg ⟨[.slice none 0 0,.slice none 0 0]⟩),.bool (Gt es (gb.key k))]);refine kE f i j l (gb.me k) n o a.kv.keys Ea ?_;rw [a.kv.has k,ux] at Ea;have ma:=a.kv.look k;have e:ql es (gb.key k) (.agg ⟨[.slice none 0 0,.slice none 0 0]⟩)=.agg ⟨[.slice none 0 0,.slice none 0 0]⟩:=by
    unfold ql;rw [Wx];cases q:mm (gb.key k) es with
    | none=>rfl
    | some p=>rw [q] at ma; obtain ⟨x,d,r⟩:=ma; rw [ux] at d; cases d
  rw [e] at Ea;exact h Aa Ea
end
def fy  (p_1:Int):Option Bool :=
  if p_1=1 then
    some true
  else
    none
def Pz  (a:Bool):Option Int :=
  if a=true then
    some 0
  else
    none
def Qz (p_1:ug) (p_3:te) (a:Bool):Option Int :=
  if a=true then
    if (0:Int)<=p_3.A then
      (p_1.m).bind λb =>
      Pz (decide (p_3.A<(b.Yc.length:Int)))
    else
      none
  else
    if p_3.Op<1 then
      none
    else
      if (32:Int)<p_3.Op then
        none
      else
        Pz true
def rE  (p_1:ug) (p_2:Zi) (p_3:te):Option Int :=
  if p_3.Op=2 then
    none
  else
    if p_3.Op=3 then
      none
    else
      if p_3.Op=4 then
        none
      else
        if p_3.Op=21 then
          none
        else
          if p_3.Op=22 then
            none
          else
            if p_3.Op=23 then
              none
            else
              if p_3.Op=29 then
                none
              else
                if p_3.Op=26 then
                  Qz p_1 p_3 (decide (p_3.Op=26))
                else
                  Qz p_1 p_3 (decide (p_3.Op=27))
def pA (p_1:List Int) (p_2:Int->Option Bool):Nat->Int->Option Int
  | 0,_=>none
  | n+1,i20 =>
    if i20<(p_1.length:Int) then
      (at_ p_1 i20).bind λa =>
      (p_2 a).bind λb =>
      if b=true then
        some i20
      else
        (i64 (i20+1)).bind λc =>
        pA p_1 p_2 n c
    else
      some (-1)
def EF  (p_1:List Int) (p_2:Int->Option Bool):Option Int :=
  pA p_1 p_2 (p_1.length+1) 0
def eB  (p_1:List Int) (p_2:Int->Option Bool):Option Bool :=
  (EF p_1 p_2).bind λa =>
  some (decide ((0:Int)<=a))
def qA (p_1:List te) (p_2:te->Option Bool):Nat->Int->Option Int
  | 0,_=>none
  | n+1,i20 =>
    if i20<(p_1.length:Int) then
      (at_ p_1 i20).bind λa =>
      (p_2 a).bind λb =>
      if b=true then
        some i20
      else
        (i64 (i20+1)).bind λc =>
        qA p_1 p_2 n c
    else
      some (-1)
def FF  (p_1:List te) (p_2:te->Option Bool):Option Int :=
  qA p_1 p_2 (p_1.length+1) 0
def GF  (p_1:List te) (p_2:te->Option Bool):Option Bool :=
  (FF p_1 p_2).bind λa =>
  some (decide ((0:Int)<=a))
def sE  (p_1:Int) (p_2:Option ug):Option Bool :=
  (fy p_1).bind λa =>
  if a=true then
    none
  else
    none
def ZE  (p_1:ug) (p_2:Zi):Option Int :=
  if p_2.Kind≠2 then
    if p_2.Kind≠3 then
      if p_2.Kind≠4 then
        none
      else
        if (200:Int)<(p_2.mj.length:Int) then
          none
        else
          if p_2.Params<0 then
            none
          else
            if (6:Int)<p_2.Params then
              none
            else
              if (p_2.mj.length:Int)<p_2.Params then
                none
              else
                if p_2.Kind=4 then
                  if (0:Int)<p_2.Params then
                    none
                  else
                    if (p_2.Code.length:Int)<1 then
                      none
                    else
                      if (4000:Int)<(p_2.Code.length:Int) then
                        none
                      else
                        if p_2.Kind≠4 then
                          none
                        else
                          if p_2.Kind=3 then
                            none
                          else
                            (eB p_2.mj (λa=>sE a (some p_1))).bind λb =>
                            if b=true then
                              none
                            else
                              some 0
                else
                  none
    else
      none
  else
    none
def cA (p_1:ug) (b:Int) (c:Int) (a:Zi) (d:Int->Int->Option fj):Nat->Int->Option fj
  | 0,_=>none
  | n+1,i247 =>
    if i247<(a.Code.length:Int) then
      (at_ a.Code i247).bind λe =>
      (rE p_1 a e).bind λf =>
      if f≠0 then
        none
      else
        (i64 (i247+1)).bind λg =>
        cA p_1 b c a d n g
    else
      if a.Kind=4 then
        (i64 (b+1)).bind λh =>
        (i64 (c+1)).bind λi =>
        d h i
      else
        none
def Vx (p_1:ug) (a:Be):Nat->Int->Int->Option fj
  | 0,_,_=>none
  | n+1,i143,i144 =>
    if i144<(a.ef.length:Int) then
      (at_ a.ef i144).bind λb =>
      (ZE p_1 b).bind λc =>
      if c≠0 then
        none
      else
        cA p_1 i143 i144 b (Vx p_1 a n) (b.Code.length+1) 0
    else
      if i143=0 then
        none
      else
        some (fj.mk 0 0 0)
def dA (p_1:ug) (a:Be):Nat->Int->Option fj
  | 0,_=>none
  | n+1,i39 =>
    if i39<(a.Yc.length:Int) then
      (at_ a.Yc i39).bind λb =>
      (fy b.Ob).bind λc =>
      if c=true then
        if b.cg<1 then
          none
        else
          if (20:Int)<b.cg then
            none
          else
            (i64 (i39+1)).bind λd =>
            dA p_1 a n d
      else
        none
    else
      Vx p_1 a (a.ef.length+1) 0 0
def aF  (p_1:ug):Option fj :=
  (p_1.m).bind λa =>
  if (30:Int)<(a.Yc.length:Int) then
    none
  else
    if (30:Int)<(a.ef.length:Int) then
      none
    else
      dA p_1 a (a.Yc.length+1) 0
def MC  (a:List Int) (b:List Bool):Option zg :=
  some (zg.mk a b)
def qD  (p_1:zg):Option zg :=
  (small p_1.stack).bind λa =>
  (small p_1.has).bind λb =>
  MC p_1.stack p_1.has
def NC  (a:List Int) (b:List Bool):Option zg :=
  some (zg.mk a b)
def rD  (p_1:zg):Option zg :=
  (small p_1.stack).bind λa =>
  (small p_1.has).bind λb =>
  NC p_1.stack p_1.has
def ky  (b:List Int) (c:Int) (p_2:Int):Option (List Int×Int):=
  (app b [p_2]).bind λa =>
  if (300:Int)<(a.length:Int) then
    none
  else
    some (a,c)
def fB  (a:List Int) (b:Int):Option (Int×List Int×Int):=
  if (a.length:Int)=0 then
    none
  else
    (i64 ((a.length:Int) - 1)).bind λc =>
    (at_ a c).bind λd =>
    (i64 ((a.length:Int) - 1)).bind λe =>
    (cut a 0 e).bind λf =>
    some (d,f,b)
def eA (p_2:List Int):Nat->Int->Int->(List Int)->Option (List Int×Int)
  | 0,_,_,_=>none
  | n+1,i36,i37,b =>
    if (0:Int)<=i36 then
      (fB b i37).bind λa =>
      (at_ p_2 i36).bind λc =>
      if a.1≠c then
        none
      else
        (i64 (i36 - 1)).bind λd =>
        eA p_2 n d a.2.2 a.2.1
    else
      some (b,i37)
def UA (fu:Nat)  (a:List Int) (b:Int) (p_2:List Int):Option (List Int×Int):=
  (i64 ((p_2.length:Int) - 1)).bind λc =>
  eA p_2 fu c b a
def tE (p_2:Int) (a:List Int) (b:List Int) (c:List Bool) (d:Int) (e:List (Int×zg)):Option (List (Int×zg)×List Int×List Int×List Bool×Int):=
  (app a [p_2]).bind λf =>
  some (e,f,b,c,d)
def tB  (h:ug) (f:Zi) (a:List (Int×zg)) (g:List Int) (b:List Int) (c:List Bool) (d:Int) (p_2:Int):Option (List (Int×zg)×List Int×List Int×List Bool×Int):=
  if d≠0 then
    none
  else
    if p_2=(f.Code.length:Int) then
      none
    else
      if (Oa a p_2).isSome=true then
        (Oa a p_2).bind λi =>
        none
      else
        (qD (zg.mk b c)).bind λe =>
        tE p_2 g b c d (kd a p_2 (zg.mk e.stack e.has))
def bF  (a:List Int) (b:Int):Option (Bool×List Int×Int):=
  if (0:Int)<(a.length:Int) then
    none
  else
    some (false,a,b)
def Ex (a:List (Int×zg)) (b:List Int) (c:List Bool) (d:Int) (e:List Int):Option (Bool×List (Int×zg)×List Int×List Int×List Bool×Int):=
  some (true,a,b,e,c,d)
def sD (fu:Nat)  (h:ug) (k:Zi) (a:List (Int×zg)) (b:List Int) (c:List Int) (d:List Bool) (e:Int) (p_2:te):Option (Bool×List (Int×zg)×List Int×List Int×List Bool×Int):=
  if p_2.Op=23 then
    none
  else
    if p_2.Op=29 then
      none
    else
      if p_2.Op=24 then
        none
      else
        if p_2.Op=25 then
          if k.Kind=2 then
            none
          else
            (bF c e).bind λg =>
            some (g.1,a,b,g.2.1,d,g.2.2)
        else
          if p_2.Op=26 then
            (h.m).bind λl =>
            (at_ l.Yc p_2.A).bind λn =>
            (UA fu c e [n.Ob]).bind λi =>
            Ex a b d i.2 i.1
          else
            if p_2.Op=27 then
              (h.m).bind λo =>
              (at_ o.Yc p_2.A).bind λp =>
              (ky c e p.Ob).bind λj =>
              Ex a b d j.2 j.1
            else
              if p_2.Op=28 then
                (fB c e).bind λf =>
                if f.2.2=0 then
                  (fy f.1).bind λq =>
                  if q=true then
                    Ex a b d f.2.2 f.2.1
                  else
                    none
                else
                  none
              else
                none
def fA (a:List (Int×zg)) (b:List Int) (c:List Bool) (d:Int) (e:List Int):Option (Bool×List (Int×zg)×List Int×List Int×List Bool×Int):=
  some (true,a,b,e,c,d)
def cF (fu:Nat)  (j:ug) (k:Zi) (b:List (Int×zg)) (c:List Int) (d:List Int) (e:List Bool) (f:Int) (p_2:te):Option (Bool×List (Int×zg)×List Int×List Int×List Bool×Int):=
  if p_2.Op=1 then
    (ky d f 1).bind λg =>
    fA b c e g.2 g.1
  else
    if p_2.Op=2 then
      none
    else
      if p_2.Op=3 then
        none
      else
        if p_2.Op=4 then
          none
        else
          if p_2.Op=5 then
            none
          else
            if p_2.Op=6 then
              none
            else
              if p_2.Op=7 then
                none
              else
                if (8:Int)<=p_2.Op then
                  if p_2.Op<=12 then
                    (UA fu d f [1,1]).bind λh =>
                    (ky h.1 h.2 1).bind λi =>
                    fA b c e i.2 i.1
                  else
                    if p_2.Op=13 then
                      none
                    else
                      if p_2.Op=14 then
                        none
                      else
                        if (15:Int)<=p_2.Op then
                          if p_2.Op<=18 then
                            none
                          else
                            if p_2.Op=19 then
                              none
                            else
                              if p_2.Op=20 then
                                none
                              else
                                if p_2.Op=21 then
                                  none
                                else
                                  if p_2.Op=22 then
                                    none
                                  else
                                    (sD fu j k b c d e f p_2).bind λa =>
                                    some (a.1,a.2.1,a.2.2.1,a.2.2.2.1,a.2.2.2.2.1,a.2.2.2.2.2)
                        else
                          none
                else
                  none
def gA (b:Int->(List Bool)->(List Int)->(List Int)->(List (Int×zg))->Option fj) (a:Int) (c:List Bool) (d:List Int) (e:List Int) (f:List (Int×zg)):Option fj :=
  if a≠0 then
    none
  else
    b a c d e f
def Wv (fu:Nat) (p_1:ug) (b:Zi):Nat->Int->(List Bool)->(List Int)->(List Int)->(List (Int×zg))->Option fj
  | 0,_,_,_,_,_=>none
  | n+1,i166,l,d,m,f =>
    if (0:Int)<(d.length:Int) then
      (at_ d 0).bind λe =>
      (cut d 1 d.length).bind λh =>
      (Oa f e).bind λi =>
      (rD i).bind λg =>
      (at_ b.Code e).bind λj =>
      (cF fu p_1 b f h g.stack g.has i166 j).bind λa =>
      if a.1=true then
        (i64 (e+1)).bind λk =>
        (tB p_1 b a.2.1 a.2.2.1 a.2.2.2.1 a.2.2.2.2.1 a.2.2.2.2.2 k).bind λc =>
        gA (Wv fu p_1 b n) c.2.2.2.2 c.2.2.2.1 c.2.1 c.2.2.1 c.1
      else
        gA (Wv fu p_1 b n) a.2.2.2.2.2 a.2.2.2.2.1 a.2.2.1 a.2.2.2.1 a.2.1
    else
      some (fj.mk 0 0 0)
def tD (fu:Nat) (p_1:ug) (b:Zi) (c:Nat):Nat->Option fj
  | 0=>none
  | n+1 =>
    if (0:Int)<b.Params then
      none
    else
      (tB p_1 b ([]:List (Int×zg)) ([]:List Int) ([]:List Int) (List.replicate c (false:Bool)) 0 0).bind λa =>
      Wv fu p_1 b fu a.2.2.2.2 a.2.2.2.1 a.2.1 a.2.2.1 a.1
def dF (fu:Nat)  (p_1:ug) (p_2:Int):Option fj :=
  (p_1.m).bind λb =>
  (at_ b.ef p_2).bind λa =>
  (Tw (a.mj.length:Int)).bind λc =>
  tD fu p_1 a c ((a.Params - 0).toNat+1)
def Rz (b:Int) (a:Zi) (c:Int->Option (List Int)):Nat->Int->Option (List Int)
  | 0,_=>none
  | n+1,i242 =>
    if i242<(a.Code.length:Int) then
      (at_ a.Code i242).bind λd =>
      if d.Op=23 then
        none
      else
        if d.Op=29 then
          none
        else
          (i64 (i242+1)).bind λe =>
          Rz b a c n e
    else
      (i64 (b+1)).bind λf =>
      c f
def Lx (p_1:ug) (p_2:Int):Nat->Int->Option (List Int)
  | 0,_=>none
  | n+1,i98 =>
    if i98<(([p_2]:List Int).length:Int) then
      (p_1.m).bind λb =>
      (at_ ([p_2]:List Int) i98).bind λc =>
      (at_ b.ef c).bind λa =>
      Rz i98 a (Lx p_1 p_2 n) (a.Code.length+1) 0
    else
      some ([p_2]:List Int)
def uE (fu:Nat)  (p_1:ug) (p_2:Int):Option (List Int):=
  Lx p_1 p_2 fu 0
def uD  (p_1:te) (p_2:Int) (p_3:Int):Option Bool :=
  if p_1.Op=p_2 then
    some (decide (p_1.A=p_3))
  else
    some false
def MD  (p_1:Int) (p_2:Option ug) (p_3:Int) (a:Int):Option Bool :=
  (p_2).bind λb =>
  (b.m).bind λc =>
  (at_ c.ef p_1).bind λd =>
  (GF d.Code (λe=>uD e p_3 a)).bind λf =>
  some f
def Mx (fu:Nat) (p_1:ug) (b:Be) (c:Int) (d:Int) (e:Int) (f:Int->Option fj):Nat->Int->Int->Option fj
  | 0,_,_=>none
  | n+1,g,a =>
    if a<(b.ef.length:Int) then
      (at_ b.ef a).bind λh =>
      if h.Kind=4 then
        (uE fu p_1 a).bind λi =>
        (eB i (λj=>MD j (some p_1) e c)).bind λk =>
        if k=true then
          (i64 (g+1)).bind λl =>
          (i64 (a+1)).bind λm =>
          Mx fu p_1 b c d e f n l m
        else
          (i64 (a+1)).bind λo =>
          Mx fu p_1 b c d e f n g o
      else
        none
    else
      if (1:Int)<g then
        none
      else
        (i64 (d+1)).bind λp =>
        f p
def Nx (fu:Nat) (p_1:ug) (a:Be) (b:Int) (d:Int->Option fj):Nat->Int->Option fj
  | 0,_=>none
  | n+1,c =>
    if c<2 then
      (at_ [26,27] c).bind λe =>
      Mx fu p_1 a b c e (Nx fu p_1 a b d n) (a.ef.length+1) 0 0
    else
      (i64 (b+1)).bind λf =>
      d f
def Sv (fu:Nat) (p_1:ug) (a:Be):Nat->Int->Option fj
  | 0,_=>none
  | n+1,i363 =>
    if i363<(a.Yc.length:Int) then
      Nx fu p_1 a i363 (Sv fu p_1 a n) 3 0
    else
      some (fj.mk 0 0 0)
def vE (fu:Nat)  (p_1:ug):Option fj :=
  (p_1.m).bind λa =>
  Sv fu p_1 a (a.Yc.length+1) 0
def Gz (fu:Nat) (p_1:Be):Nat->Int->Option fj
  | 0,_=>none
  | n+1,i30 =>
    if i30<(p_1.ef.length:Int) then
      (dF fu (ug.mk (some p_1)) i30).bind λa =>
      if a.De≠0 then
        none
      else
        (i64 (i30+1)).bind λb =>
        Gz fu p_1 n b
    else
      (vE fu (ug.mk (some p_1))).bind λc =>
      some c
def ND (fu:Nat)  (p_1:Be):Option fj :=
  (aF (ug.mk (some p_1))).bind λa =>
  if a.De≠0 then
    none
  else
    Gz fu p_1 (p_1.ef.length+1) 0
def HF  (p_1:Int) (p_2:Int):Option (List Int×Int×Int×Int):=
  (Tw p_1).bind λa =>
  some ((List.replicate a (0:Int)),0,p_1,p_2)
def eF  (a:Int):Option Int :=
  some a
def vD (b:List Int) (p_2:Int) (a:Int) (c:Int) (d:Int):Option (Bool×List Int×Int×Int×Int):=
  if a=(b.length:Int) then
    none
  else
    (at_ b a).bind λf =>
    (i64 (a+1)).bind λe =>
    some (true,(b.set a.toNat p_2),e,c,d)
def fF  (c:List Int) (a:Int) (d:Int) (b:Int) (p_2:Int):Option (Bool×List Int×Int×Int×Int):=
  if a=b then
    none
  else
    vD c p_2 a d b
def IF  (a:List Int) (d:Int) (b:Int) (e:Int) (p_2:Int):Option (List Int×Int×Int×Int):=
  (i64 (d - p_2)).bind λc =>
  (quo (a.length:Int) 4).bind λf =>
  if c<=f then
    if b<(a.length:Int) then
      none
    else
      some (a,c,b,e)
  else
    none
def gw  (p_2:Int) (p_3:Int) (a:Int):Option Unit :=
  some ()
def JF  (p_1:Int) (p_2:Int) (p_3:Int):Option Int :=
  if p_1=8 then
    some (km (p_2+p_3))
  else
    none
def Sz (p_1:Be):Nat->Int->(List Int)->Option (List Int)
  | 0,_,_=>none
  | n+1,i39,a =>
    if i39<(p_1.ef.length:Int) then
      (at_ p_1.ef i39).bind λb =>
      if b.Kind=4 then
        (app a [i39]).bind λc =>
        (i64 (i39+1)).bind λd =>
        Sz p_1 n d c
      else
        none
    else
      some a
def wE  (p_1:Be):Option (List Int):=
  Sz p_1 (p_1.ef.length+1) 0 []
def KF  (p_1:Int):Option (List Int×Int×Int):=
  (Tw p_1).bind λa =>
  some ((List.replicate a (0:Int)),0,0)
def wD (a:List Int) (b:Int):Option Bool :=
  some (decide (b=(a.length:Int)))
def gF  (a:List Int) (c:Int) (b:Int):Option Bool :=
  wD a b
def xE  (a:Int):Option Bool :=
  some (decide (a=0))
def OD (a:Int) (b:Int) (c:List Int):Option (List Int×Int×Int):=
  (i64 (b+1)).bind λd =>
  some (c,a,d)
def LF  (a:List Int) (b:Int) (c:Int) (p_2:Int):Option (List Int×Int×Int):=
  (i64 (b+c)).bind λe =>
  (Vt e (a.length:Int)).bind λd =>
  (at_ a d).bind λf =>
  OD b c (a.set d.toNat p_2)
def xD (a:List Int) (b:Int) (c:Int) (d:Int):Option (Int×List Int×Int×Int):=
  (i64 (b - 1)).bind λe =>
  some (c,a,d,e)
def hF  (a:List Int) (b:Int) (c:Int):Option (Int×List Int×Int×Int):=
  (at_ a b).bind λd =>
  (i64 (b+1)).bind λe =>
  (Vt e (a.length:Int)).bind λf =>
  xD a c d f
def dD (a:Int):Nat->Option (List Int)
  | 0=>none
  | n+1 =>
    if (0:Int)<a then
      none
    else
      some ([]:List Int)
def yE  (b:List Int) (c:Int) (a:Int):Option (List Int):=
  dD a ((a - 0).toNat+1)
structure Ee where
  l:List Int
  first:Int
  n:Int
deriving Inhabited
def iF (bs:List Ee) (i:Int):Option Bool:=(at_ bs i).bind λb=>gF b.l b.first b.n
def zE (bs:List Ee) (i:Int):Option Bool:=(at_ bs i).bind λb=>xE b.n
def MF (bs:List Ee) (i v:Int):Option (List Ee):=
  (at_ bs i).bind λb=>(LF b.l b.first b.n v).bind λr=>some (bs.set i.toNat ⟨r.1,r.2.1,r.2.2⟩)
def jF (bs:List Ee) (i:Int):Option (Int×List Ee):=
  (at_ bs i).bind λb=>(hF b.l b.first b.n).bind λr=>some (r.1,bs.set i.toNat ⟨r.2.1,r.2.2.1,r.2.2.2⟩)
structure vg where
  unit:Int
  Mh:Int
  base:Int
  deriving DecidableEq,Inhabited,Repr
instance:Ma vg where
  sz:=3
  pos:=by decide
  cs μ l x:=l=[.int .i64 x.unit,.int .i64 x.Mh,.int .i64 x.base]
  Uh h:=by obtain rfl:=h;rfl
  up le h:=by exact h
  pg h:=by obtain rfl:=h;rfl
def ly  (b:Int) (c:Int) (d:Int) (e:List Int) (f:Int) (g:Int) (h:Int) (p_2:Int):Option (Int×Int×Int×List Int×Int×Int×Int):=
  (fF e f g h p_2).bind λa =>
  if a.1=true then
    some (b,c,d,a.2.1,a.2.2.1,a.2.2.2.1,a.2.2.2.2)
  else
    none
def uw  (d:Int) (e:Int) (f:Int) (b:List Int) (c:Int) (g:Int) (h:Int):Option (Int×Int×Int×Int×List Int×Int×Int×Int):=
  (eF c).bind λi =>
  (i64 (i - 1)).bind λj =>
  (at_ b j).bind λk =>
  (IF b c g h 1).bind λa =>
  some (k,d,e,f,a.1,a.2.1,a.2.2.1,a.2.2.2)
def Tz (b:List Ee) (c:Int) (a:Int) (d:Int):Option (Bool×List Ee×Int×Int×Int):=
  some (decide (a≠1),b,a,d,c)
def eD (p_2:te) (a:List Ee) (b:Int):Option (Bool×List Ee×Int×Int×Int):=
  Tz a b 3 p_2.A
def Uz (p_2:te) (a:List Ee) (b:Int) (c:Bool):Option (Bool×List Ee×Int×Int×Int):=
  if c=true then
    eD p_2 a b
  else
    Tz a b 1 0
def Vz (p_2:te) (a:List Ee) (b:Int) (ng:Bool):Option (Bool×List Ee×Int×Int×Int):=
  if ng=true then
    none
  else
    if p_2.Op=27 then
      (zE a p_2.A).bind λc =>
      Uz p_2 a b c
    else
      Uz p_2 a b false
def AE  (a:List Ee) (d:Int) (e:Int) (b:Int) (p_2:te):Option (Bool×List Ee×Int×Int×Int):=
  if p_2.Op=26 then
    (iF a p_2.A).bind λc =>
    Vz p_2 a b c
  else
    Vz p_2 a b false
def yD (d:Be) (e:List Ee) (f:Int) (g:Int) (h:Int) (b:List vg) (i:Int):Option (List Ee×Int×Int×Int×List vg):=
  (at_ b i).bind λc =>
  (at_ d.ef c.unit).bind λj =>
  (at_ j.Code c.Mh).bind λk =>
  (AE e f g h k).bind λa =>
  some (a.2.1,a.2.2.1,a.2.2.2.1,a.2.2.2.2,b)
def iw  (g:Be) (c:List Ee) (b:Int) (d:Int) (e:Int) (a:List vg):Option (List Ee×Int×Int×Int×List vg):=
  if b<=3 then
    (i64 ((a.length:Int) - 1)).bind λf =>
    (at_ a f).bind λh =>
    yD g c b d e a f
  else
    some (c,b,d,e,a)
def Fu (c:Be) (d:Int) (e:List Ee×Int×Int×Int×List vg) (f:Int) (b:vg) (g:Int) (h:Int) (i:Int) (j:Int) (k:List Ee) (l:List Int) (m:Int) (n:Int) (o:Int) (p:List Int):Option (Bool×List Ee×Int×Int×Int×List Int×Int×List vg×List Int×Int×Int×Int):=
  (iw c k h i j (e.2.2.2.2.set f.toNat (vg.mk b.unit g b.base))).bind λa =>
  some (true,a.1,a.2.1,a.2.2.1,a.2.2.2.1,l,d,a.2.2.2.2,p,m,n,o)
def zD (k:Be) (m:List Int) (n:Int) (o:List Int) (p:Int) (q:Int) (r:Int) (a:List Ee×Int×Int×Int×List vg) (l:Int):Option (Bool×List Ee×Int×Int×Int×List Int×Int×List vg×List Int×Int×Int×Int):=
  (at_ a.2.2.2.2 l).bind λe =>
  (at_ k.ef e.unit).bind λu =>
  (at_ u.Code e.Mh).bind λb =>
  (i64 (e.Mh+1)).bind λs =>
  if b.Op=1 then
    (ly a.2.1 a.2.2.1 a.2.2.2.1 o p q r b.N).bind λh =>
    Fu k n a l e s h.1 h.2.1 h.2.2.1 a.1 m h.2.2.2.2.1 h.2.2.2.2.2.1 h.2.2.2.2.2.2 h.2.2.2.1
  else
    if b.Op=2 then
      none
    else
      if b.Op=3 then
        none
      else
        if b.Op=4 then
          none
        else
          if b.Op=5 then
            none
          else
            if b.Op=6 then
              none
            else
              if b.Op=7 then
                none
              else
                if (8:Int)<=b.Op then
                  if b.Op<=20 then
                    (uw a.2.1 a.2.2.1 a.2.2.2.1 o p q r).bind λf =>
                    (uw f.2.1 f.2.2.1 f.2.2.2.1 f.2.2.2.2.1 f.2.2.2.2.2.1 f.2.2.2.2.2.2.1 f.2.2.2.2.2.2.2).bind λg =>
                    if b.Op=11 then
                      none
                    else
                      if b.Op=12 then
                        none
                      else
                        (JF b.Op g.1 f.1).bind λv =>
                        (ly g.2.1 g.2.2.1 g.2.2.2.1 g.2.2.2.2.1 g.2.2.2.2.2.1 g.2.2.2.2.2.2.1 g.2.2.2.2.2.2.2 v).bind λi =>
                        Fu k n a l e s i.1 i.2.1 i.2.2.1 a.1 m i.2.2.2.2.1 i.2.2.2.2.2.1 i.2.2.2.2.2.2 i.2.2.2.1
                  else
                    if b.Op=21 then
                      none
                    else
                      if b.Op=22 then
                        none
                      else
                        if b.Op=26 then
                          (uw a.2.1 a.2.2.1 a.2.2.2.1 o p q r).bind λc =>
                          (MF a.1 b.A c.1).bind λw =>
                          (gw 2 b.A c.1).bind λy =>
                          Fu k n a l e s c.2.1 c.2.2.1 c.2.2.2.1 w m c.2.2.2.2.2.1 c.2.2.2.2.2.2.1 c.2.2.2.2.2.2.2 c.2.2.2.2.1
                        else
                          if b.Op=27 then
                            (jF a.1 b.A).bind λt =>
                            (gw 3 b.A t.1).bind λz =>
                            (ly a.2.1 a.2.2.1 a.2.2.2.1 o p q r t.1).bind λj =>
                            Fu k n a l e s j.1 j.2.1 j.2.2.1 t.2 m j.2.2.2.2.1 j.2.2.2.2.2.1 j.2.2.2.2.2.2 j.2.2.2.1
                          else
                            if b.Op=28 then
                              (uw a.2.1 a.2.2.1 a.2.2.2.1 o p q r).bind λd =>
                              (app m [d.1]).bind λx =>
                              (gw 1 0 d.1).bind λB =>
                              Fu k n a l e s d.2.1 d.2.2.1 d.2.2.2.1 a.1 x d.2.2.2.2.2.1 d.2.2.2.2.2.2.1 d.2.2.2.2.2.2.2 d.2.2.2.2.1
                            else
                              none
                else
                  none
def kF  (b:Be) (j:List Ee) (k:Int) (l:Int) (m:Int) (c:List Int) (d:Int) (n:List vg) (e:List Int) (f:Int) (g:Int) (h:Int):Option (Bool×List Ee×Int×Int×Int×List Int×Int×List vg×List Int×Int×Int×Int):=
  (iw b j k l m n).bind λa =>
  if a.2.1≠1 then
    some (false,a.1,a.2.1,a.2.2.1,a.2.2.2.1,c,d,a.2.2.2.2,e,f,g,h)
  else
    (i64 ((a.2.2.2.2.length:Int) - 1)).bind λi =>
    (at_ a.2.2.2.2 i).bind λo =>
    zD b c d e f g h a i
def fD (p_2:Int) (a:List Int×Int×Int×Int) (b:Zi):Nat->Option (Int×List vg×List Int×Int×Int×Int)
  | 0=>none
  | n+1 =>
    if (0:Int)<(b.mj.length:Int) then
      none
    else
      some (0,([(vg.mk p_2 0 0)]:List vg),a.1,a.2.1,a.2.2.1,a.2.2.2)
def BE  (b:Be) (p_2:Int) (p_3:List Int):Option (Int×List vg×List Int×Int×Int×Int):=
  (HF 8 400).bind λc =>
  (at_ b.ef p_2).bind λa =>
  fD p_2 c a (a.mj.length+1)
structure ku where
  state:Int
  up:Option Nat
  fr:List vg
  l:List Int
  live:Int
  Oq:Int
  Tb:Int
structure Yf where
  cs:List ku
  now:Nat
def Yf.length (p:Yf):Nat:=p.cs.length
def Yf.put (p:Yf) (c:ku):Yf:=⟨p.cs.set p.now c,p.now⟩
def lF (m:Be) (p:Yf) (s Ya t:Int) (a:List Ee):Option (Yf×Int×Int×Int×List Ee):=
  (p.cs[p.now]?).bind λc =>
  (iw m a s Ya t c.fr).bind λr =>
  some (p.put { c with fr:=r.2.2.2.2 },r.2.1,r.2.2.1,r.2.2.2.1,r.1)
def NF (p:Yf) (s Ya t:Int):Option (Yf×Int×Int×Int):=
  (p.cs[p.now]?).bind λc =>
  if c.up=none then (gw 4 0 0).bind λ_=>some (p.put { c with state:=3 },4,Ya,t)
  else none
def Ku (m:Be) (p:Yf) (s Ya t:Int) (x:te):Option (Yf×Int×Int×Int):=
  if x.Op=25 then NF p s Ya t
  else none
abbrev uB:=Option (Bool×Yf×Int×Int×Int×List Int×List Ee)
def PD (m:Be) (p:Yf) (c:ku) (out:List Int) (r:List Ee×Int×Int×Int×List vg) (i:Int):uB :=
  (at_ r.2.2.2.2 i).bind λx =>
  (at_ m.ef x.unit).bind λu =>
  (at_ u.Code x.Mh).bind λy =>
  (i64 (x.Mh+1)).bind λk =>
  (Ku m (p.put { c with fr:=r.2.2.2.2.set i.toNat (vg.mk x.unit k x.base) }) r.2.1 r.2.2.1 r.2.2.2.1 y).bind λq =>
  (lF m q.1 q.2.1 q.2.2.1 q.2.2.2 r.1).bind λz =>
  some (true,z.1,z.2.1,z.2.2.1,z.2.2.2.1,out,z.2.2.2.2)
def OF (m:Be) (p:Yf) (s Ya t:Int) (out:List Int) (a:List Ee):uB :=
  (p.cs[p.now]?).bind λc =>
  (iw m a s Ya t c.fr).bind λr =>
  if r.2.1≠1 then none else
  (i64 ((r.2.2.2.2.length:Int) - 1)).bind λi =>
  (at_ r.2.2.2.2 i).bind λx =>
  PD m p c out r i
def bJ (m:Be) (p:Yf) (s Ya t:Int) (out:List Int) (a:List Ee):uB :=
  (p.cs[p.now]?).bind λc =>
  (kF m a s Ya t out c.state c.fr c.l c.live c.Oq c.Tb).bind λr =>
  some (r.1,p.put { c with state:=r.2.2.2.2.2.2.1,fr:=r.2.2.2.2.2.2.2.1,l:=r.2.2.2.2.2.2.2.2.1,live:=r.2.2.2.2.2.2.2.2.2.1,Oq:=r.2.2.2.2.2.2.2.2.2.2.1,Tb:=r.2.2.2.2.2.2.2.2.2.2.2 },r.2.2.1,r.2.2.2.1,r.2.2.2.2.1,r.2.2.2.2.2.1,r.2.1)
def mF (m:Be) (p:Yf) (s Ya t:Int) (out:List Int) (a:List Ee):uB :=
  match OF m p s Ya t out a with
  | some r=>some r
  | none=>bJ m p s Ya t out a
def PF (m:Be) (u:Int):Option (Yf×Int×Int×Int×List Int):=
  (BE m u ([]:List Int)).bind λr =>
  some (⟨[ku.mk 2 none r.2.1 r.2.2.1 r.2.2.2.1 r.2.2.2.2.1 r.2.2.2.2.2],0⟩,1,0,0,([]:List Int))
structure kn where
  Co:Yf
  s:Int
  Ya:Int
  t:Int
  out:List Int
structure ue where
  m:Be
  tasks:List kn
  boxes:List Ee
def ue.length (x:ue):Nat:=x.tasks.length
def my (x:ue) (i:Int):Option ue :=
  (at_ x.tasks i).bind λk =>
  (lF x.m k.Co k.s k.Ya k.t x.boxes).bind λr =>
  some { x with tasks:=x.tasks.set i.toNat { k with Co:=r.1,s:=r.2.1,Ya:=r.2.2.1,t:=r.2.2.2.1 },boxes:=r.2.2.2.2 }
def nF (x:ue) (i:Int):Option (Bool×ue):=
  (at_ x.tasks i).bind λk =>
  (mF x.m k.Co k.s k.Ya k.t k.out x.boxes).bind λr =>
  some (r.1,{ x with tasks:=x.tasks.set i.toNat ⟨r.2.1,r.2.2.1,r.2.2.2.1,r.2.2.2.2.1,r.2.2.2.2.2.1⟩,boxes:=r.2.2.2.2.2.2 })
def CE (x:ue) (i:Int):Option (List Int):=(at_ x.boxes i).bind λb=>yE b.l b.first b.n
def Ox:List Gm->List Ee->Option (List Ee)
  | [],acc=>some acc
  | b::bs,acc=>(KF b.cg).bind λr=>if 4294967295<acc.length then none else Ox bs (acc++[⟨r.1,r.2.1,r.2.2⟩])
def Px (m:Be):List Int->List kn->Option (List kn)
  | [],acc=>some acc
  | u::us,acc=>(PF m u).bind λr=>if 4294967295<acc.length then none else Px m us (acc++[⟨r.1,r.2.1,r.2.2.1,r.2.2.2.1,r.2.2.2.2⟩])
def DE (m:Be):Option (ue×Int):=
  (Ox m.Yc []).bind λYa=>(wE m).bind λus=>(Px m us []).bind λna=>some (⟨m,na,Ya⟩,0)
structure Of where
  State:Int
  Bl:Int
  Eo:Int
  Out:List Int
  deriving DecidableEq,Inhabited,Repr
instance:Ma Of where
  sz:=4
  pos:=by decide
  cs μ l x:=∃ oa eb,l=[.int .i64 x.State,.int .i64 x.Bl,.int .i64 x.Eo,.slice oa x.Out.length eb]/\ya μ oa eb x.Out
  Uh h:=by obtain ⟨oa,eb,rfl,m1⟩:=h;rfl
  up le h:=by obtain ⟨oa,eb,rfl,m1⟩:=h;exact ⟨oa,eb,rfl,m1.up le⟩
  pg h:=by obtain ⟨oa,eb,rfl,m1⟩:=h;rfl
theorem Of.i {μ:M}{l:List Value}{x:Of}(h:∃ oa eb,l=[.int .i64 x.State,.int .i64 x.Bl,.int .i64 x.Eo,.slice oa x.Out.length eb]/\ya μ oa eb x.Out):Ma.cs μ l x:=h
structure gi where
  Zf:List Of
  Yc:List (List Int)
  Steps:Int
  deriving DecidableEq,Inhabited,Repr
structure mq where
  Task:Int
  Ou:Int
  deriving DecidableEq,Inhabited,Repr
instance:Ma mq where
  sz:=2
  pos:=by decide
  cs μ l x:=l=[.int .i64 x.Task,.int .i64 x.Ou]
  Uh h:=by obtain rfl:=h;rfl
  up le h:=by exact h
  pg h:=by obtain rfl:=h;rfl
structure Lw where
  De:Int
  Steps:Int
  deriving DecidableEq,Inhabited,Repr
def hA (a:Int) (b:Int) (d:Int->Int->ue->Option (Lw×ue×Int)) (e:Bool) (c:ue):Option (Lw×ue×Int):=
  if e=true then
    (i64 (a+1)).bind λf =>
    (i64 (b+1)).bind λg =>
    d f g c
  else
    if a=0 then
      none
    else
      some ((Lw.mk 0 a),c,b)
def Xv (p_2:mq):Nat->Int->Int->ue->Option (Lw×ue×Int)
  | 0,_,_,_=>none
  | n+1,i46,i47,a =>
    if i46<p_2.Ou then
      if i47<20000 then
        (nF a p_2.Task).bind λb =>
        hA i46 i47 (Xv p_2 n) b.1 b.2
      else
        none
    else
      hA i46 i47 (Xv p_2 n) false a
def oF (fu:Nat)  (a:ue) (c:Int) (p_2:mq):Option (Lw×ue×Int):=
  if p_2.Task<0 then
    none
  else
    if (a.length:Int)<=p_2.Task then
      none
    else
      if p_2.Ou<1 then
        none
      else
        if (10000:Int)<p_2.Ou then
          none
        else
          (at_ a.tasks p_2.Task).bind λe =>
          (my a p_2.Task).bind λb =>
          (at_ b.tasks p_2.Task).bind λd =>
          if d.s≠1 then
            none
          else
            Xv p_2 fu 0 c b
def Qx (a:ue) (b:Int):Nat->Int->ue->(List Int)->Option (List Int×ue×Int)
  | 0,_,_,_=>none
  | n+1,i39,c,d =>
    if i39<(a.length:Int) then
      (at_ c.tasks i39).bind λj =>
      (my c i39).bind λe =>
      (at_ e.tasks i39).bind λf =>
      if f.s=1 then
        (app d [i39]).bind λg =>
        (i64 (i39+1)).bind λh =>
        Qx a b n h e g
      else
        (i64 (i39+1)).bind λi =>
        Qx a b n i e d
    else
      some (d,c,b)
def IA  (a:ue) (b:Int):Option (List Int×ue×Int):=
  Qx a b (a.length+1) 0 a []
def gD (a:Int) (b:ue) (c:Int->ue->(List Of)->Option (gi×ue×Int)) (d:List Of):Option (gi×ue×Int):=
  (i64 (a+1)).bind λe =>
  c e b d
def hD (a:Int) (b:Int->(List (List Int))->Option (gi×ue×Int)) (c:List (List Int)):Option (gi×ue×Int):=
  (i64 (a+1)).bind λd =>
  b d c
def Rx (b:Int) (a:ue) (c:List Of):Nat->Int->(List (List Int))->Option (gi×ue×Int)
  | 0,_,_=>none
  | n+1,i213,d =>
    if i213<(a.boxes.length:Int) then
      (at_ a.boxes i213).bind λg =>
      (CE a i213).bind λe =>
      (app d [e]).bind λf =>
      hD i213 (Rx b a c n) f
    else
      some ((gi.mk c d b),a,b)
def Sx (c:ue) (d:Int):Nat->Int->ue->(List Of)->Option (gi×ue×Int)
  | 0,_,_,_=>none
  | n+1,i71,b,e =>
    if i71<(c.length:Int) then
      (at_ b.tasks i71).bind λl =>
      (my b i71).bind λa =>
      (at_ a.tasks i71).bind λf =>
      (at_ a.tasks i71).bind λg =>
      (at_ a.tasks i71).bind λh =>
      (at_ a.tasks i71).bind λi =>
      (app ([]:List Int) i.out).bind λj =>
      (app e [(Of.mk f.s g.Ya h.t j)]).bind λk =>
      gD i71 a (Sx c d n) k
    else
      Rx d b e (b.boxes.length+1) 0 []
def EE  (a:ue) (b:Int):Option (gi×ue×Int):=
  Sx a b (a.length+1) 0 a []
def FE (fu:Nat)  (p_1:Be) (p_2:Int):Option Int :=
  (ND fu p_1).bind λa =>
  if a.De≠0 then
    none
  else
    if (400:Int)<p_2 then
      none
    else
      some 0
def Hz (fu:Nat) (p_3:Int) (d:Int) (e:ue) (f:Int->(List Int)->Int->ue->Option (gi×Int)) (c:Int):Option (gi×Int):=
  (oF fu e d (mq.mk c p_3)).bind λa =>
  if a.1.De≠0 then
    none
  else
    (IA a.2.1 a.2.2).bind λb =>
    f c b.1 b.2.2 b.2.1
def Iz (fu:Nat) (p_3:Int) (e:Int) (a:List Int) (b:Int) (c:ue) (f:Int) (d:Int->(List Int)->Int->ue->Option (gi×Int)):Nat->Int->Option (gi×Int)
  | 0,_=>none
  | n+1,i183 =>
    if i183<(a.length:Int) then
      (at_ a i183).bind λg =>
      if e<g then
        Hz fu p_3 b c d g
      else
        (i64 (i183+1)).bind λh =>
        Iz fu p_3 e a b c f d n h
    else
      Hz fu p_3 b c d f
def Lv (fu:Nat) (p_3:Int):Nat->Int->(List Int)->Int->ue->Option (gi×Int)
  | 0,_,_,_,_=>none
  | n+1,i98,a,i103,b =>
    if (0:Int)<(a.length:Int) then
      (at_ a 0).bind λc =>
      Iz fu p_3 i98 a i103 b c (Lv fu p_3 n) (a.length+1) 0
    else
      (EE b i103).bind λd =>
      some (d.1,0)
def VC (fu:Nat) (p_2:List mq) (p_3:Int) (b:ue×Int):Nat->Option (gi×Int)
  | 0=>none
  | n+1 =>
    if (0:Int)<(p_2.length:Int) then
      none
    else
      (IA b.1 b.2).bind λa =>
      Lv fu p_3 fu (-1) a.1 a.2.2 a.2.1
def QD (fu:Nat)  (p_1:Be) (p_2:List mq) (p_3:Int):Option (gi×Int):=
  (FE fu p_1 (p_2.length:Int)).bind λa =>
  if a≠0 then
    none
  else
    if p_3<1 then
      none
    else
      if (10000:Int)<p_3 then
        none
      else
        (DE p_1).bind λb =>
        VC fu p_2 p_3 b (p_2.length+1)
def dW:List UInt8:=[98,111,120,32,98,32,110,117,109,32,49,32,59,32,116,97,115,107,32,97,32,123,32,115,101,110,100,32,98,32,55,32,59,32,125,32,116,97,115,107,32,99,32,123,32,111,117,116,32,114,101,99,118,32,40,32,98,32,41,32,43,32,49,32,59,32,125]
def Yv (p_1:List Int) (p_2:List Int):Nat->Int->Option Bool
  | 0,_=>none
  | n+1,i26 =>
    if i26<(p_1.length:Int) then
      (at_ p_1 i26).bind λa =>
      (at_ p_2 i26).bind λb =>
      if a≠b then
        none
      else
        (i64 (i26+1)).bind λc =>
        Yv p_1 p_2 n c
    else
      some true
def Pu  (p_1:List Int) (p_2:List Int):Option Bool :=
  if (p_1.length:Int)≠(p_2.length:Int) then
    none
  else
    Yv p_1 p_2 (p_1.length+1) 0
def OC (a:Be×Nd):Option (Be×Bool):=
  some (a.1,decide (a.2.De=0))
def AD (fu:Nat)  (p_1:List UInt8):Option (Be×Bool):=
  (mE fu p_1).bind λa =>
  if a.2.De≠0 then
    none
  else
    (cD fu a.1).bind λb =>
    OC b
def rA (fu:Nat)  :Option Bool :=
  (AD fu dW).bind λa =>
  (QD fu a.1 ([]:List mq) 3).bind λUe =>
  if a.2=true then
    if Ue.2=0 then
      if (Ue.1.Zf.length:Int)=2 then
        (at_ Ue.1.Zf 1).bind λb =>
        if b.State=4 then
          (at_ Ue.1.Zf 1).bind λc =>
          (Pu c.Out [8]).bind λd =>
          some d
        else
          none
      else
        none
    else
      none
  else
    none
abbrev Ge:=List UInt8
mutual
inductive cf where
  | all (l:List Na) (s:Option Nat) (Hd:List Int) (k:fl)
  | stat (l:List Ra) (s:Option Nat) (e:kh) (k:je)
  | lf (x:Ra) (s:Option Nat) (e:kh) (k:je)
inductive fl where
  | ex (x:Na) (k:cf)
inductive je where
  | zero (k:cf)
  | recv (n:Ge) (k:cf)
  | send (n:Ge) (v:Int) (k:je)
  | done (g:Nat)
  | stats (l:List Ra) (s:Option Nat) (e:kh) (k:je)
  | lf (x:Ra) (s:Option Nat) (e:kh) (k:je)
  | fin
  | cj (d:va)
inductive kh where
  | ret (k:cf)
  | stop (k:je)
end
structure ki where
  name:Ge
  v:Int
  up:Option Nat
structure Qg where
  Lm:va
  args:Option Nat
  begun:Bool
  going:Bool
  ended:Bool
  up:Option Nat
  back:Option cf
  uk:Option cf
structure ed where
  cap:Int
  words:List Int
structure Ad where
  fe:List ki
  Db:List Qg
  now:Nat
  qm:Option je
  state:Int
  box:Int
  qe:Int
  out:List Int
structure Ud where
  defs:List (Ge×va)
  order:List (Ge×Int)
structure Sc where
  t:Ad
  boxes:List ed
  nodes:Int
inductive ih where
  | expr (x:Na) (s:Option Nat) (k:cf)
  | all (l:List Na) (s:Option Nat) (Hd:List Int) (k:fl)
  | stats (l:List Ra) (s:Option Nat) (e:kh) (k:je)
  | lf (x:Ra) (s:Option Nat) (e:kh) (k:je)
  | df (k:cf) (v:Int)
  | Hd (k:fl) (l:List Int)
  | vd (k:je)
  | recv (n:Ge) (k:cf)
  | send (n:Ge) (v:Int) (k:je)
  | resume (g:Nat) (v:Int) (k:cf)
inductive gk where
  | call (c:ih) (x:Sc)
  | ret (k:Option je) (x:Sc)
  | Jr
def Cm (S:List ki) (n:Ge):Nat->Option Nat->Option Nat
  | 0,_=>none
  | _+1,none=>none
  | fu+1,some i=>(S[i]?).bind λc=>if c.name=n then some i else Cm S n fu c.up
def Kj:List TParam->List Int->List ki->Option Nat->Option (List ki×Option Nat)
  | [],_,S,s=>some (S,s)
  | p::Hg,[],_,_=>none
  | p::Hg,v::vs,S,s=>Kj Hg vs (S++[⟨p.Name,v,s⟩]) (some S.length)
def bk (b:Bool):Int:=if b then 1 else 0
def Rn (k a b:Int):Option Int :=
  let whole:=a=-9223372036854775808/\b=-1
  if k=6 then some (km (a+b)) else
  if k=7 then some (km (a - b)) else
  if k=8 then some (km (a*b)) else
  if k=9 then (if whole then some a else quo a b) else
  if k=10 then (if whole then some 0 else Vt a b) else
  if k=11 then some (bk (decide (a=b))) else
  if k=12 then some (bk (decide (a≠b))) else
  if k=13 then some (bk (decide (a<b))) else
  if k=14 then some (bk (decide (a<=b))) else
  if k=15 then some (bk (decide (b<a))) else
  if k=16 then some (bk (decide (b<=a))) else
  if k=17 then some (min a b) else some (max a b)
def Sc.task (x:Sc) (f:Ad->Ad):Sc:={ x with t:=f x.t }
def At (x:Sc) (n:Int):gk:=.ret none (x.task λt=>{ t with state:=5,qe:=n })
def QS (e:kh):Option je:=match e with | .ret _=>none | .stop k=>some k
def tt (x:Sc) (f:Sc->Option gk):Option gk:=if 20000<x.nodes+1 then some .Jr else f { x with nodes:=x.nodes+1 }
def Ad.tn (t:Ad) (g:Nat) (f:Qg->Qg):Ad:=match t.Db[g]? with | none=>t | some c=>{ t with Db:=t.Db.set g (f c) }
def Sn (E:Ud) (x:Na) (k:cf) (l:List Int) (z:Sc):Option gk :=
  if x.Kind=4 then (at_ l 0).bind λa=>some (.call (.df k (km (-a))) z) else
  if x.Kind=5 then (at_ l 0).bind λa=>some (.call (.df k (km (1 - a))) z) else
  if x.Kind=19 then (Oa E.defs x.Name).bind λd=>(Kj d.Params l z.t.fe none).bind λr=>some (.call (.stats d.Body r.2 (.ret k) (.zero k)) (z.task λt=>{ t with fe:=r.1 })) else
  if x.Kind=21 then (at_ l 0).bind λa=>(z.t.Db[z.t.now]?).bind λc=>c.up.bind λu=>c.back.bind λb=>some (.call (.df b a) (z.task λt=>{ t.tn t.now λc=>{ c with uk:=some k,going:=false } with now:=u })) else
  if x.Kind=22 then
    if (z.t.Db.length:Int) - 1=30 then some (At z 5) else
    (Oa E.defs x.Name).bind λd=>(Kj d.Params l z.t.fe none).bind λr =>
    some (.call (.df k (z.t.Db.length - 1)) (z.task λt=>{ t with fe:=r.1,Db:=t.Db++[⟨d,r.2,false,false,false,none,none,none⟩] })) else
  if x.Kind=23 then (at_ l 0).bind λa=>(at_ l 1).bind λb=>if 0<=a/\a<(z.t.Db.length:Int) - 1 then some (.call (.resume (a.toNat+1) b k) z) else none else
  if x.Kind=24 then (at_ l 0).bind λa=>if 0<=a then (z.t.Db[a.toNat+1]?).bind λc=>some (.call (.df k (bk !c.ended)) z) else none else
  (if x.Kind=9\/x.Kind=10 then (at_ l 1).bind λb=>some (decide (b=0)) else some false).bind λq =>
  if q=true then some (At z 1) else
  (at_ l 0).bind λa=>(at_ l 1).bind λb=>(Rn x.Kind a b).bind λv=>some (.call (.df k v) z)
def rK (E:Ud) (z:Sc) (s:Int) (n:Ge) (again:je):gk:=.ret none (z.task λt=>{ t with state:=s,box:=(Oa E.order n).getD 0,qm:=some again })
def Uu (E:Ud) (n:Ge) (k:cf) (z:Sc):Option gk :=
  (Oa E.order n).bind λi=>(at_ z.boxes i).bind λb =>
  match b.words with
  | []=>some (rK E z 3 n (.recv n k))
  | v::ws=>some (.call (.df k v) { z with boxes:=z.boxes.set i.toNat { b with words:=ws } })
def Vu (E:Ud) (n:Ge) (v:Int) (k:je) (z:Sc):Option gk :=
  (Oa E.order n).bind λi=>(at_ z.boxes i).bind λb =>
  if (b.words.length:Int)=b.cap then some (rK E z 2 n (.send n v k)) else
  (app b.words [v]).bind λws=>some (.ret (some k) { z with boxes:=z.boxes.set i.toNat { b with words:=ws } })
def Lu (g:Nat) (v:Int) (k:cf) (z:Sc):Option gk :=
  (z.t.Db[g]?).bind λc =>
  if c.ended=true then some (At z 2) else
  if c.going=true\/g=z.t.now then some (At z 3) else
  let a:=z.task λt=>{ t.tn g λc=>{ c with going:=true,up:=some t.now,back:=some k } with now:=g }
  if c.begun=true then c.uk.bind λo=>some (.call (.df o v) a) else
  some (.call (.stats c.Lm.Body c.args (.stop (.done g)) (.done g)) (a.task λt=>t.tn g λc=>{ c with begun:=true }))
def rp (x:Ra) (l:List Ra) (s:Option Nat) (e:kh) (k:je) (v:Int) (z:Sc):Option gk :=
  if x.Kind=1 then some (.ret (some (.stats l (some z.t.fe.length) e k)) (z.task λt=>{ t with fe:=t.fe++[⟨x.Name,v,s⟩] })) else
  if x.Kind=2 then (Cm z.t.fe x.Name (z.t.fe.length+1) s).bind λi=>(z.t.fe[i]?).bind λc=>some (.ret (some (.stats l s e k)) (z.task λt=>{ t with fe:=t.fe.set i { c with v:=v } })) else
  if x.Kind=3 then some (.call (.stats (if v≠0 then x.Body else x.sf) s e (.stats l s e k)) z) else
  if x.Kind=5 then (match e with | .ret q=>some (.call (.df q v) z) | .stop _=>none) else
  if x.Kind=7 then some (.call (.send x.Name v (.stats l s e k)) z) else
  if x.Kind=8 then (app z.t.out [v]).bind λo=>some (.ret (some (.stats l s e k)) (z.task λt=>{ t with out:=o })) else
  some (.ret (some (.stats l s e k)) z)
def de (E:Ud):ih->Sc->Option gk
  | .expr x s k,z=>tt z λz =>
    if x.Kind=1\/x.Kind=2 then some (.call (.df k x.N) z) else
    if x.Kind=3 then (Cm z.t.fe x.Name (z.t.fe.length+1) s).bind λi=>(z.t.fe[i]?).bind λc=>some (.call (.df k c.v) z) else
    if x.Kind=20 then some (.call (.recv x.Name k) z) else
    some (.call (.all x.Kids s [] (.ex x k)) z)
  | .all l s Hd k,z=>if l.length=Hd.length then some (.call (.Hd k Hd) z) else (l[Hd.length]?).bind λx=>some (.call (.expr x s (.all l s Hd k)) z)
  | .stats [] s e k,z=>some (.ret (some k) z)
  | .stats (x::l) s e k,z=>tt z λz =>
    if x.Kind=6 then some (.ret (QS e) z) else
    if x.Kind=4 then some (.call (.lf x s e (.stats l s e k)) z) else
    some (.call (.expr x.X s (.stat (x::l) s e k)) z)
  | .lf x s e k,z=>some (.call (.expr x.X s (.lf x s e k)) z)
  | .df (.all l s Hd k) v,z=>(app Hd [v]).bind λg=>some (.call (.all l s g k) z)
  | .df (.stat l s e k) v,z=>match l with | []=>none | x::l=>rp x l s e k v z
  | .df (.lf x s e k) v,z=>if v=0 then some (.ret (some k) z) else some (.call (.stats x.Body s e (.lf x s e k)) z)
  | .Hd (.ex x k) l,z=>Sn E x k l z
  | .vd (.zero k),z=>some (.call (.df k 0) z)
  | .vd (.recv n k),z=>Uu E n k z
  | .vd (.send n v k),z=>Vu E n v k z
  | .vd (.done g),z=>(z.t.Db[g]?).bind λc=>c.up.bind λu=>c.back.bind λb=>some (.call (.df b 0) (z.task λt=>{ t.tn g λc=>{ c with ended:=true,going:=false } with now:=u }))
  | .vd (.stats l s e k),z=>some (.call (.stats l s e k) z)
  | .vd (.lf x s e k),z=>some (.call (.lf x s e k) z)
  | .vd .fin,z=>some (.ret none (z.task λt=>{ t with state:=4 }))
  | .vd (.cj d),z=>some (.call (.stats d.Body none (.stop .fin) .fin) z)
  | .recv n k,z=>Uu E n k z
  | .send n v k,z=>Vu E n v k z
  | .resume g v k,z=>Lu g v k z
def lp (E:Ud):Nat->ih->Sc->Option (Option (Option je×Sc))
  | 0,_,_=>none
  | n+1,c,z=>(de E c z).bind λo=>match o with
    | .call c z=>lp E n c z
    | .ret k z=>some (some (k,z))
    | .Jr=>some none
def Bt (E:Ud):Nat->Option je->Sc->Option (Option Sc)
  | _,none,z=>some (some z)
  | 0,some _,_=>none
  | n+1,some k,z=>(lp E n (.vd k) z).bind λr=>match r with
    | none=>some none
    | some (k',a)=>Bt E n k' a
def yy (E:Ud) (n:Nat) (z:Sc):Option (Option Sc):=Bt E n z.t.qm (z.task λt=>{ t with state:=1,box:=0 })
def nq (t:Ad) (bs:List ed):Option Bool :=
  if t.state=1 then some true else
  if t.state=2 then (at_ bs t.box).bind λb=>some (decide ((b.words.length:Int)<b.cap)) else
  if t.state=3 then (at_ bs t.box).bind λb=>some (decide ((0:Int)<b.words.length)) else
  some false
def cq (E:Ud) (n:Nat):List Ad->List Ad->List ed->Int->Bool->Option (Option (List Ad×List ed×Int×Bool))
  | pre,[],bs,nd,pc=>some (some (pre,bs,nd,pc))
  | pre,t::na,bs,nd,pc=>(nq t bs).bind λc =>
    if c=true then (yy E n ⟨t,bs,nd⟩).bind λr=>match r with
      | none=>some none
      | some z=>cq E n (pre++[z.t]) na z.boxes z.nodes true
    else cq E n (pre++[t]) na bs nd pc
def pr (E:Ud) (n:Nat):Nat->List Ad->List ed->Int->Option (Option (List Ad×List ed×Int))
  | 0,_,_,_=>none
  | m+1,na,bs,nd=>(cq E n [] na bs nd false).bind λr=>match r with
    | none=>some none
    | some (na,bs,nd,pc)=>if pc=true then pr E n m na bs nd else some (some (na,bs,nd))
structure Un where
  D:List (Ge×va)
  O:List (Ge×Int)
  bs:List ed
  na:List Ad
def ll (d:va):Ad:=⟨[],[⟨d,none,false,false,false,none,none,none⟩],0,some (.cj d),1,0,0,[]⟩
def Lt (u:Un) (d:va):Un:=if d.Kind=1 then { u with O:=kd u.O d.Name (u.bs.length:Int),bs:=u.bs++[⟨d.cg,[]⟩] } else u
def Mt (u:Un) (d:va):Un:=if d.Kind=4 then { u with na:=u.na++[ll d] } else u
def Wh (u:Un) (d:va):Un:=Mt (Lt { u with D:=kd u.D d.Name d } d) d
def Mf (l:List va):Un:=l.foldl Wh ⟨[],[],[],[]⟩
def Un.env (u:Un):Ud:=⟨u.D,u.O⟩
def sK (n:Nat) (l:List va):Option (Option (List Ad×List ed×Int)):=pr (Mf l).env n n (Mf l).na (Mf l).bs 0
def vh (t:Ad):Of:=⟨t.state,t.box,t.qe,t.out⟩
def RD (r:Option (List Ad×List ed×Int)):Option (gi×Nd):=
  match r with
  | none=>some (⟨[],[],0⟩,⟨10,0⟩)
  | some (na,bs,nd)=>if na.length<=4294967295/\bs.length<=4294967295/\(bs.all λc=>decide (c.words.length<=4294967295))=true then some (⟨na.map vh,bs.map ed.words,nd⟩,⟨0,0⟩) else none
def Kn (fu:Nat) (l:List va):Option (gi×Nd):=
  (xm fu l).bind λf =>
  if f.De≠0 then some (⟨[],[],0⟩,f) else
  if l.length<=4294967295 then (sK fu l).bind RD else none
def Ev (p_1:List (List Int)) (p_2:List (List Int)):Nat->Int->Option Bool
  | 0,_=>none
  | n+1,i35 =>
    if i35<(p_1.length:Int) then
      (at_ p_1 i35).bind λa =>
      (at_ p_2 i35).bind λb =>
      (Pu a b).bind λc =>
      if c=true then
        (i64 (i35+1)).bind λd =>
        Ev p_1 p_2 n d
      else
        some false
    else
      some true
def Zv  (p_1:List (List Int)) (p_2:List (List Int)):Option Bool :=
  if (p_1.length:Int)≠(p_2.length:Int) then
    some false
  else
    Ev p_1 p_2 (p_1.length+1) 0
def As (a:Int) (b:Int->Option Bool) (c:Bool):Option Bool :=
  if c=true then
    some false
  else
    (i64 (a+1)).bind λd =>
    b d
def Rp (p_1:List Of) (p_2:List Of):Nat->Int->Option Bool
  | 0,_=>none
  | n+1,i105 =>
    if i105<(p_1.length:Int) then
      (at_ p_1 i105).bind λa =>
      (at_ p_2 i105).bind λb =>
      if a.State≠b.State then
        As i105 (Rp p_1 p_2 n) true
      else
        (at_ p_1 i105).bind λc =>
        (at_ p_2 i105).bind λd =>
        if c.Bl≠d.Bl then
          As i105 (Rp p_1 p_2 n) true
        else
          (at_ p_1 i105).bind λe =>
          (at_ p_2 i105).bind λf =>
          if e.Eo≠f.Eo then
            As i105 (Rp p_1 p_2 n) true
          else
            (at_ p_1 i105).bind λg =>
            (at_ p_2 i105).bind λh =>
            (Pu g.Out h.Out).bind λi =>
            As i105 (Rp p_1 p_2 n) (!i)
    else
      some true
def Mv  (p_1:List Of) (p_2:List Of):Option Bool :=
  if (p_1.length:Int)≠(p_2.length:Int) then
    some false
  else
    Rp p_1 p_2 (p_1.length+1) 0
def Nv (b:Int) (c:List Of) (a:Of) (d:Int->(List Of)->Option Bool) (e:Int):Option Bool :=
  (app c [(Of.mk a.State e a.Eo a.Out)]).bind λf =>
  (i64 (b+1)).bind λg =>
  d g f
def er (e:gi×Nd) (b:Int) (c:List Of) (a:Of) (d:Int->(List Of)->Option Bool) (f:Bool):Option Bool :=
  if f=true then
    (i64 (a.Bl+(e.1.Yc.length:Int))).bind λg =>
    Nv b c a d g
  else
    Nv b c a d a.Bl
def Vo (a:gi×Nd) (b:gi×Nd) (c:gi×Nd):Nat->Int->(List Of)->Option Bool
  | 0,_,_=>none
  | n+1,i126,e =>
    if i126<(b.1.Zf.length:Int) then
      (at_ b.1.Zf i126).bind λd =>
      if d.State=2 then
        er a i126 e d (Vo a b c n) true
      else
        er a i126 e d (Vo a b c n) (decide (d.State=3))
    else
      (Mv c.1.Zf e).bind λf =>
      if f=true then
        (app ([]:List (List Int)) a.1.Yc).bind λg =>
        (app g b.1.Yc).bind λh =>
        (Zv c.1.Yc h).bind λi =>
        if i=true then
          (i64 (a.1.Steps+b.1.Steps)).bind λj =>
          some (decide (c.1.Steps=j))
        else
          some false
      else
        some false
def gr (a:gi×Nd) (b:gi×Nd) (c:gi×Nd) (d:Bool):Option Bool :=
  if d=true then
    some (decide (c.2.De=10))
  else
    (app ([]:List Of) a.1.Zf).bind λe =>
    Vo a b c (b.1.Zf.length+1) 0 e
def Wo (fu:Nat) (p_1:List va) (p_2:List va) (d:List va) (e:Bool):Option Bool :=
  if e=true then
    some true
  else
    (Kn fu p_1).bind λa =>
    (Kn fu p_2).bind λb =>
    (Kn fu d).bind λc =>
    if a.2.De≠0 then
      gr a b c true
    else
      if b.2.De≠0 then
        gr a b c true
      else
        gr a b c (decide (c.2.De≠0))
def Xx (fu:Nat)  (p_1:List va) (p_2:List va):Option Bool :=
  (rA fu).bind λb =>
  if b=true then
    (app ([]:List va) p_1).bind λc =>
    (app c p_2).bind λa =>
    (xm fu p_1).bind λd =>
    if d.De≠0 then
      Wo fu p_1 p_2 a true
    else
      (xm fu p_2).bind λe =>
      if e.De≠0 then
        Wo fu p_1 p_2 a true
      else
        (xm fu a).bind λf =>
        Wo fu p_1 p_2 a (decide (f.De≠0))
  else
    some false
end Go.Y
