/- Texts of Md. -/
import Derived.Test.YtafjdiifkckmbaaGreatDoorCXu
set_option linter.unusedSimpArgs false
set_option linter.unusedVariables false
set_option linter.unusedSectionVars false
namespace Go.Y
open Go.Bc Go.Re
structure Na where
  Kind:Int
  N:Int
  Name:List UInt8
  Kids:List Na
  deriving Inhabited,Repr
structure Pa where
  Kind:Int
  Name:List UInt8
  X:Na
  Body:List Pa
  kf:List Pa
  deriving Inhabited,Repr
def Vn {α:Type}(sz:Nat) (μ:M) (a:Option Addr) (c:Nat) (xs:List α) (g:Nat->List Value):Prop :=
  xs.length<=c/\c<=maxLen/\(xs=[]\/∃ b o,a=some ⟨b,o,none⟩/\∀ (i:Nat) (y:α),xs[i]?=some y->xa μ b (o+i*sz) (g i))
inductive hr (μ:M):List Value->Na->Prop where
  | mk (x:Na) (a:Option Addr) (c:Nat) (g:Nat->List Value) (h:Vn 4 μ a c x.Kids g) (k:∀ (i:Nat) (y:Na),x.Kids[i]?=some y->hr μ (g i) y) :
    hr μ [.int .i64 x.Kind,.int .i64 x.N,S x.Name,.slice a x.Kids.length c] x
theorem Vn.Qw {α:Type}{sz:Nat}{μ:M}{a:Option Addr}{c:Nat}{xs:List α}{g:Nat->List Value}{R:List Value->α->Prop}(h:Vn sz μ a c xs g) (k:∀ (i:Nat) (y:α),xs[i]?=some y->R (g i) y):ic sz R μ a c xs:=by
  refine ⟨h.1,h.2.1,?_⟩;rcases h.2.2 with h | ⟨b,o,e,f⟩
  · exact .inl h
  · exact .inr ⟨b,o,e,g,λi x d=>⟨f i x d,k i x d⟩⟩
theorem Vn.of {α:Type}{sz:Nat}{μ:M}{a:Option Addr}{c:Nat}{xs:List α}{R:List Value->α->Prop}(h:ic sz R μ a c xs):∃ g,Vn sz μ a c xs g/\∀ (i:Nat) (y:α),xs[i]?=some y->R (g i) y:=by
  rcases h.el with e | ⟨b,o,j,g,f⟩
  · exact ⟨λ_=>[],⟨h.le,h.cap,.inl e⟩,λi y d=>by simp [e] at d⟩
  · exact ⟨g,⟨h.le,h.cap,.inr ⟨b,o,j,λi y d=>(f i y d).1⟩⟩,λi y d=>(f i y d).2⟩
theorem Vn.up {α:Type}{sz:Nat}{μ J:M}{a:Option Addr}{c:Nat}{xs:List α}{g:Nat->List Value}(h:Vn sz μ a c xs g) (l:ha μ J):Vn sz J a c xs g:=by
  refine ⟨h.1,h.2.1,?_⟩;rcases h.2.2 with h | ⟨b,o,d,e⟩
  · exact .inl h
  · exact .inr ⟨b,o,d,λi y f=>(e i y f).up l⟩
theorem hr.up {μ J:M}(l:ha μ J){cs:List Value}{x:Na}(h:hr μ cs x):hr J cs x:=by
  induction h with
  | mk x a c g h k b=>exact .mk x a c g (h.up l) b
instance:Ja Na where
  sz:=4
  pos:=by decide
  cs:=hr
  Qh h:=by cases h;rfl
  up l h:=hr.up l h
  fg h:=by cases h;rfl
theorem Na.o {μ:M}{l:List Value}{x:Na}(h:Ja.cs μ l x):∃ a c,l=[.int .i64 x.Kind,.int .i64 x.N,S x.Name,.slice a x.Kids.length c]/\za μ a c x.Kids:=by
  have b:hr μ l x:=h;cases b with
  | mk _ a c g d k1=>exact ⟨a,c,rfl,d.Qw k1⟩
theorem Na.i {μ:M}{l:List Value}{x:Na}(h:∃ a c,l=[.int .i64 x.Kind,.int .i64 x.N,S x.Name,.slice a x.Kids.length c]/\za μ a c x.Kids):Ja.cs μ l x:=by
  obtain ⟨a,c,rfl,h⟩:=h;obtain ⟨g,h,k⟩:=Vn.of h;exact hr.mk x a c g h k
inductive aq (μ:M):List Value->Pa->Prop where
  | mk (x:Pa) (pa:Option Addr) (gb:Nat) (a2:Option Addr) (c2:Nat) (a3:Option Addr) (c3:Nat) (g2 g3:Nat->List Value) (a:za μ pa gb x.X.Kids)
      (b:Vn 8 μ a2 c2 x.Body g2) (c:∀ (i:Nat) (y:Pa),x.Body[i]?=some y->aq μ (g2 i) y)
      (d:Vn 8 μ a3 c3 x.kf g3) (e:∀ (i:Nat) (y:Pa),x.kf[i]?=some y->aq μ (g3 i) y) :
    aq μ [.int .i64 x.Kind,S x.Name,.int .i64 x.X.Kind,.int .i64 x.X.N,S x.X.Name,.slice pa x.X.Kids.length gb,.slice a2 x.Body.length c2,.slice a3 x.kf.length c3] x
theorem aq.up {μ J:M}(l:ha μ J){cs:List Value}{x:Pa}(h:aq μ cs x):aq J cs x:=by
  induction h with
  | mk x pa gb a2 c2 a3 c3 g2 g3 a b f c g d e=>exact .mk x pa gb a2 c2 a3 c3 g2 g3 (a.up l) (b.up l) d (c.up l) e
instance:Ja Pa where
  sz:=8
  pos:=by decide
  cs:=aq
  Qh h:=by cases h;rfl
  up l h:=aq.up l h
  fg h:=by cases h;rfl
theorem Pa.o {μ:M}{l:List Value}{x:Pa}(h:Ja.cs μ l x):∃ pa gb a b c d,l=[.int .i64 x.Kind,S x.Name,.int .i64 x.X.Kind,.int .i64 x.X.N,S x.X.Name,.slice pa x.X.Kids.length gb,.slice a x.Body.length b,.slice c x.kf.length d]/\za μ pa gb x.X.Kids/\za μ a b x.Body/\za μ c d x.kf:=by
  have e:aq μ l x:=h;cases e with
  | mk _ pa gb a b c d g2 g3 f g i j k=>exact ⟨pa,gb,a,b,c,d,rfl,f,g.Qw i,j.Qw k⟩
theorem Pa.i {μ:M}{l:List Value}{x:Pa}(h:∃ pa gb a b c d,l=[.int .i64 x.Kind,S x.Name,.int .i64 x.X.Kind,.int .i64 x.X.N,S x.X.Name,.slice pa x.X.Kids.length gb,.slice a x.Body.length b,.slice c x.kf.length d]/\za μ pa gb x.X.Kids/\za μ a b x.Body/\za μ c d x.kf):Ja.cs μ l x:=by
  obtain ⟨pa,gb,a,b,c,d,rfl,g,e,f⟩:=h;obtain ⟨j,e,k⟩:=Vn.of e;obtain ⟨m,f,n⟩:=Vn.of f;exact aq.mk x pa gb a b c d j m g e k f n
structure qc where
  Kind:Int
  Text:List UInt8
  HL:Int
  xa:Int
  deriving DecidableEq,Inhabited,Repr
instance:Ja qc where
  sz:=4
  pos:=by decide
  cs μ l x:=l=[.int .i64 x.Kind,S x.Text,.int .i64 x.HL,.int .i64 x.xa]
  Qh h:=by obtain rfl:=h;rfl
  up le h:=by exact h
  fg h:=by obtain rfl:=h;rfl
structure Vd where
  Te:Int
  xa:Int
  deriving DecidableEq,Inhabited,Repr
structure Qa where
  Kind:Int
  xc:List UInt8
  deriving DecidableEq,Inhabited,Repr
instance:Ja Qa where
  sz:=2
  pos:=by decide
  cs μ l x:=l=[.int .i64 x.Kind,S x.xc]
  Qh h:=by obtain rfl:=h;rfl
  up le h:=by exact h
  fg h:=by obtain rfl:=h;rfl
structure TParam where
  Name:List UInt8
  Cb:Qa
  deriving DecidableEq,Inhabited,Repr
instance:Ja TParam where
  sz:=3
  pos:=by decide
  cs μ l x:=l=[S x.Name,.int .i64 x.Cb.Kind,S x.Cb.xc]
  Qh h:=by obtain rfl:=h;rfl
  up le h:=by exact h
  fg h:=by obtain rfl:=h;rfl
structure va where
  Kind:Int
  Name:List UInt8
  Cb:Qa
  cd:Qa
  Ie:Int
  Params:List TParam
  Body:List Pa
  deriving Inhabited,Repr
instance:Ja va where
  sz:=9
  pos:=by decide
  cs μ l x:=∃ pa gb a2 c2,l=[.int .i64 x.Kind,S x.Name,.int .i64 x.Cb.Kind,S x.Cb.xc,.int .i64 x.cd.Kind,S x.cd.xc,.int .i64 x.Ie,.slice pa x.Params.length gb,.slice a2 x.Body.length c2]/\za μ pa gb x.Params/\za μ a2 c2 x.Body
  Qh h:=by obtain ⟨pa,gb,a2,c2,rfl,m1,m2⟩:=h;rfl
  up le h:=by obtain ⟨pa,gb,a2,c2,rfl,m1,m2⟩:=h;exact ⟨pa,gb,a2,c2,rfl,m1.up le,m2.up le⟩
  fg h:=by obtain ⟨pa,gb,a2,c2,rfl,m1,m2⟩:=h;rfl
theorem va.i {μ:M}{l:List Value}{x:va}(h:∃ pa gb a b,l=[.int .i64 x.Kind,S x.Name,.int .i64 x.Cb.Kind,S x.Cb.xc,.int .i64 x.cd.Kind,S x.cd.xc,.int .i64 x.Ie,.slice pa x.Params.length gb,.slice a x.Body.length b]/\za μ pa gb x.Params/\za μ a b x.Body):Ja.cs μ l x:=h
structure ai where
  MG:List UInt8
  Writer:List UInt8
  Reader:List UInt8
  deriving DecidableEq,Inhabited,Repr
instance:Ja ai where
  sz:=3
  pos:=by decide
  cs μ l x:=l=[S x.MG,S x.Writer,S x.Reader]
  Qh h:=by obtain rfl:=h;rfl
  up le h:=by exact h
  fg h:=by obtain rfl:=h;rfl
instance:Ih Qa:=⟨au,au.up⟩
instance:Ih va:=⟨Fe,Fe.up⟩
structure qb where
  defs:List va
  named:List (List UInt8×va)
  deriving Inhabited,Repr
structure rf where
  calls:List (List UInt8)
  Sk:List (List UInt8)
  wk:List (List UInt8)
  deriving DecidableEq,Inhabited,Repr
instance:Ja rf where
  sz:=3
  pos:=by decide
  cs μ l x:=∃ pa gb a2 c2 a3 c3,l=[.slice pa x.calls.length gb,.slice a2 x.Sk.length c2,.slice a3 x.wk.length c3]/\za μ pa gb x.calls/\za μ a2 c2 x.Sk/\za μ a3 c3 x.wk
  Qh h:=by obtain ⟨pa,gb,a2,c2,a3,c3,rfl,m1,m2,m3⟩:=h;rfl
  up le h:=by obtain ⟨pa,gb,a2,c2,a3,c3,rfl,m1,m2,m3⟩:=h;exact ⟨pa,gb,a2,c2,a3,c3,rfl,m1.up le,m2.up le,m3.up le⟩
  fg h:=by obtain ⟨pa,gb,a2,c2,a3,c3,rfl,m1,m2,m3⟩:=h;rfl
theorem rf.i {μ:M}{l:List Value}{x:rf}(h:∃ pa gb a b c d,l=[.slice pa x.calls.length gb,.slice a x.Sk.length b,.slice c x.wk.length d]/\za μ pa gb x.calls/\za μ a b x.Sk/\za μ c d x.wk):Ja.cs μ l x:=h
structure ji where
  ky:List (List UInt8×Int)
  once:Bool
  deriving DecidableEq,Inhabited,Repr
instance:Ja ji where
  sz:=2
  pos:=by decide
  cs μ l x:=∃ ka,l=[.map (some ka),.bool x.once]/\Tf μ ka x.ky
  Qh h:=by obtain ⟨ka,rfl,m1⟩:=h;rfl
  up le h:=by obtain ⟨ka,rfl,m1⟩:=h;exact ⟨ka,rfl,m1.up le⟩
  fg h:=by obtain ⟨ka,rfl,m1⟩:=h;rfl
theorem ji.i {μ:M}{l:List Value}{x:ji}(h:∃ ka,l=[.map (some ka),.bool x.once]/\Tf μ ka x.ky):Ja.cs μ l x:=h
structure Mj where
  boxes:List (List UInt8×Int)
  jw:List (List UInt8×Int)
  defs:List (List UInt8×va)
  deriving Inhabited,Repr
instance:Ih rf:=⟨au,au.up⟩
structure Cm where
  Cb:Int
  Ie:Int
  deriving DecidableEq,Inhabited,Repr
instance:Ja Cm where
  sz:=2
  pos:=by decide
  cs μ l x:=l=[.int .i64 x.Cb,.int .i64 x.Ie]
  Qh h:=by obtain rfl:=h;rfl
  up le h:=by exact h
  fg h:=by obtain rfl:=h;rfl
structure pe where
  Op:Int
  A:Int
  N:Int
  deriving DecidableEq,Inhabited,Repr
instance:Ja pe where
  sz:=3
  pos:=by decide
  cs μ l x:=l=[.int .i64 x.Op,.int .i64 x.A,.int .i64 x.N]
  Qh h:=by obtain rfl:=h;rfl
  up le h:=by exact h
  fg h:=by obtain rfl:=h;rfl
structure Vi where
  Kind:Int
  Params:Int
  kj:List Int
  Result:Int
  cd:Int
  Code:List pe
  deriving DecidableEq,Inhabited,Repr
instance:Ja Vi where
  sz:=6
  pos:=by decide
  cs μ l x:=∃ pa gb a2 c2,l=[.int .i64 x.Kind,.int .i64 x.Params,.slice pa x.kj.length gb,.int .i64 x.Result,.int .i64 x.cd,.slice a2 x.Code.length c2]/\za μ pa gb x.kj/\za μ a2 c2 x.Code
  Qh h:=by obtain ⟨pa,gb,a2,c2,rfl,m1,m2⟩:=h;rfl
  up le h:=by obtain ⟨pa,gb,a2,c2,rfl,m1,m2⟩:=h;exact ⟨pa,gb,a2,c2,rfl,m1.up le,m2.up le⟩
  fg h:=by obtain ⟨pa,gb,a2,c2,rfl,m1,m2⟩:=h;rfl
theorem Vi.i {μ:M}{l:List Value}{x:Vi}(h:∃ pa gb a b,l=[.int .i64 x.Kind,.int .i64 x.Params,.slice pa x.kj.length gb,.int .i64 x.Result,.int .i64 x.cd,.slice a x.Code.length b]/\za μ pa gb x.kj/\za μ a b x.Code):Ja.cs μ l x:=h
structure we where
  xe:List Cm
  af:List Vi
  deriving DecidableEq,Inhabited,Repr
instance:Ja we where
  sz:=2
  pos:=by decide
  cs μ l x:=∃ pa gb a2 c2,l=[.slice pa x.xe.length gb,.slice a2 x.af.length c2]/\za μ pa gb x.xe/\za μ a2 c2 x.af
  Qh h:=by obtain ⟨pa,gb,a2,c2,rfl,m1,m2⟩:=h;rfl
  up le h:=by obtain ⟨pa,gb,a2,c2,rfl,m1,m2⟩:=h;exact ⟨pa,gb,a2,c2,rfl,m1.up le,m2.up le⟩
  fg h:=by obtain ⟨pa,gb,a2,c2,rfl,m1,m2⟩:=h;rfl
theorem we.i {μ:M}{l:List Value}{x:we}(h:∃ pa gb a b,l=[.slice pa x.xe.length gb,.slice a x.af.length b]/\za μ pa gb x.xe/\za μ a b x.af):Ja.cs μ l x:=h
structure ej where
  Te:Int
  Unit:Int
  xa:Int
  deriving DecidableEq,Inhabited,Repr
structure vg where
  stack:List Int
  has:List Bool
  deriving DecidableEq,Inhabited,Repr
structure og where
  m:Option we
  deriving DecidableEq,Inhabited,Repr
instance:Ja og where
  sz:=1
  pos:=by decide
  cs μ l x:=∃ v1,l=[v1]/\Bf μ v1 x.m
  Qh h:=by obtain ⟨v1,rfl,m1⟩:=h;rfl
  up le h:=by obtain ⟨v1,rfl,m1⟩:=h;exact ⟨v1,rfl,m1.up le⟩
  fg h:=by obtain ⟨v1,rfl,m1⟩:=h;simp [m1.ae]
theorem og.i {μ:M}{l:List Value}{x:og}(h:∃ a,l=[a]/\Bf μ a x.m):Ja.cs μ l x:=h
def XV:List UInt8:=[32,98,111,120,32,102,110,32,103,101,110,32,116,97,115,107,32,116,97,107,101,115,32,121,105,101,108,100,115,32,108,101,116,32,105,102,32,101,108,115,101,32,119,104,105,108,101,32,114,101,116,117,114,110,32,115,116,111,112,32,115,101,110,100,32,111,117,116,32,100,111,32,114,101,99,118,32,121,105,101,108,100,32,115,116,97,114,116,32,114,101,115,117,109,101,32,97,108,105,118,101,32,110,117,109,32,98,111,111,108,32,116,114,117,101,32,102,97,108,115,101,32,97,110,100,32,111,114,32,110,111,116,32]
def Gs  (p_1:UInt8):Option Bool :=
  if (97:Int)<=(p_1.toNat:Int) then
    if (p_1.toNat:Int)<=122 then
      some true
    else
      some (decide ((p_1.toNat:Int)=95))
  else
    some (decide ((p_1.toNat:Int)=95))
def Ks  (p_1:UInt8):Option Bool :=
  if (48:Int)<=(p_1.toNat:Int) then
    some (decide ((p_1.toNat:Int)<=57))
  else
    some false
def qs (a:Int) (b:Int->Option Int) (Sg:Bool):Option Int :=
  if Sg=true then
    (i64 (a+1)).bind λc =>
    b c
  else
    some a
def Cn (p_1:List UInt8) (p_2:UInt8->Option Bool):Nat->Int->Option Int
  | 0,_=>none
  | n+1,i13 =>
    if i13<(p_1.length:Int) then
      (at_ p_1 i13).bind λa =>
      (p_2 a).bind λb =>
      qs i13 (Cn p_1 p_2 n) b
    else
      qs i13 (Cn p_1 p_2 n) false
def tu (fu:Nat)  (p_1:List UInt8) (p_2:UInt8->Option Bool):Option Int :=
  Cn p_1 p_2 fu 0
def QF  (p_1:UInt8):Option Bool :=
  (Gs p_1).bind λa =>
  if a=true then
    some true
  else
    (Ks p_1).bind λb =>
    some b
def pt  (p_1:UInt8):Option Bool :=
  (Gs p_1).bind λa =>
  if a=true then
    some true
  else
    (Ks p_1).bind λb =>
    some b
def Po (fu:Nat) (p_1:List UInt8) (ka:Bool):Option Bool :=
  if ka=true then
    some false
  else
    (tu fu p_1 pt).bind λa =>
    some (decide (a=(p_1.length:Int)))
def ki (fu:Nat)  (p_1:List UInt8):Option Bool :=
  if (p_1.length:Int)<1 then
    Po fu p_1 true
  else
    if (12:Int)<(p_1.length:Int) then
      Po fu p_1 true
    else
      (at_ p_1 0).bind λa =>
      (Gs a).bind λb =>
      if b=true then
        (cat [32] p_1).bind λc =>
        (cat c [32]).bind λd =>
        (gB XV d).bind λe =>
        Po fu p_1 e
      else
        Po fu p_1 true
def rF  (p_1:List UInt8) (p_2:List UInt8):Option Bool :=
  if (p_2.length:Int)<=(p_1.length:Int) then
    (cut p_1 0 (p_2.length:Int)).bind λa =>
    some (decide (a=p_2))
  else
    some false
def RF  (p_1:List UInt8) (p_2:List UInt8):Option Bool :=
  (rF p_1 p_2).bind λa =>
  some a
def Qz (p_1:List UInt8):Nat->Int->Option (List UInt8)
  | 0,_=>none
  | n+1,i18 =>
    if i18<18 then
      (at_ [[61,61],[33,61],[60,61],[62,61],[60],[62],[61],[43],[45],[42],[47],[37],[40],[41],[123],[125],[44],[59]] i18).bind λa =>
      (RF p_1 a).bind λb =>
      if b=true then
        some a
      else
        (i64 (i18+1)).bind λc =>
        Qz p_1 n c
    else
      none
def KE  (p_1:List UInt8):Option (List UInt8):=
  Qz p_1 19 0
def zz (a:Int) (b:UInt8) (c:Int->Option Int) (d:Bool):Option Int :=
  if d=true then
    (i64 (a+1)).bind λe =>
    c e
  else
    if (b.toNat:Int)=35 then
      none
    else
      some a
def Dv (p_1:List UInt8):Nat->Int->Option Int
  | 0,_=>none
  | n+1,i6 =>
    if i6<(p_1.length:Int) then
      (at_ p_1 i6).bind λa =>
      if (a.toNat:Int)=32 then
        zz i6 a (Dv p_1 n) (decide ((a.toNat:Int)=32))
      else
        if (a.toNat:Int)=9 then
          none
        else
          zz i6 a (Dv p_1 n) (decide ((a.toNat:Int)=10))
    else
      some i6
def uA (fu:Nat)  (p_1:List UInt8):Option Int :=
  Dv p_1 fu 0
def kx (fu:Nat) (p_1:List UInt8) (a:Int) (d:List qc) (e:Int->(List qc)->Option (List qc×Vd)) (f:Int) (b:List UInt8) (g:Int):Option (List qc×Vd):=
  (app d [(qc.mk f b g a)]).bind λh =>
  (i64 (a+(b.length:Int))).bind λc =>
  (cut p_1 c p_1.length).bind λi =>
  (uA fu i).bind λj =>
  (i64 (c+j)).bind λk =>
  e k h
def iu (fu:Nat) (p_1:List UInt8):Nat->Int->(List qc)->Option (List qc×Vd)
  | 0,_,_=>none
  | n+1,i58,b =>
    if i58<(p_1.length:Int) then
      (cut p_1 i58 p_1.length).bind λa =>
      (at_ a 0).bind λd =>
      (Gs d).bind λf =>
      if f=true then
        (tu fu a QF).bind λg =>
        (cut a 0 g).bind λh =>
        kx fu p_1 i58 b (iu fu p_1 n) 1 h 0
      else
        (Ks d).bind λi =>
        if i=true then
          (tu fu a Ks).bind λj =>
          (cut a 0 j).bind λc =>
          if (15:Int)<(c.length:Int) then
            none
          else
            (qG c).bind λk =>
            kx fu p_1 i58 b (iu fu p_1 n) 2 c k
        else
          (KE a).bind λe =>
          if e=[] then
            none
          else
            kx fu p_1 i58 b (iu fu p_1 n) 3 e 0
    else
      some (b,(Vd.mk 0 0))
def hD (fu:Nat)  (p_1:List UInt8):Option (List qc×Vd):=
  if (6000:Int)<(p_1.length:Int) then
    none
  else
    (uA fu p_1).bind λa =>
    iu fu p_1 fu a []
def Az  (nh:Bool):Option Int :=
  if nh=true then
    some 2
  else
    some (-1)
def Ev (p_1:Int) (Ff:Bool):Option Int :=
  if Ff=true then
    some 1
  else
    if p_1<=18 then
      Az true
    else
      Az (decide (p_1=23))
def tx (p_1:Int) (ka:Bool):Option Int :=
  if ka=true then
    some 0
  else
    if p_1<=5 then
      Ev p_1 true
    else
      if p_1=21 then
        Ev p_1 true
      else
        Ev p_1 (decide (p_1=24))
def Px  (p_1:Int):Option Int :=
  if p_1<=3 then
    tx p_1 true
  else
    tx p_1 (decide (p_1=20))
def Bz (a:Int) (Ff:Bool):Option (Int×Int):=
  if Ff=true then
    some (4,a)
  else
    some (0,a)
def uu  (b:Int) (p_2:Int):Option (Int×Int):=
  (i64 (b+1)).bind λa =>
  if (2000:Int)<a then
    Bz a true
  else
    Bz a (decide ((40:Int)<p_2))
def Fx  (ee:Bool):Option Int :=
  if ee=true then
    some 7
  else
    some 0
def qu (fu:Nat) (p_1:Qa) (Ua:Bool):Option Int :=
  if Ua=true then
    some 1
  else
    if p_1.Kind=3 then
      (ki fu p_1.xc).bind λa =>
      Fx (!a)
    else
      Fx false
def gr (fu:Nat)  (p_1:Qa):Option Int :=
  if p_1.Kind<1 then
    qu fu p_1 true
  else
    qu fu p_1 (decide ((3:Int)<p_1.Kind))
structure ko where
  Jj:Int->Na->Int->Option (Int×Int)
def Kl (self:ko) (p_2:Na) (p_3:Int):Nat->Int->Int->Option (Int×Int)
  | 0,_,_=>none
  | n+1,i72,i73 =>
    if i72<(p_2.Kids.length:Int) then
      (at_ p_2.Kids i72).bind λb =>
      (i64 (p_3+1)).bind λc =>
      (self.Jj i73 b c).bind λa =>
      if a.1≠0 then
        some (a.1,a.2)
      else
        (i64 (i72+1)).bind λd =>
        Kl self p_2 p_3 n d a.2
    else
      some (0,i73)
def Uq (self:ko) (p_2:Na) (p_3:Int) (a:Int×Int) (b:Bool):Option (Int×Int):=
  if b=true then
    some (5,a.2)
  else
    Kl self p_2 p_3 (p_2.Kids.length+1) 0 a.2
def Vq (self:ko) (p_2:Na) (p_3:Int) (a:Int×Int) (c:Int) (b:Bool):Option (Int×Int):=
  if b=true then
    Uq self p_2 p_3 a b
  else
    if c<0 then
      Uq self p_2 p_3 a (decide ((6:Int)<(p_2.Kids.length:Int)))
    else
      Uq self p_2 p_3 a false
def Ro (self:ko) (p_2:Na) (p_3:Int) (b:Int×Int) (a:Int) (c:Bool):Option (Int×Int):=
  if c=true then
    some (7,b.2)
  else
    if (0:Int)<=a then
      Vq self p_2 p_3 b a (decide ((p_2.Kids.length:Int)≠a))
    else
      Vq self p_2 p_3 b a false
def Mp (fu:Nat) (self:ko) (p_2:Na) (p_3:Int) (a:Int×Int) (b:Int) (Sg:Bool):Option (Int×Int):=
  if Sg=true then
    some (3,a.2)
  else
    if p_2.Kind=3 then
      (ki fu p_2.Name).bind λc =>
      Ro self p_2 p_3 a b (!c)
    else
      if p_2.Kind=20 then
        (ki fu p_2.Name).bind λd =>
        Ro self p_2 p_3 a b (!d)
      else
        if b<0 then
          (ki fu p_2.Name).bind λe =>
          Ro self p_2 p_3 a b (!e)
        else
          Ro self p_2 p_3 a b false
def Wq (fu:Nat) (self:ko) (p_2:Na) (p_3:Int) (a:Int×Int) (b:Int) (c:Bool):Option (Int×Int):=
  if c=true then
    Mp fu self p_2 p_3 a b c
  else
    if p_2.Kind=2 then
      if p_2.N≠0 then
        Mp fu self p_2 p_3 a b (decide (p_2.N≠1))
      else
        Mp fu self p_2 p_3 a b false
    else
      Mp fu self p_2 p_3 a b false
def fo (fu:Nat) (self:ko) (p_2:Na) (p_3:Int) (a:Int×Int) (Bg:Bool):Option (Int×Int):=
  if Bg=true then
    some (1,a.2)
  else
    (Px p_2.Kind).bind λb =>
    if p_2.Kind=1 then
      if p_2.N<0 then
        Wq fu self p_2 p_3 a b true
      else
        Wq fu self p_2 p_3 a b (decide ((999999999999999:Int)<p_2.N))
    else
      Wq fu self p_2 p_3 a b false
def Jj (fu:Nat) (self:ko) (b:Int) (p_2:Na) (p_3:Int):Option (Int×Int):=
  (uu b p_3).bind λa =>
  if a.1≠0 then
    some (a.1,a.2)
  else
    if p_2.Kind<1 then
      fo fu self p_2 p_3 a true
    else
      fo fu self p_2 p_3 a (decide ((24:Int)<p_2.Kind))
def Ij:Nat->ko
  | 0=>⟨λ_ _ _=>none⟩
  | n+1=>⟨Jj n (Ij n)⟩
structure lo where
  yh:Int->(List Pa)->Int->Option (Int×Int)
  cl:Int->Pa->Int->Option (Int×Int)
def Wr (self:lo) (p_2:List Pa) (p_3:Int):Nat->Int->Int->Option (Int×Int)
  | 0,_,_=>none
  | n+1,i29,i30 =>
    if i29<(p_2.length:Int) then
      (at_ p_2 i29).bind λb =>
      (self.cl i30 b p_3).bind λa =>
      if a.1≠0 then
        some (a.1,a.2)
      else
        (i64 (i29+1)).bind λc =>
        Wr self p_2 p_3 n c a.2
    else
      some (0,i30)
def yh (self:lo) (a:Int) (p_2:List Pa) (p_3:Int):Option (Int×Int):=
  if (50:Int)<(p_2.length:Int) then
    some (5,a)
  else
    Wr self p_2 p_3 (p_2.length+1) 0 a
def ss (self:lo) (p_2:Pa) (p_3:Int) (a:Int):Option (Int×Int):=
  if p_2.Kind=3 then
    (i64 (p_3+1)).bind λc =>
    (self.yh a p_2.kf c).bind λb =>
    some (b.1,b.2)
  else
    some (0,a)
def ts (self:lo) (p_2:Pa) (p_3:Int) (b:Int×Int) (c:Bool):Option (Int×Int):=
  if c=true then
    (i64 (p_3+1)).bind λd =>
    (self.yh b.2 p_2.Body d).bind λa =>
    if a.1≠0 then
      some (a.1,a.2)
    else
      ss self p_2 p_3 a.2
  else
    ss self p_2 p_3 b.2
def So (fu:Nat) (self:lo) (p_2:Pa) (p_3:Int) (b:Int×Int) (c:Bool):Option (Int×Int):=
  if c=true then
    some (7,b.2)
  else
    if p_2.Kind=6 then
      some (0,b.2)
    else
      (i64 (p_3+1)).bind λd =>
      ((Ij fu).Jj b.2 p_2.X d).bind λa =>
      if a.1≠0 then
        some (a.1,a.2)
      else
        if p_2.Kind=3 then
          ts self p_2 p_3 a true
        else
          ts self p_2 p_3 a (decide (p_2.Kind=4))
def Np (fu:Nat) (self:lo) (p_2:Pa) (p_3:Int) (a:Int×Int) (ig:Bool):Option (Int×Int):=
  if ig=true then
    some (1,a.2)
  else
    if p_2.Kind=1 then
      (ki fu p_2.Name).bind λb =>
      So fu self p_2 p_3 a (!b)
    else
      if p_2.Kind=2 then
        (ki fu p_2.Name).bind λc =>
        So fu self p_2 p_3 a (!c)
      else
        if p_2.Kind=7 then
          (ki fu p_2.Name).bind λd =>
          So fu self p_2 p_3 a (!d)
        else
          So fu self p_2 p_3 a false
def cl (fu:Nat) (self:lo) (b:Int) (p_2:Pa) (p_3:Int):Option (Int×Int):=
  (uu b p_3).bind λa =>
  if a.1≠0 then
    some (a.1,a.2)
  else
    if p_2.Kind<1 then
      Np fu self p_2 p_3 a true
    else
      Np fu self p_2 p_3 a (decide ((9:Int)<p_2.Kind))
def xj:Nat->lo
  | 0=>⟨λ_ _ _=>none,λ_ _ _=>none⟩
  | n+1=>⟨yh (xj n),cl n (xj n)⟩
def Lv (Ue:Int×Int) (a:Bool):Option (Int×Int):=
  if a=true then
    some (3,Ue.2)
  else
    some (0,Ue.2)
def Bs (fu:Nat) (p_2:va) (Ue:Int×Int):Option (Int×Int):=
  if p_2.Kind≠1 then
    ((xj fu).yh Ue.2 p_2.Body 2).bind λa =>
    some (a.1,a.2)
  else
    if p_2.Ie<1 then
      Lv Ue true
    else
      Lv Ue (decide ((20:Int)<p_2.Ie))
def Cs (fu:Nat) (p_2:va) (Ue:Int×Int):Option (Int×Int):=
  if p_2.Kind≠4 then
    (gr fu p_2.Cb).bind λa =>
    if a≠0 then
      some (a,Ue.2)
    else
      Bs fu p_2 Ue
  else
    Bs fu p_2 Ue
def Rp (fu:Nat) (p_2:va) (Ue:Int×Int):Option (Int×Int):=
  if p_2.Kind=3 then
    (gr fu p_2.cd).bind λa =>
    if a≠0 then
      some (a,Ue.2)
    else
      Cs fu p_2 Ue
  else
    Cs fu p_2 Ue
def Ds (fu:Nat) (p_2:va) (Ue:Int×Int):Nat->Int->Option (Int×Int)
  | 0,_=>none
  | n+1,i47 =>
    if i47<(p_2.Params.length:Int) then
      (at_ p_2.Params i47).bind λa =>
      (ki fu a.Name).bind λc =>
      if c=true then
        (gr fu a.Cb).bind λb =>
        if b≠0 then
          some (b,Ue.2)
        else
          (i64 (i47+1)).bind λd =>
          Ds fu p_2 Ue n d
      else
        some (7,Ue.2)
    else
      Rp fu p_2 Ue
def Es (fu:Nat) (p_2:va) (Ue:Int×Int) (Sg:Bool):Option (Int×Int):=
  if Sg=true then
    if (6:Int)<(p_2.Params.length:Int) then
      some (5,Ue.2)
    else
      Ds fu p_2 Ue (p_2.Params.length+1) 0
  else
    Rp fu p_2 Ue
def Sp (fu:Nat) (p_2:va) (Ue:Int×Int) (a:Bool):Option (Int×Int):=
  if a=true then
    some (1,Ue.2)
  else
    (ki fu p_2.Name).bind λb =>
    if b=true then
      if p_2.Kind=2 then
        Es fu p_2 Ue true
      else
        Es fu p_2 Ue (decide (p_2.Kind=3))
    else
      some (7,Ue.2)
def zu (fu:Nat)  (a:Int) (p_2:va):Option (Int×Int):=
  (uu a 1).bind λUe =>
  if Ue.1≠0 then
    some (Ue.1,Ue.2)
  else
    if p_2.Kind<1 then
      Sp fu p_2 Ue true
    else
      Sp fu p_2 Ue (decide ((4:Int)<p_2.Kind))
def Xr (fu:Nat) (p_1:List va):Nat->Int->Int->Option Vd
  | 0,_,_=>none
  | n+1,i28,i29 =>
    if i28<(p_1.length:Int) then
      (at_ p_1 i28).bind λb =>
      (zu fu i29 b).bind λa =>
      if a.1≠0 then
        some (Vd.mk a.1 i28)
      else
        (i64 (i28+1)).bind λc =>
        Xr fu p_1 n c a.2
    else
      some (Vd.mk 0 0)
def Hs (fu:Nat)  (p_1:List va):Option Vd :=
  if (30:Int)<(p_1.length:Int) then
    some (Vd.mk 5 0)
  else
    Xr fu p_1 (p_1.length+1) 0 0
def CB  (a:List qc) (c:Int) (d:Int):Option Int :=
  if (a.length:Int)=0 then
    none
  else
    (at_ a 0).bind λb =>
    some b.xa
def ir  (a:List qc) (c:Int) (d:Int) (p_2:List UInt8):Option Bool :=
  if (0:Int)<(a.length:Int) then
    (at_ a 0).bind λb =>
    some (decide (b.Text=p_2))
  else
    none
def Oh  (a:List qc) (b:Int) (c:Int) (p_2:List UInt8):Option (Bool×List qc×Int×Int):=
  (ir a b c p_2).bind λd =>
  if d=true then
    (cut a 1 a.length).bind λe =>
    some (true,e,b,c)
  else
    some (false,a,b,c)
def dA (p_2:List (List UInt8)):Nat->Int->(List qc)->Int->Int->Option (List qc×Int×Int)
  | 0,_,_,_,_=>none
  | n+1,i30,b,i35,i36 =>
    if i30<(p_2.length:Int) then
      (at_ p_2 i30).bind λc =>
      (Oh b i35 i36 c).bind λa =>
      if a.1=true then
        (i64 (i30+1)).bind λd =>
        dA p_2 n d a.2.1 a.2.2.1 a.2.2.2
      else
        none
    else
      some (b,i35,i36)
def Gu  (a:List qc) (b:Int) (c:Int) (p_2:List (List UInt8)):Option (List qc×Int×Int):=
  dA p_2 (p_2.length+1) 0 a b c
def cw (fu:Nat)  (a:List qc) (c:Int) (d:Int):Option (List UInt8×List qc×Int×Int):=
  if (a.length:Int)=0 then
    none
  else
    (at_ a 0).bind λe =>
    if e.Kind≠1 then
      none
    else
      (at_ a 0).bind λb =>
      (ki fu b.Text).bind λf =>
      if f=true then
        (cut a 1 a.length).bind λg =>
        some (b.Text,g,c,d)
      else
        none
def vA  (a:List qc) (b:Int) (c:Int):Option (Int×List qc×Int×Int):=
  if (a.length:Int)=0 then
    none
  else
    (at_ a 0).bind λd =>
    if d.Kind≠2 then
      none
    else
      (at_ a 0).bind λe =>
      (cut a 1 a.length).bind λf =>
      some (e.HL,f,b,c)
def SF  (b:List qc) (c:Int) (d:Int):Option (Qa×List qc×Int×Int):=
  (Oh b c d [110,117,109]).bind λa =>
  if a.1=true then
    some ((Qa.mk 1 []),a.2.1,a.2.2.1,a.2.2.2)
  else
    none
def bE  :Option (List ji):=
  some [(ji.mk (dd ([]:List (List UInt8×Int)) [111,114] 18) false),(ji.mk (dd ([]:List (List UInt8×Int)) [97,110,100] 17) false),(ji.mk (dd (dd (dd (dd (dd (dd ([]:List (List UInt8×Int)) [61,61] 11) [33,61] 12) [60] 13) [60,61] 14) [62] 15) [62,61] 16) true),(ji.mk (dd (dd ([]:List (List UInt8×Int)) [43] 6) [45] 7) false),(ji.mk (dd (dd (dd ([]:List (List UInt8×Int)) [42] 8) [47] 9) [37] 10) false)]
def TA  (b:List qc) (c:Int) (d:Int):Option (List qc×Int×Int):=
  (i64 (d+1)).bind λa =>
  if (200:Int)<a then
    none
  else
    some (b,c,a)
def iB  (a:List qc) (b:Int) (c:Int):Option (List qc×Int×Int):=
  (i64 (c - 1)).bind λd =>
  some (a,b,d)
structure tp where
  bq:(List qc)->Int->Int->Option (Na×List qc×Int×Int)
  mo:(List qc)->Int->Int->Int->Option (Na×List qc×Int×Int)
  Ss:(List qc)->Int->Int->Option (Na×List qc×Int×Int)
  Yq:(List qc)->Int->Int->Option (Na×List qc×Int×Int)
def bq (self:tp) (d:List qc) (e:Int) (f:Int):Option (Na×List qc×Int×Int):=
  (TA d e f).bind λb =>
  (self.mo b.1 b.2.1 b.2.2 0).bind λa =>
  (iB a.2.1 a.2.2.1 a.2.2.2).bind λc =>
  some (a.1,c.1,c.2.1,c.2.2)
def iD (p_2:Int) (a:List ji) (b:ji) (c:qc) (d:(List qc)->Int->Int->Int->Int->(List UInt8)->(List Na)->Option (Na×List qc×Int×Int)) (e:List qc) (f:Int) (g:Int) (h:List Na):Option (Na×List qc×Int×Int):=
  (at_ a p_2).bind λi =>
  if i.once=true then
    none
  else
    d e f g ((Sa b.ky c.Text).getD 0) 0 [] h
def Gx (self:tp) (p_2:Int) (c:List ji):Nat->(List qc)->Int->Int->Int->Int->(List UInt8)->(List Na)->Option (Na×List qc×Int×Int)
  | 0,_,_,_,_,_,_,_=>none
  | n+1,a,i103,i104,i105,i106,d,e =>
    if (0:Int)<(a.length:Int) then
      (at_ c p_2).bind λf =>
      (at_ a 0).bind λg =>
      if ((Sa f.ky g.Text).getD 0)=0 then
        some ((Na.mk i105 i106 d e),a,i103,i104)
      else
        (cut a 1 a.length).bind λh =>
        (i64 (p_2+1)).bind λi =>
        (self.mo h i103 i104 i).bind λb =>
        iD p_2 c f g (Gx self p_2 c n) b.2.1 b.2.2.1 b.2.2.2 [(Na.mk i105 i106 d e),b.1]
    else
      none
def mo (fu:Nat) (self:tp) (c:List qc) (d:Int) (e:Int) (p_2:Int):Option (Na×List qc×Int×Int):=
  (bE ).bind λf =>
  if p_2=(f.length:Int) then
    (self.Ss c d e).bind λb =>
    some (b.1,b.2.1,b.2.2.1,b.2.2.2)
  else
    (i64 (p_2+1)).bind λg =>
    (self.mo c d e g).bind λa =>
    Gx self p_2 f fu a.2.1 a.2.2.1 a.2.2.2 a.1.Kind a.1.N a.1.Name a.1.Kids
def Ss (self:tp) (d:List qc) (e:Int) (f:Int):Option (Na×List qc×Int×Int):=
  (Oh d e f [45]).bind λa =>
  if a.1=true then
    none
  else
    (Oh a.2.1 a.2.2.1 a.2.2.2 [110,111,116]).bind λb =>
    if b.1=true then
      none
    else
      (self.Yq b.2.1 b.2.2.1 b.2.2.2).bind λc =>
      some (c.1,c.2.1,c.2.2.1,c.2.2.2)
def Yq (fu:Nat) (self:tp) (a:List qc) (j:Int) (k:Int):Option (Na×List qc×Int×Int):=
  if (0:Int)<(a.length:Int) then
    (at_ a 0).bind λl =>
    if l.Kind=2 then
      (vA a j k).bind λb =>
      some ((Na.mk 1 b.1 [] ([]:List Na)),b.2.1,b.2.2.1,b.2.2.2)
    else
      (Oh a j k [116,114,117,101]).bind λc =>
      if c.1=true then
        none
      else
        (Oh c.2.1 c.2.2.1 c.2.2.2 [102,97,108,115,101]).bind λd =>
        if d.1=true then
          none
        else
          (Oh d.2.1 d.2.2.1 d.2.2.2 [40]).bind λe =>
          if e.1=true then
            none
          else
            (Oh e.2.1 e.2.2.1 e.2.2.2 [114,101,99,118]).bind λf =>
            if f.1=true then
              (Gu f.2.1 f.2.2.1 f.2.2.2 [[40]]).bind λh =>
              (cw fu h.1 h.2.1 h.2.2).bind λg =>
              (Gu g.2.1 g.2.2.1 g.2.2.2 [[41]]).bind λi =>
              some ((Na.mk 20 0 g.1 ([]:List Na)),i.1,i.2.1,i.2.2)
            else
              none
  else
    none
def vu:Nat->tp
  | 0=>⟨λ_ _ _=>none,λ_ _ _ _=>none,λ_ _ _=>none,λ_ _ _=>none⟩
  | n+1=>⟨bq (vu n),mo n (vu n),Ss (vu n),Yq n (vu n)⟩
structure Ru where
  Xs:(List qc)->Int->Int->Option (List Pa×List qc×Int×Int)
  Ys:(List qc)->Int->Int->Option (Pa×List qc×Int×Int)
def eA (self:Ru):Nat->(List qc)->Int->Int->(List Pa)->Option (List Pa×List qc×Int×Int)
  | 0,_,_,_,_=>none
  | n+1,e,i65,i66,c =>
    (Oh e i65 i66 [125]).bind λa =>
    if a.1=true then
      (iB a.2.1 a.2.2.1 a.2.2.2).bind λd =>
      some (c,d.1,d.2.1,d.2.2)
    else
      if (c.length:Int)=50 then
        none
      else
        (self.Ys a.2.1 a.2.2.1 a.2.2.2).bind λb =>
        (app c [b.1]).bind λf =>
        eA self n b.2.1 b.2.2.1 b.2.2.2 f
def Xs (fu:Nat) (self:Ru) (c:List qc) (d:Int) (e:Int):Option (List Pa×List qc×Int×Int):=
  (TA c d e).bind λa =>
  (Gu a.1 a.2.1 a.2.2 [[123]]).bind λb =>
  eA self fu b.1 b.2.1 b.2.2 []
def fA  (b:List qc) (c:Int) (d:Int) (e:Int) (f:List UInt8) (g:Int) (h:Int) (i:List UInt8) (j:List Na):Option (Pa×List qc×Int×Int):=
  (Gu b c d [[59]]).bind λa =>
  some ((Pa.mk e f (Na.mk g h i j) ([]:List Pa) ([]:List Pa)),a.1,a.2.1,a.2.2)
def Ys (fu:Nat) (self:Ru) (k:List qc) (l:Int) (m:Int):Option (Pa×List qc×Int×Int):=
  (Oh k l m [105,102]).bind λd =>
  if d.1=true then
    none
  else
    (Oh d.2.1 d.2.2.1 d.2.2.2 [119,104,105,108,101]).bind λe =>
    if e.1=true then
      none
    else
      (Oh e.2.1 e.2.2.1 e.2.2.2 [108,101,116]).bind λf =>
      if f.1=true then
        none
      else
        (Oh f.2.1 f.2.2.1 f.2.2.2 [114,101,116,117,114,110]).bind λg =>
        if g.1=true then
          none
        else
          (Oh g.2.1 g.2.2.1 g.2.2.2 [115,116,111,112]).bind λh =>
          if h.1=true then
            none
          else
            (Oh h.2.1 h.2.2.1 h.2.2.2 [115,101,110,100]).bind λa =>
            if a.1=true then
              (cw fu a.2.1 a.2.2.1 a.2.2.2).bind λi =>
              ((vu fu).bq i.2.1 i.2.2.1 i.2.2.2).bind λb =>
              fA b.2.1 b.2.2.1 b.2.2.2 7 i.1 b.1.Kind b.1.N b.1.Name b.1.Kids
            else
              (Oh a.2.1 a.2.2.1 a.2.2.2 [111,117,116]).bind λj =>
              if j.1=true then
                ((vu fu).bq j.2.1 j.2.2.1 j.2.2.2).bind λc =>
                fA c.2.1 c.2.2.1 c.2.2.2 8 [] c.1.Kind c.1.N c.1.Name c.1.Kids
              else
                none
def wA:Nat->Ru
  | 0=>⟨λ_ _ _=>none,λ_ _ _=>none⟩
  | n+1=>⟨Xs n (wA n),Ys n (wA n)⟩
def TF (fu:Nat)  (k:List qc) (l:Int) (m:Int):Option (va×List qc×Int×Int):=
  (CB k l m).bind λn =>
  (Oh k l m [98,111,120]).bind λb =>
  if b.1=true then
    (cw fu b.2.1 b.2.2.1 b.2.2.2).bind λd =>
    (SF d.2.1 d.2.2.1 d.2.2.2).bind λa =>
    (CB a.2.1 a.2.2.1 a.2.2.2).bind λo =>
    (vA a.2.1 a.2.2.1 a.2.2.2).bind λc =>
    if c.1<1 then
      none
    else
      if (20:Int)<c.1 then
        none
      else
        (Gu c.2.1 c.2.2.1 c.2.2.2 [[59]]).bind λj =>
        some ((va.mk 1 d.1 (Qa.mk a.1.Kind a.1.xc) (Qa.mk 0 []) c.1 ([]:List TParam) ([]:List Pa)),j.1,j.2.1,j.2.2)
  else
    (Oh b.2.1 b.2.2.1 b.2.2.2 [102,110]).bind λe =>
    if e.1=true then
      none
    else
      (Oh e.2.1 e.2.2.1 e.2.2.2 [103,101,110]).bind λf =>
      if f.1=true then
        none
      else
        (Oh f.2.1 f.2.2.1 f.2.2.2 [116,97,115,107]).bind λg =>
        if g.1=true then
          (cw fu g.2.1 g.2.2.1 g.2.2.2).bind λh =>
          ((wA fu).Xs h.2.1 h.2.2.1 h.2.2.2).bind λi =>
          some ((va.mk 4 h.1 (Qa.mk 0 []) (Qa.mk 0 []) 0 ([]:List TParam) i.1),i.2.1,i.2.2.1,i.2.2.2)
        else
          none
theorem WQ {α:Type}{l:List qc}{e d:Int}{k1 b:List UInt8}(m:¬ k1=b){A B C:Bool×List qc×Int×Int->Option α}{r:α}
    (h:(Option.bind (Oh l e d k1) λx=>if x.1=true then A x else Option.bind (Oh x.2.1 x.2.2.1 x.2.2.2 b) λy=>if y.1=true then B y else C y)=some r) :
    (Option.bind (Oh l e d b) λy=>if y.1=true then B y else Option.bind (Oh y.2.1 y.2.2.1 y.2.2.2 k1) λx=>if x.1=true then A x else C x)=some r:=by
  have key:∀ k,(ir l e d k=some false/\Oh l e d k=some (false,l,e,d))\/(∃ t Aa,l=t::Aa/\t.Text=k/\Oh l e d k=some (true,Aa,e,d)):=by
    intro k;cases l with
    | nil=>first | (left; simp [ir,Oh]; done) | (exfalso; simp [ir,Oh] at h)
    | cons t Aa =>
      by_cases f:t.Text=k
      · right;refine ⟨t,Aa,rfl,f,?_⟩;have g:(0:Int)<((Aa.length+1:Nat):Int):=by omega
        have n:(1:Int)<=((Aa.length+1:Nat):Int):=by omega
        have o:cut (t::Aa) 1 ((t::Aa).length)=some Aa:=by
          unfold cut;rw [if_pos ⟨by omega,by simpa using n,by simp⟩];simp
        have p:ir (t::Aa) e d k=some true:=by
          unfold ir;rw [if_pos (by simp)];simp [at_,f]
        unfold Oh;rw [p,Option.bind_some];simp only [if_true];rw [o];rfl
      · left;have g:(0:Int)<((Aa.length+1:Nat):Int):=by omega
        simp [Oh,ir,at_,f,g]
  rcases key k1 with ⟨u,c⟩ | ⟨t,Aa,la,i,c⟩
  · rw [c,Option.bind_some] at h;simp only [Bool.false_eq_true,if_false] at h;rcases key b with ⟨q,a⟩ | ⟨t,Aa,la,i,a⟩
    · rw [a,Option.bind_some] at h ⊢;simp only [Bool.false_eq_true,if_false] at h ⊢;rw [c,Option.bind_some];simpa using h
    · rw [a,Option.bind_some] at h ⊢;simp only [if_true] at h ⊢;exact h
  · rw [c,Option.bind_some] at h;simp only [if_true] at h;rcases key b with ⟨q,a⟩ | ⟨v,w,j,s,a⟩
    · rw [a,Option.bind_some];simp only [Bool.false_eq_true,if_false];rw [c,Option.bind_some];simpa using h
    · rw [la] at j;obtain ⟨rfl,rfl⟩:=List.cons.inj j;exact absurd (i.symm.trans s) m
def dK:Option Unit:=some ()
def SC (a:(List qc)->Int->Int->(List va)->Option (List va×Vd)) (b:List qc) (c:Int) (d:Int) (e:List va):Option (List va×Vd):=
  a b c d e
def TC (a:List qc×Vd) (b:List va):Option (List va×Vd):=
  (dK ).bind λc =>
  some (b,a.2)
def ux (fu:Nat) (c:List qc×Vd):Nat->(List qc)->Int->Int->(List va)->Option (List va×Vd)
  | 0,_,_,_,_=>none
  | n+1,d,i41,i42,a =>
    if (0:Int)<(d.length:Int) then
      if (a.length:Int)=30 then
        none
      else
        (TF fu d i41 i42).bind λb =>
        (app a [b.1]).bind λe =>
        SC (ux fu c n) b.2.1 b.2.2.1 b.2.2.2 e
    else
      (Hs fu a).bind λf =>
      if f.Te≠0 then
        none
      else
        TC c a
def cE (fu:Nat)  (p_1:List UInt8):Option (List va×Vd):=
  (hD fu p_1).bind λa =>
  if a.2.Te≠0 then
    none
  else
    ux fu a fu a.1 (p_1.length:Int) 0 []
def To  (p_1:Qa):Option Bool :=
  some (decide (p_1.Kind≠3))
def Is  (p_1:qb) (p_2:Int) (p_3:List UInt8):Option (Option va×Bool):=
  if (Sa p_1.named p_3).isSome=true then
    ((Sa p_1.named p_3)).bind λa =>
    some ((Sa p_1.named p_3),decide (a.Kind=p_2))
  else
    some ((Sa p_1.named p_3),false)
def Qx  (p_1:qb) (p_2:Qa):Option Int :=
  (To p_2).bind λa =>
  if a=true then
    some 0
  else
    (Is p_1 3 p_2.xc).bind λb =>
    if b.2=true then
      some 0
    else
      some 7
def qz (p_1:Qa) (a:List UInt8):Option Qa :=
  some (Qa.mk p_1.Kind a)
def Up  (p_1:Qa):Option Qa :=
  (To p_1).bind λa =>
  if a=true then
    qz p_1 []
  else
    qz p_1 p_1.xc
def Ql  :Option Qa :=
  some (Qa.mk 1 [])
def Zj  :Option Qa :=
  some (Qa.mk 2 [])
def Yr (p_2:List UInt8) (a:List (List (List UInt8×Qa))):Nat->Int->Option (Qa×Bool)
  | 0,_=>none
  | n+1,i48 =>
    if (0:Int)<=i48 then
      (at_ a i48).bind λb =>
      if (Sa b p_2).isSome=true then
        some (((Sa b p_2).getD (Qa.mk 0 [])),true)
      else
        (i64 (i48 - 1)).bind λc =>
        Yr p_2 a n c
    else
      some ((Qa.mk 0 []),false)
def Zq (fu:Nat)  (c:qb) (d:va) (a:List (List (List UInt8×Qa))) (p_2:List UInt8):Option (Qa×Bool):=
  (i64 ((a.length:Int) - 1)).bind λb =>
  Yr p_2 a fu b
structure il where
  Lh:qb->va->(List (List (List UInt8×Qa)))->Na->Qa->Option Int
  Ol:qb->va->(List (List (List UInt8×Qa)))->Na->Int->Option (Option va×Int)
  cn:qb->va->(List (List (List UInt8×Qa)))->Na->Option (Qa×Int)
  Ll:qb->va->(List (List (List UInt8×Qa)))->Na->Option (Option va×Int)
  Qi:qb->va->(List (List (List UInt8×Qa)))->Na->Option (Qa×Int)
def mz  (a:Int):Option Int :=
  some a
def lx (a:Qa×Int) (b:Bool):Option Int :=
  if b=true then
    mz 9
  else
    mz a.2
def Lh (self:il) (c:qb) (d:va) (e:List (List (List UInt8×Qa))) (p_2:Na) (p_3:Qa):Option Int :=
  (self.Qi c d e p_2).bind λa =>
  if a.2=0 then
    (Up p_3).bind λb =>
    lx a (!(Fm [(decide (a.1.Kind=b.Kind)),(decide (a.1.xc=b.xc))]))
  else
    lx a false
def Zr (self:il) (p_2:Na) (b:qb) (c:va) (d:List (List (List UInt8×Qa))) (e:Option va×Bool) (a:va):Nat->Int->Option (Option va×Int)
  | 0,_=>none
  | n+1,i104 =>
    if i104<(a.Params.length:Int) then
      (at_ a.Params i104).bind λg =>
      (at_ p_2.Kids i104).bind λh =>
      (self.Lh b c d h g.Cb).bind λf =>
      if f≠0 then
        some (none,f)
      else
        (i64 (i104+1)).bind λi =>
        Zr self p_2 b c d e a n i
    else
      some (e.1,0)
def ox (self:il) (p_2:Na) (c:qb) (d:va) (e:List (List (List UInt8×Qa))) (a:Option va×Bool) (f:Bool):Option (Option va×Int):=
  if f=true then
    some (none,5)
  else
    (a.1).bind λb =>
    Zr self p_2 c d e a b (b.Params.length+1) 0
def Ol (self:il) (b:qb) (c:va) (d:List (List (List UInt8×Qa))) (p_2:Na) (p_3:Int):Option (Option va×Int):=
  (Is b p_3 p_2.Name).bind λa =>
  if a.2=true then
    (a.1).bind λe =>
    ox self p_2 b c d a (decide ((e.Params.length:Int)≠(p_2.Kids.length:Int)))
  else
    some (none,7)
def rz (a:Qa×Int) (b:Int):Option (Qa×Int):=
  some (a.1,b)
def ku (a:Qa×Int) (b:Qa×Int) (c:Bool):Option (Qa×Int):=
  if c=true then
    rz a 9
  else
    rz a b.2
def cn (self:il) (c:qb) (d:va) (e:List (List (List UInt8×Qa))) (p_2:Na):Option (Qa×Int):=
  (at_ p_2.Kids 0).bind λf =>
  (self.Qi c d e f).bind λa =>
  if a.2≠0 then
    some (a.1,a.2)
  else
    (at_ p_2.Kids 1).bind λg =>
    (self.Qi c d e g).bind λb =>
    if b.2=0 then
      if (Fm [(decide (a.1.Kind=b.1.Kind)),(decide (a.1.xc=b.1.xc))])=true then
        (To a.1).bind λh =>
        ku a b (!h)
      else
        ku a b true
    else
      ku a b false
def Ll (self:il) (b:qb) (c:va) (d:List (List (List UInt8×Qa))) (p_2:Na):Option (Option va×Int):=
  (self.Qi b c d p_2).bind λa =>
  if a.2≠0 then
    some (none,a.2)
  else
    (To a.1).bind λe =>
    if e=true then
      some (none,9)
    else
      some ((Sa b.named a.1.xc),0)
def KC  (a:Int) (b:Int) (c:List UInt8):Option (Qa×Int):=
  some ((Qa.mk b c),a)
def LC  (a:Int) (b:Int) (c:List UInt8):Option (Qa×Int):=
  some ((Qa.mk b c),a)
def MC  (a:Int) (b:Int) (c:List UInt8):Option (Qa×Int):=
  some ((Qa.mk b c),a)
def NC  (a:Int) (b:Int) (c:List UInt8):Option (Qa×Int):=
  some ((Qa.mk b c),a)
def fs (self:il) (p_2:Na) (c:qb) (d:va) (e:List (List (List UInt8×Qa))) (f:Int) (g:List UInt8) (a:Int) (b:List UInt8):Nat->Int->Option (Qa×Int)
  | 0,_=>none
  | n+1,i314 =>
    if i314<(p_2.Kids.length:Int) then
      (at_ p_2.Kids i314).bind λi =>
      (self.Lh c d e i (Qa.mk f g)).bind λh =>
      if h≠0 then
        some ((Qa.mk a b),h)
      else
        (i64 (i314+1)).bind λj =>
        fs self p_2 c d e f g a b n j
    else
      some ((Qa.mk a b),0)
def lu (self:il) (p_2:Na) (a:qb) (b:va) (c:List (List (List UInt8×Qa))) (d:Int) (e:List UInt8) (f:Int) (g:List UInt8):Option (Qa×Int):=
  fs self p_2 a b c d e f g (p_2.Kids.length+1) 0
def hs (self:il) (p_2:Na) (b:qb) (a:va) (c:List (List (List UInt8×Qa))) (o:Bool):Option (Qa×Int):=
  if o=true then
    (self.cn b a c p_2).bind λp =>
    (Zj ).bind λq =>
    some (q,p.2)
  else
    if p_2.Kind=19 then
      (self.Ol b a c p_2 2).bind λe =>
      if e.2≠0 then
        (Ql ).bind λr =>
        some (r,e.2)
      else
        (e.1).bind λs =>
        (Up s.Cb).bind λt =>
        some (t,0)
    else
      if p_2.Kind=20 then
        (Is b 1 p_2.Name).bind λg =>
        if g.2=true then
          (g.1).bind λu =>
          (Up u.Cb).bind λv =>
          some (v,0)
        else
          (Ql ).bind λw =>
          some (w,7)
      else
        if p_2.Kind=21 then
          if a.Kind≠3 then
            (Ql ).bind λx =>
            some (x,8)
          else
            (at_ p_2.Kids 0).bind λy =>
            (Up a.cd).bind λh =>
            (self.Lh b a c y a.Cb).bind λz =>
            MC z h.Kind h.xc
        else
          if p_2.Kind=22 then
            (self.Ol b a c p_2 3).bind λA =>
            some ((Qa.mk 3 p_2.Name),A.2)
          else
            if p_2.Kind=23 then
              (at_ p_2.Kids 0).bind λB =>
              (self.Ll b a c B).bind λf =>
              if f.2≠0 then
                (Ql ).bind λC =>
                some (C,f.2)
              else
                (f.1).bind λi =>
                (at_ p_2.Kids 1).bind λD =>
                (Up i.Cb).bind λj =>
                (self.Lh b a c D i.cd).bind λE =>
                NC E j.Kind j.xc
            else
              if p_2.Kind=24 then
                (at_ p_2.Kids 0).bind λF =>
                (self.Ll b a c F).bind λG =>
                (Zj ).bind λH =>
                some (H,G.2)
              else
                (Ql ).bind λd =>
                (Ql ).bind λk =>
                if (17:Int)<=p_2.Kind then
                  (Zj ).bind λl =>
                  (Zj ).bind λm =>
                  lu self p_2 b a c l.Kind l.xc m.Kind m.xc
                else
                  if (13:Int)<=p_2.Kind then
                    (Zj ).bind λn =>
                    lu self p_2 b a c d.Kind d.xc n.Kind n.xc
                  else
                    lu self p_2 b a c d.Kind d.xc k.Kind k.xc
def Qi (fu:Nat) (self:il) (a:qb) (b:va) (c:List (List (List UInt8×Qa))) (p_2:Na):Option (Qa×Int):=
  if p_2.Kind=1 then
    (Ql ).bind λg =>
    some (g,0)
  else
    if p_2.Kind=2 then
      (Zj ).bind λh =>
      some (h,0)
    else
      if p_2.Kind=3 then
        (Zq fu a b c p_2.Name).bind λd =>
        if d.2=true then
          some (d.1,0)
        else
          (Ql ).bind λi =>
          some (i,7)
      else
        if p_2.Kind=4 then
          (at_ p_2.Kids 0).bind λj =>
          (Ql ).bind λe =>
          (Ql ).bind λk =>
          (self.Lh a b c j k).bind λl =>
          KC l e.Kind e.xc
        else
          if p_2.Kind=5 then
            (at_ p_2.Kids 0).bind λm =>
            (Zj ).bind λf =>
            (Zj ).bind λn =>
            (self.Lh a b c m n).bind λo =>
            LC o f.Kind f.xc
          else
            if p_2.Kind=11 then
              hs self p_2 a b c (decide (p_2.Kind=11))
            else
              hs self p_2 a b c (decide (p_2.Kind=12))
def Lg:Nat->il
  | 0=>⟨λ_ _ _ _ _=>none,λ_ _ _ _ _=>none,λ_ _ _ _=>none,λ_ _ _ _=>none,λ_ _ _ _=>none⟩
  | n+1=>⟨Lh (Lg n),Ol (Lg n),cn (Lg n),Ll (Lg n),Qi n (Lg n)⟩
def Cz  (a:List (List (List UInt8×Qa))):Option (List (List (List UInt8×Qa))):=
  some a
def Ls  (d:qb) (e:va) (a:List (List (List UInt8×Qa))):Option (List (List (List UInt8×Qa))):=
  (i64 ((a.length:Int) - 1)).bind λb =>
  (cut a 0 b).bind λc =>
  Cz c
structure dq where
  Rk:qb->va->(List (List (List UInt8×Qa)))->(List Pa)->Option (Int×List (List (List UInt8×Qa)))
  dn:qb->va->(List (List (List UInt8×Qa)))->Pa->Option (Int×List (List (List UInt8×Qa)))
def Ur (self:dq) (p_2:List Pa) (a:qb) (b:va):Nat->Int->(List (List (List UInt8×Qa)))->Option (Int×List (List (List UInt8×Qa)))
  | 0,_,_=>none
  | n+1,i74,d =>
    if i74<(p_2.length:Int) then
      (at_ p_2 i74).bind λe =>
      (self.dn a b d e).bind λc =>
      if c.1≠0 then
        (Ls a b c.2).bind λf =>
        some (c.1,f)
      else
        (i64 (i74+1)).bind λg =>
        Ur self p_2 a b n g c.2
    else
      (Ls a b d).bind λh =>
      some (0,h)
def mx (self:dq) (p_2:List Pa) (a:qb) (b:va) (c:List (List (List UInt8×Qa))):Option (Int×List (List (List UInt8×Qa))):=
  Ur self p_2 a b (p_2.length+1) 0 c
def Rk (self:dq) (a:qb) (b:va) (c:List (List (List UInt8×Qa))) (p_2:List Pa):Option (Int×List (List (List UInt8×Qa))):=
  (app c [[]]).bind λd =>
  mx self p_2 a b d
def mu  (a:List (List (List UInt8×Qa))):Option (Int×List (List (List UInt8×Qa))):=
  some (0,a)
def vv (self:dq) (p_2:Pa) (c:qb) (d:va) (a:Int×List (List (List UInt8×Qa))) (e:Bool):Option (Int×List (List (List UInt8×Qa))):=
  if e=true then
    some (a.1,a.2)
  else
    (self.Rk c d a.2 p_2.kf).bind λb =>
    some (b.1,b.2)
def tz (a:List (List (List UInt8×Qa))) (b:Int):Option (Int×List (List (List UInt8×Qa))):=
  some (b,a)
def px (a:List (List (List UInt8×Qa))) (b:Qa×Int) (c:Bool):Option (Int×List (List (List UInt8×Qa))):=
  if c=true then
    tz a 9
  else
    tz a b.2
def js (fu:Nat) (self:dq) (p_2:Pa) (c:qb) (b:va) (a:List (List (List UInt8×Qa))) (h:Bool):Option (Int×List (List (List UInt8×Qa))):=
  if h=true then
    (Zj ).bind λi =>
    ((Lg fu).Lh c b a p_2.X i).bind λf =>
    if f≠0 then
      some (f,a)
    else
      (self.Rk c b a p_2.Body).bind λe =>
      if e.1≠0 then
        vv self p_2 c b e true
      else
        vv self p_2 c b e (decide (p_2.Kind=4))
  else
    if p_2.Kind=5 then
      if b.Kind≠2 then
        some (8,a)
      else
        ((Lg fu).Lh c b a p_2.X b.Cb).bind λj =>
        some (j,a)
    else
      if p_2.Kind=6 then
        if b.Kind=2 then
          some (8,a)
        else
          mu a
      else
        if p_2.Kind=7 then
          (Is c 1 p_2.Name).bind λg =>
          if g.2=true then
            (g.1).bind λk =>
            ((Lg fu).Lh c b a p_2.X k.Cb).bind λl =>
            some (l,a)
          else
            some (7,a)
        else
          if p_2.Kind=8 then
            ((Lg fu).Qi c b a p_2.X).bind λd =>
            if d.2=0 then
              (To d.1).bind λm =>
              px a d (!m)
            else
              px a d false
          else
            if p_2.Kind=9 then
              ((Lg fu).Qi c b a p_2.X).bind λn =>
              some (n.2,a)
            else
              mu a
def dn (fu:Nat) (self:dq) (b:qb) (c:va) (a:List (List (List UInt8×Qa))) (p_2:Pa):Option (Int×List (List (List UInt8×Qa))):=
  if p_2.Kind=1 then
    ((Lg fu).Qi b c a p_2.X).bind λd =>
    if d.2≠0 then
      some (d.2,a)
    else
      (Zq fu b c a p_2.Name).bind λg =>
      if g.2=true then
        some (7,a)
      else
        (i64 ((a.length:Int) - 1)).bind λe =>
        (at_ a e).bind λh =>
        mu (a.set e.toNat (dd h p_2.Name d.1))
  else
    if p_2.Kind=2 then
      (Zq fu b c a p_2.Name).bind λf =>
      if f.2=true then
        ((Lg fu).Lh b c a p_2.X f.1).bind λi =>
        some (i,a)
      else
        some (7,a)
    else
      if p_2.Kind=3 then
        js fu self p_2 b c a (decide (p_2.Kind=3))
      else
        js fu self p_2 b c a (decide (p_2.Kind=4))
def Pl:Nat->dq
  | 0=>⟨λ_ _ _ _=>none,λ_ _ _ _=>none⟩
  | n+1=>⟨Rk (Pl n),dn n (Pl n)⟩
def ks  (a:Bool):Option Int :=
  if a=true then
    some 9
  else
    some 0
def wv (p_2:va):Option Int :=
  if p_2.Kind=3 then
    (To p_2.cd).bind λa =>
    if a=true then
      if p_2.Kind≠4 then
        (To p_2.Cb).bind λb =>
        ks (!b)
      else
        ks false
    else
      ks true
  else
    if p_2.Kind≠4 then
      (To p_2.Cb).bind λc =>
      ks (!c)
    else
      ks false
def xv (p_1:qb) (p_2:va):Nat->Int->(List (List UInt8×Int))->Option Int
  | 0,_,_=>none
  | n+1,i48,b =>
    if i48<(p_2.Params.length:Int) then
      (at_ p_2.Params i48).bind λa =>
      (i64 (((Sa b a.Name).getD 0)+1)).bind λc =>
      if (1:Int)<((Sa (dd b a.Name c) a.Name).getD 0) then
        some 7
      else
        (Qx p_1 a.Cb).bind λd =>
        if d≠0 then
          some d
        else
          (i64 (i48+1)).bind λe =>
          xv p_1 p_2 n e (dd b a.Name c)
    else
      wv p_2
def yv (p_1:qb) (p_2:va) (a:Bool):Option Int :=
  if a=true then
    xv p_1 p_2 (p_2.Params.length+1) 0 ([]:List (List UInt8×Int))
  else
    wv p_2
def Rv  (p_1:qb) (p_2:va):Option Int :=
  if p_2.Kind=2 then
    yv p_1 p_2 true
  else
    yv p_1 p_2 (decide (p_2.Kind=3))
def ns (fu:Nat) (p_1:qb) (p_2:va) (a:List (List (List UInt8×Qa))):Option Int :=
  ((Pl fu).Rk p_1 p_2 a p_2.Body).bind λb =>
  some b.1
def qx (a:Int) (b:Int->(List (List (List UInt8×Qa)))->Option Int) (c:List (List (List UInt8×Qa))):Option Int :=
  (i64 (a+1)).bind λd =>
  b d c
def Tq (fu:Nat) (p_1:qb) (p_2:va):Nat->Int->(List (List (List UInt8×Qa)))->Option Int
  | 0,_,_=>none
  | n+1,i63,a =>
    if i63<(p_2.Params.length:Int) then
      (at_ p_2.Params i63).bind λb =>
      (at_ a 0).bind λc =>
      (Up b.Cb).bind λd =>
      qx i63 (Tq fu p_1 p_2 n) (a.set (0:Int).toNat (dd c b.Name d))
    else
      ns fu p_1 p_2 a
def ar (fu:Nat)  (p_1:qb) (p_2:va):Option Int :=
  if p_2.Kind=1 then
    some 0
  else
    if p_2.Kind≠4 then
      Tq fu p_1 p_2 (p_2.Params.length+1) 0 [([]:List (List UInt8×Qa))]
    else
      ns fu p_1 p_2 [([]:List (List UInt8×Qa))]
def Qq (fu:Nat) (p_1:List va) (a:List (List UInt8×va)):Nat->Int->Option (qb×Vd)
  | 0,_=>none
  | n+1,i329 =>
    if i329<(p_1.length:Int) then
      (at_ p_1 i329).bind λc =>
      (ar fu (qb.mk p_1 a) c).bind λb =>
      if b≠0 then
        some ((qb.mk p_1 a),(Vd.mk b i329))
      else
        (i64 (i329+1)).bind λd =>
        Qq fu p_1 a n d
    else
      some ((qb.mk p_1 a),(Vd.mk 0 0))
def Rq (fu:Nat) (p_1:List va) (a:List (List UInt8×va)):Nat->Int->Option (qb×Vd)
  | 0,_=>none
  | n+1,i270 =>
    if i270<(p_1.length:Int) then
      (at_ p_1 i270).bind λc =>
      (Rv (qb.mk p_1 a) c).bind λb =>
      if b≠0 then
        some ((qb.mk p_1 a),(Vd.mk b i270))
      else
        (i64 (i270+1)).bind λd =>
        Rq fu p_1 a n d
    else
      Qq fu p_1 a (p_1.length+1) 0
def Sq (fu:Nat) (p_1:List va):Nat->Int->Int->(List (List UInt8×va))->Option (qb×Vd)
  | 0,_,_,_=>none
  | n+1,i94,i95,a =>
    if i95<(p_1.length:Int) then
      (at_ p_1 i95).bind λd =>
      if (Sa a d.Name).isSome=true then
        some ((qb.mk p_1 a),(Vd.mk 7 i95))
      else
        (at_ p_1 i95).bind λb =>
        (at_ p_1 i95).bind λc =>
        (at_ p_1 i95).bind λe =>
        if e.Kind=4 then
          (i64 (i94+1)).bind λf =>
          (i64 (i95+1)).bind λg =>
          Sq fu p_1 n f g (dd a b.Name c)
        else
          (i64 (i95+1)).bind λh =>
          Sq fu p_1 n i94 h (dd a b.Name c)
    else
      if i94=0 then
        some ((qb.mk p_1 a),(Vd.mk 6 (p_1.length:Int)))
      else
        Rq fu p_1 a (p_1.length+1) 0
def Fs (fu:Nat)  (p_1:List va):Option (qb×Vd):=
  (Hs fu p_1).bind λa =>
  if a.Te≠0 then
    some ((qb.mk p_1 ([]:List (List UInt8×va))),a)
  else
    Sq fu p_1 (p_1.length+1) 0 0 ([]:List (List UInt8×va))
structure mr where
  En:(List (List UInt8))->(List (List UInt8))->(List (List UInt8))->Na->Option (List (List UInt8)×List (List UInt8)×List (List UInt8))
def zv (self:mr) (p_2:Na):Nat->Int->(List (List UInt8))->(List (List UInt8))->(List (List UInt8))->Option (List (List UInt8)×List (List UInt8)×List (List UInt8))
  | 0,_,_,_,_=>none
  | n+1,i96,b,c,d =>
    if i96<(p_2.Kids.length:Int) then
      (at_ p_2.Kids i96).bind λe =>
      (self.En b c d e).bind λa =>
      (i64 (i96+1)).bind λf =>
      zv self p_2 n f a.1 a.2.1 a.2.2
    else
      some (b,c,d)
def nu (self:mr) (p_2:Na) (a:List (List UInt8)) (b:List (List UInt8)) (c:List (List UInt8)):Option (List (List UInt8)×List (List UInt8)×List (List UInt8)):=
  zv self p_2 (p_2.Kids.length+1) 0 b a c
def uz (self:mr) (p_2:Na) (a:List (List UInt8)) (b:List (List UInt8)) (c:List (List UInt8)):Option (List (List UInt8)×List (List UInt8)×List (List UInt8)):=
  nu self p_2 a c b
def vz (self:mr) (a:List (List UInt8)) (p_2:Na) (b:List (List UInt8)) (c:List (List UInt8)):Option (List (List UInt8)×List (List UInt8)×List (List UInt8)):=
  nu self p_2 b a c
def Av (self:mr) (a:List (List UInt8)) (p_2:Na) (b:List (List UInt8)) (c:List (List UInt8)) (d:Bool):Option (List (List UInt8)×List (List UInt8)×List (List UInt8)):=
  if d=true then
    (app a [p_2.Name]).bind λe =>
    uz self p_2 b c e
  else
    if p_2.Kind=20 then
      (app c [p_2.Name]).bind λf =>
      vz self a p_2 b f
    else
      nu self p_2 b a c
def En (self:mr) (a:List (List UInt8)) (b:List (List UInt8)) (c:List (List UInt8)) (p_2:Na):Option (List (List UInt8)×List (List UInt8)×List (List UInt8)):=
  if p_2.Kind=19 then
    Av self a p_2 b c (decide (p_2.Kind=19))
  else
    Av self a p_2 b c (decide (p_2.Kind=22))
def Js:Nat->mr
  | 0=>⟨λ_ _ _ _=>none⟩
  | n+1=>⟨En (Js n)⟩
structure fq where
  Nl:(List (List UInt8))->(List (List UInt8))->(List (List UInt8))->(List Pa)->Option (List (List UInt8)×List (List UInt8)×List (List UInt8))
def rv (self:fq) (b:Int) (c:Pa) (d:Int->(List (List UInt8))->(List (List UInt8))->(List (List UInt8))->Option (List (List UInt8)×List (List UInt8)×List (List UInt8))) (e:List (List UInt8)) (f:List (List UInt8)) (g:List (List UInt8)):Option (List (List UInt8)×List (List UInt8)×List (List UInt8)):=
  if c.Kind=3 then
    (self.Nl e f g c.kf).bind λa =>
    (i64 (b+1)).bind λh =>
    d h a.1 a.2.1 a.2.2
  else
    (i64 (b+1)).bind λi =>
    d i e f g
def sv (self:fq) (c:Int) (a:Pa) (d:List (List UInt8)) (e:List (List UInt8)) (f:List (List UInt8)) (g:Int->(List (List UInt8))->(List (List UInt8))->(List (List UInt8))->Option (List (List UInt8)×List (List UInt8)×List (List UInt8))) (h:Bool):Option (List (List UInt8)×List (List UInt8)×List (List UInt8)):=
  if h=true then
    (self.Nl d e f a.Body).bind λb =>
    rv self c a g b.1 b.2.1 b.2.2
  else
    rv self c a g d e f
def tv (self:fq) (b:Int) (a:Pa) (c:Int->(List (List UInt8))->(List (List UInt8))->(List (List UInt8))->Option (List (List UInt8)×List (List UInt8)×List (List UInt8))) (d:List (List UInt8)) (e:List (List UInt8)) (f:List (List UInt8)):Option (List (List UInt8)×List (List UInt8)×List (List UInt8)):=
  if a.Kind=3 then
    sv self b a d e f c true
  else
    sv self b a d e f c (decide (a.Kind=4))
def uv (fu:Nat) (self:fq) (c:Int) (d:List (List UInt8)) (e:List (List UInt8)) (a:Pa) (f:Int->(List (List UInt8))->(List (List UInt8))->(List (List UInt8))->Option (List (List UInt8)×List (List UInt8)×List (List UInt8))) (g:List (List UInt8)):Option (List (List UInt8)×List (List UInt8)×List (List UInt8)):=
  if a.Kind≠6 then
    ((Js fu).En d g e a.X).bind λb =>
    tv self c a f b.1 b.2.1 b.2.2
  else
    tv self c a f d g e
def nz (fu:Nat) (self:fq) (a:Int) (b:List (List UInt8)) (c:List (List UInt8)) (d:Pa) (e:Int->(List (List UInt8))->(List (List UInt8))->(List (List UInt8))->Option (List (List UInt8)×List (List UInt8)×List (List UInt8))) (f:List (List UInt8)):Option (List (List UInt8)×List (List UInt8)×List (List UInt8)):=
  uv fu self a b c d e f
def Jl (fu:Nat) (self:fq) (p_2:List Pa):Nat->Int->(List (List UInt8))->(List (List UInt8))->(List (List UInt8))->Option (List (List UInt8)×List (List UInt8)×List (List UInt8))
  | 0,_,_,_,_=>none
  | n+1,i130,b,c,d =>
    if i130<(p_2.length:Int) then
      (at_ p_2 i130).bind λa =>
      if a.Kind=7 then
        (app c [a.Name]).bind λe =>
        nz fu self i130 b d a (Jl fu self p_2 n) e
      else
        uv fu self i130 b d a (Jl fu self p_2 n) c
    else
      some (b,c,d)
def Nl (fu:Nat) (self:fq) (a:List (List UInt8)) (b:List (List UInt8)) (c:List (List UInt8)) (p_2:List Pa):Option (List (List UInt8)×List (List UInt8)×List (List UInt8)):=
  Jl fu self p_2 (p_2.length+1) 0 a b c
def um:Nat->fq
  | 0=>⟨λ_ _ _ _=>none⟩
  | n+1=>⟨Nl n (um n)⟩
def ju (p_1:qb) (a:List (List UInt8)×List (List UInt8)×List (List UInt8)) (d:List (List UInt8)) (e:List (List UInt8)) (f:(List (List UInt8))->(List (Option va))->(List (List UInt8))->(List (List UInt8))->Option rf):Nat->Int->(List (List UInt8))->(List (Option va))->Option rf
  | 0,_,_,_=>none
  | n+1,b,c,g =>
    if b<(a.1.length:Int) then
      (at_ a.1 b).bind λh =>
      if c.contains h=true then
        (i64 (b+1)).bind λi =>
        ju p_1 a d e f n i c g
      else
        (app c [h]).bind λj =>
        (app g [(Sa p_1.named h)]).bind λk =>
        (i64 (b+1)).bind λl =>
        ju p_1 a d e f n l j k
    else
      f c g d e
def oz (p_1:qb) (b:List (List UInt8)) (c:List (Option va)) (a:List (List UInt8)×List (List UInt8)×List (List UInt8)) (d:(List (List UInt8))->(List (Option va))->(List (List UInt8))->(List (List UInt8))->Option rf) (g:List (List UInt8)) (h:List (List UInt8)) (e:List (List UInt8)) (f:List (List UInt8)):Option rf :=
  ju p_1 a e f d (a.1.length+1) 0 b c
def Vr (fu:Nat) (p_1:qb):Nat->(List (List UInt8))->(List (Option va))->(List (List UInt8))->(List (List UInt8))->Option rf
  | 0,_,_,_,_=>none
  | n+1,e,b,c,d =>
    if (0:Int)<(b.length:Int) then
      (at_ b 0).bind λf =>
      (cut b 1 b.length).bind λg =>
      (f).bind λh =>
      ((um fu).Nl ([]:List (List UInt8)) ([]:List (List UInt8)) ([]:List (List UInt8)) h.Body).bind λa =>
      (app c a.2.1).bind λi =>
      (app d a.2.2).bind λj =>
      oz p_1 e g a (Vr fu p_1 n) a.2.1 a.2.2 i j
    else
      some (rf.mk ([]:List (List UInt8)) c d)
def Sz (fu:Nat)  (p_1:qb) (p_2:va):Option rf :=
  Vr fu p_1 fu ([]:List (List UInt8)) ([(some p_2)]:List (Option va)) [] []
def kz (a:Int) (b:Int->(List (List UInt8×rf))->Option (List ai×Vd)) (c:List (List UInt8×rf)):Option (List ai×Vd):=
  (i64 (a+1)).bind λd =>
  b d c
def pv (a:Int) (b:List UInt8) (c:Int->(List UInt8)->(List UInt8)->Option (List ai×Vd)) (d:List UInt8):Option (List ai×Vd):=
  (i64 (a+1)).bind λe =>
  c e b d
def qv (f:List (List UInt8×rf)) (g:Int) (h:va) (a:Int) (b:List UInt8) (c:va) (d:Int->(List UInt8)->(List UInt8)->Option (List ai×Vd)) (e:List UInt8):Option (List ai×Vd):=
  if (((Sa f c.Name).getD (rf.mk ([]:List (List UInt8)) ([]:List (List UInt8)) ([]:List (List UInt8)))).wk).contains h.Name=true then
    if b≠[] then
      some (([]:List ai),(Vd.mk 8 g))
    else
      pv a e d c.Name
  else
    pv a e d b
def Oo (p_1:List va) (c:List (List UInt8×rf)) (a:Int) (f:List ai) (b:va) (g:Int->(List ai)->Option (List ai×Vd)):Nat->Int->(List UInt8)->(List UInt8)->Option (List ai×Vd)
  | 0,_,_,_=>none
  | n+1,d,h,i =>
    if d<(p_1.length:Int) then
      (at_ p_1 d).bind λe =>
      if e.Kind≠4 then
        (i64 (d+1)).bind λj =>
        Oo p_1 c a f b g n j h i
      else
        if (((Sa c e.Name).getD (rf.mk ([]:List (List UInt8)) ([]:List (List UInt8)) ([]:List (List UInt8)))).Sk).contains b.Name=true then
          if h≠[] then
            some (([]:List ai),(Vd.mk 8 a))
          else
            qv c a b d i e (Oo p_1 c a f b g n) e.Name
        else
          qv c a b d i e (Oo p_1 c a f b g n) h
    else
      (app f [(ai.mk b.Name h i)]).bind λk =>
      (i64 (a+1)).bind λl =>
      g l k
def Lp (p_1:List va) (b:List (List UInt8×rf)):Nat->Int->(List ai)->Option (List ai×Vd)
  | 0,_,_=>none
  | n+1,a,c =>
    if a<(p_1.length:Int) then
      (at_ p_1 a).bind λd =>
      if d.Kind≠1 then
        (i64 (a+1)).bind λe =>
        Lp p_1 b n e c
      else
        Oo p_1 b a c d (Lp p_1 b n) (p_1.length+1) 0 [] []
    else
      some (c,(Vd.mk 0 0))
def Sr (fu:Nat) (p_1:List va) (a:qb×Vd):Nat->Int->(List (List UInt8×rf))->Option (List ai×Vd)
  | 0,_,_=>none
  | n+1,i88,b =>
    if i88<(p_1.length:Int) then
      (at_ p_1 i88).bind λc =>
      if c.Kind=4 then
        (at_ p_1 i88).bind λd =>
        (at_ p_1 i88).bind λe =>
        (Sz fu a.1 e).bind λf =>
        kz i88 (Sr fu p_1 a n) (dd b d.Name f)
      else
        (i64 (i88+1)).bind λg =>
        Sr fu p_1 a n g b
    else
      Lp p_1 b (p_1.length+1) 0 []
def Fv (fu:Nat)  (p_1:List va):Option (List ai×Vd):=
  (Fs fu p_1).bind λa =>
  if a.2.Te≠0 then
    some (([]:List ai),a.2)
  else
    Sr fu p_1 a (p_1.length+1) 0 ([]:List (List UInt8×rf))
def Xq (fu:Nat)  (p_1:List va):Option Vd :=
  (Fv fu p_1).bind λa =>
  some a.2
def ME  (p_1:Mj) (p_2:Qa):Option Int :=
  if p_2.Kind=3 then
    none
  else
    some p_2.Kind
def dE  (a:List (List UInt8×Int)) (b:List (List UInt8×Int)) (c:List (List UInt8×va)) (p_2:Qa):Option Int :=
  if p_2.Kind=3 then
    none
  else
    some p_2.Kind
def Ts  (k:Mj) (b:Int) (c:Int) (d:List Int) (e:Int) (f:Int) (g:List pe) (h:List (List (List UInt8×Int))) (p_2:Int) (p_3:Int) (i:Int):Option (Int×Int×Int×List Int×Int×Int×List pe×List (List (List UInt8×Int))):=
  (app g [(pe.mk p_2 p_3 i)]).bind λa =>
  (i64 ((a.length:Int) - 1)).bind λj =>
  some (j,b,c,d,e,f,a,h)
structure Dy where
  Vp:Mj->Int->Int->(List Int)->Int->Int->(List pe)->(List (List (List UInt8×Int)))->Na->Option (Int×Int×Int×List Int×Int×Int×List pe×List (List (List UInt8×Int)))
def UC (a:Int×Int×Int×List Int×Int×Int×List pe×List (List (List UInt8×Int))) (b:Int):Option (Int×Int×Int×List Int×Int×Int×List pe×List (List (List UInt8×Int))):=
  some (b,a.2.1,a.2.2.1,a.2.2.2.1,a.2.2.2.2.1,a.2.2.2.2.2.1,a.2.2.2.2.2.2.1,a.2.2.2.2.2.2.2)
def Dz (self:Dy) (p_2:Na) (a:Mj):Nat->Int->Int->Int->Int->Int->(List Int)->(List pe)->(List (List (List UInt8×Int)))->(List Int)->Option (Int×Int×Int×List Int×Int×Int×List pe×List (List (List UInt8×Int)))
  | 0,_,_,_,_,_,_,_,_,_=>none
  | n+1,i76,i77,i78,i79,i80,e,f,g,h =>
    if i76<(p_2.Kids.length:Int) then
      (at_ p_2.Kids i76).bind λi =>
      (self.Vp a i77 i78 e i79 i80 f g i).bind λb =>
      (app h [b.1]).bind λj =>
      (i64 (i76+1)).bind λk =>
      Dz self p_2 a n k b.2.1 b.2.2.1 b.2.2.2.2.1 b.2.2.2.2.2.1 b.2.2.2.1 b.2.2.2.2.2.2.1 b.2.2.2.2.2.2.2 j
    else
      if p_2.Kind=1 then
        (Ts a i77 i78 e i79 i80 f g 1 0 p_2.N).bind λc =>
        some (1,c.2.1,c.2.2.1,c.2.2.2.1,c.2.2.2.2.1,c.2.2.2.2.2.1,c.2.2.2.2.2.2.1,c.2.2.2.2.2.2.2)
      else
        if p_2.Kind=2 then
          none
        else
          if p_2.Kind=3 then
            none
          else
            if p_2.Kind=4 then
              none
            else
              if p_2.Kind=5 then
                none
              else
                if (6:Int)<=p_2.Kind then
                  if p_2.Kind<=18 then
                    (i64 (8+p_2.Kind)).bind λl =>
                    (i64 (l - 6)).bind λm =>
                    (Ts a i77 i78 e i79 i80 f g m 0 0).bind λd =>
                    if p_2.Kind<=10 then
                      some (1,d.2.1,d.2.2.1,d.2.2.2.1,d.2.2.2.2.1,d.2.2.2.2.2.1,d.2.2.2.2.2.2.1,d.2.2.2.2.2.2.2)
                    else
                      none
                  else
                    if p_2.Kind=19 then
                      none
                    else
                      if p_2.Kind=20 then
                        (Ts a i77 i78 e i79 i80 f g 27 ((Sa a.boxes p_2.Name).getD 0) 0).bind λo =>
                        ((Sa a.defs p_2.Name)).bind λp =>
                        (ME a p.Cb).bind λq =>
                        UC o q
                      else
                        none
                else
                  none
def Vp (self:Dy) (a:Mj) (b:Int) (c:Int) (d:List Int) (e:Int) (f:Int) (g:List pe) (h:List (List (List UInt8×Int))) (p_2:Na):Option (Int×Int×Int×List Int×Int×Int×List pe×List (List (List UInt8×Int))):=
  Dz self p_2 a (p_2.Kids.length+1) 0 b c e f d g h []
def eE:Nat->Dy
  | 0=>⟨λ_ _ _ _ _ _ _ _ _=>none⟩
  | n+1=>⟨Vp (eE n)⟩
structure Su where
  Ms:Mj->Int->Int->(List Int)->Int->Int->(List pe)->(List (List (List UInt8×Int)))->(List Pa)->Option (Int×Int×List Int×Int×Int×List pe×List (List (List UInt8×Int)))
  Ns:Mj->Int->Int->(List Int)->Int->Int->(List pe)->(List (List (List UInt8×Int)))->Pa->Option (Int×Int×List Int×Int×Int×List pe×List (List (List UInt8×Int)))
def Ez (self:Su) (p_2:List Pa) (c:Mj):Nat->Int->Int->Int->Int->Int->(List Int)->(List pe)->(List (List (List UInt8×Int)))->Option (Int×Int×List Int×Int×Int×List pe×List (List (List UInt8×Int)))
  | 0,_,_,_,_,_,_,_,_=>none
  | n+1,i81,i82,i83,i84,i85,d,e,b =>
    if i81<(p_2.length:Int) then
      (at_ p_2 i81).bind λf =>
      (self.Ns c i82 i83 d i84 i85 e b f).bind λa =>
      (i64 (i81+1)).bind λg =>
      Ez self p_2 c n g a.1 a.2.1 a.2.2.2.1 a.2.2.2.2.1 a.2.2.1 a.2.2.2.2.2.1 a.2.2.2.2.2.2
    else
      (i64 ((b.length:Int) - 1)).bind λh =>
      (cut b 0 h).bind λi =>
      some (i82,i83,d,i84,i85,e,i)
def Ms (self:Su) (a:Mj) (b:Int) (c:Int) (d:List Int) (e:Int) (f:Int) (g:List pe) (h:List (List (List UInt8×Int))) (p_2:List Pa):Option (Int×Int×List Int×Int×Int×List pe×List (List (List UInt8×Int))):=
  (app h [[]]).bind λi =>
  Ez self p_2 a (p_2.length+1) 0 b c e f d g i
def Ns (fu:Nat) (self:Su) (d:Mj) (e:Int) (f:Int) (g:List Int) (h:Int) (i:Int) (j:List pe) (k:List (List (List UInt8×Int))) (p_2:Pa):Option (Int×Int×List Int×Int×Int×List pe×List (List (List UInt8×Int))):=
  if p_2.Kind=3 then
    none
  else
    if p_2.Kind=4 then
      none
    else
      if p_2.Kind=6 then
        none
      else
        ((eE fu).Vp d e f g h i j k p_2.X).bind λa =>
        if p_2.Kind=1 then
          none
        else
          if p_2.Kind=2 then
            none
          else
            if p_2.Kind=5 then
              none
            else
              if p_2.Kind=7 then
                (Ts d a.2.1 a.2.2.1 a.2.2.2.1 a.2.2.2.2.1 a.2.2.2.2.2.1 a.2.2.2.2.2.2.1 a.2.2.2.2.2.2.2 26 ((Sa d.boxes p_2.Name).getD 0) 0).bind λb =>
                some (b.2.1,b.2.2.1,b.2.2.2.1,b.2.2.2.2.1,b.2.2.2.2.2.1,b.2.2.2.2.2.2.1,b.2.2.2.2.2.2.2)
              else
                if p_2.Kind=8 then
                  (Ts d a.2.1 a.2.2.1 a.2.2.2.1 a.2.2.2.2.1 a.2.2.2.2.2.1 a.2.2.2.2.2.2.1 a.2.2.2.2.2.2.2 28 0 0).bind λc =>
                  some (c.2.1,c.2.2.1,c.2.2.2.1,c.2.2.2.2.1,c.2.2.2.2.2.1,c.2.2.2.2.2.2.1,c.2.2.2.2.2.2.2)
                else
                  none
def xA:Nat->Su
  | 0=>⟨λ_ _ _ _ _ _ _ _ _=>none,λ_ _ _ _ _ _ _ _ _=>none⟩
  | n+1=>⟨Ms (xA n),Ns n (xA n)⟩
def fE (fu:Nat)  (p_1:Mj) (p_2:va):Option Vi :=
  if p_2.Kind≠4 then
    none
  else
    if p_2.Kind=3 then
      none
    else
      ((xA fu).Ms p_1 p_2.Kind 0 ([]:List Int) 0 0 ([]:List pe) [([]:List (List UInt8×Int))] p_2.Body).bind λa =>
      if p_2.Kind≠2 then
        (Ts p_1 a.1 a.2.1 a.2.2.1 a.2.2.2.1 a.2.2.2.2.1 a.2.2.2.2.2.1 a.2.2.2.2.2.2 25 0 0).bind λb =>
        some (Vi.mk b.2.1 b.2.2.1 b.2.2.2.1 b.2.2.2.2.1 b.2.2.2.2.2.1 b.2.2.2.2.2.2.1)
      else
        none
def CC (a:Int) (b:List (List UInt8×Int)) (c:List (List UInt8×va)) (d:va) (e:va) (f:List (List UInt8×Int)) (g:Int->(List (List UInt8×Int))->(List (List UInt8×Int))->(List (List UInt8×va))->(List Cm)->Option (we×Vd)) (h:List Cm):Option (we×Vd):=
  (i64 (a+1)).bind λi =>
  g i f b (dd c d.Name e) h
def DC (p_1:List va) (a:Int) (b:List (List UInt8×Int)) (c:List (List UInt8×va)) (g:List Cm) (d:va) (e:va) (h:Int->(List (List UInt8×Int))->(List (List UInt8×Int))->(List (List UInt8×va))->(List Cm)->Option (we×Vd)) (f:List (List UInt8×Int)):Option (we×Vd):=
  (at_ p_1 a).bind λi =>
  (at_ p_1 a).bind λj =>
  (dE f b (dd c d.Name e) i.Cb).bind λk =>
  (app g [(Cm.mk k j.Ie)]).bind λl =>
  CC a b c d e f h l
def EC (a:Int) (b:List (List UInt8×Int)) (c:List (List UInt8×va)) (d:List Cm) (e:va) (f:va) (g:Int->(List (List UInt8×Int))->(List (List UInt8×Int))->(List (List UInt8×va))->(List Cm)->Option (we×Vd)) (h:List (List UInt8×Int)):Option (we×Vd):=
  (i64 (a+1)).bind λi =>
  g i b h (dd c e.Name f) d
def hx (fu:Nat) (p_1:List va) (b:List (List UInt8×Int)) (c:List (List UInt8×Int)) (d:List (List UInt8×va)) (e:List Cm):Nat->Int->(List Vi)->Option (we×Vd)
  | 0,_,_=>none
  | n+1,a,f =>
    if a<(p_1.length:Int) then
      (at_ p_1 a).bind λh =>
      if h.Kind=1 then
        (i64 (a+1)).bind λi =>
        hx fu p_1 b c d e n i f
      else
        (at_ p_1 a).bind λj =>
        (fE fu (Mj.mk b c d) j).bind λg =>
        if (200:Int)<(g.kj.length:Int) then
          none
        else
          if (4000:Int)<(g.Code.length:Int) then
            none
          else
            (app f [g]).bind λk =>
            (i64 (a+1)).bind λl =>
            hx fu p_1 b c d e n l k
    else
      some ((we.mk e f),(Vd.mk 0 0))
def Tr (fu:Nat) (p_1:List va):Nat->Int->(List (List UInt8×Int))->(List (List UInt8×Int))->(List (List UInt8×va))->(List Cm)->Option (we×Vd)
  | 0,_,_,_,_,_=>none
  | n+1,i162,a,b,c,d =>
    if i162<(p_1.length:Int) then
      (at_ p_1 i162).bind λe =>
      (at_ p_1 i162).bind λf =>
      (at_ p_1 i162).bind λg =>
      if g.Kind=1 then
        (at_ p_1 i162).bind λh =>
        DC p_1 i162 b c d e f (Tr fu p_1 n) (dd a h.Name (a.length:Int))
      else
        (at_ p_1 i162).bind λi =>
        EC i162 a c d e f (Tr fu p_1 n) (dd b i.Name (b.length:Int))
    else
      hx fu p_1 a b c d (p_1.length+1) 0 []
def VC (fu:Nat)  (p_1:List va):Option (we×Vd):=
  (Xq fu p_1).bind λa =>
  if a.Te≠0 then
    none
  else
    Tr fu p_1 (p_1.length+1) 0 ([]:List (List UInt8×Int)) ([]:List (List UInt8×Int)) ([]:List (List UInt8×va)) []
structure Ey where
  stack:List Int
  Oa:Value
instance:Ih Ey where
  ij μ v x:=∃ a c,v=.agg ⟨[.slice a x.stack.length c,x.Oa]⟩/\za μ a c x.stack
  up l h:=by obtain ⟨a,c,b,d⟩:=h;exact ⟨a,c,b,d.up l⟩
abbrev Gm:=List (Value×List Bool)
def ga:Gm->List (Int×vg)->List (Int×Ey)
  | b::bs,e::m=>(e.1,⟨e.2.stack,b.1⟩)::ga bs m
  | _,_=>[]
structure Ek (μ:M) (es:List MapEntry) (c:Nat) (bs:Gm) (m:List (Int×vg)):Prop where
  cu:ke μ es c (ga bs m)
  has:bs.map (·.2)=m.map (·.2.has)
theorem Ek.up {μ J:M}{es:List MapEntry}{c:Nat}{bs:Gm}{m:List (Int×vg)}(h:Ek μ es c bs m) (l:ha μ J):Ek J es c bs m:=⟨h.cu.up l,h.has⟩
theorem Ek.nil {μ:M}{c:Nat}:Ek μ [] c [] []:=⟨ke.nil,rfl⟩
def eh (T:TypeId) (bs:Gm):List Ha:=bs.map λb=>.row b.1 T 1 b.2.length (b.2.map .bool)
theorem sF:∀ (bs:Gm) (m:List (Int×vg)) (k:Int) (x:vg),bs.map (·.2)=m.map (·.2.has)->Sa m k=some x->∃ ka v jd,bs=ka++(v,x.has)::jd/\Sa (ga bs m) k=some ⟨x.stack,v⟩/\∀ c,ga (ka++(v,c)::jd) (dd m k ⟨x.stack,c⟩)=ga bs m/\(ka++(v,c)::jd).map (·.2)=(dd m k ⟨x.stack,c⟩).map (·.2.has)
  | bs,[],k,x,h,g=>by simp [Sa] at g
  | [],e::m,k,x,h,g=>by simp at h
  | b::bs,(a,y)::m,k,x,h,g=>by
    simp only [List.map_cons,List.cons.injEq] at h;obtain ⟨d,f⟩:=h;by_cases e:a=k
    · subst e;rw [Sa,if_pos rfl] at g;obtain rfl:=Option.some.inj g;refine ⟨[],b.1,bs,by rw [<- d];rfl,by rw [ga,Sa,if_pos rfl],λc=>?_⟩;rw [dd,if_pos rfl];exact ⟨rfl,by simp [f]⟩
    · rw [Sa,if_neg e] at g;obtain ⟨ka,v,jd,sa,i,j⟩:=sF bs m k x f g;refine ⟨b::ka,v,jd,by rw [sa];rfl,by rw [ga,Sa,if_neg e,i],λc=>?_⟩;obtain ⟨l,n⟩:=j c;rw [dd,if_neg e];refine ⟨?_,?_⟩
      · show ga (b::(ka++(v,c)::jd)) _=_;rw [ga,ga,l]
      · show (b::(ka++(v,c)::jd)).map (·.2)=_;rw [List.map_cons,n,List.map_cons,d]
theorem KK:∀ (bs:Gm) (m:List (Int×vg)) (k:Int),Sa m k=none->Sa (ga bs m) k=none
  | bs,[],k,g=>by cases bs <;> rfl
  | [],e::m,k,g=>rfl
  | b::bs,(a,y)::m,k,g=>by
    by_cases e:a=k
    · rw [Sa,if_pos e] at g;cases g
    · rw [Sa,if_neg e] at g;rw [ga,Sa,if_neg e,KK bs m k g]
theorem eK:∀ (bs:Gm) (m:List (Int×vg)) (k:Int) (st:List Int) (v:Value) (h:List Bool),bs.map (·.2)=m.map (·.2.has)->Sa m k=none ->
    dd (ga bs m) k ⟨st,v⟩=ga (bs++[(v,h)]) (dd m k ⟨st,h⟩)/\(bs++[(v,h)]).map (·.2)=(dd m k ⟨st,h⟩).map (·.2.has)
  | [],[],k,st,v,h,e,g=>⟨rfl,rfl⟩
  | b::bs,[],k,st,v,h,e,g=>by simp at e
  | [],e::m,k,st,v,h,d,g=>by simp at d
  | b::bs,(a,y)::m,k,st,v,h,e,g=>by
    simp only [List.map_cons,List.cons.injEq] at e;obtain ⟨f,i⟩:=e;by_cases c:a=k
    · rw [Sa,if_pos c] at g;cases g
    · rw [Sa,if_neg c] at g;obtain ⟨j,l⟩:=eK bs m k st v h i g;rw [ga,dd,if_neg c,dd,if_neg c,j];refine ⟨?_,?_⟩
      · show _=ga (b::(bs++[(v,h)])) _;rw [ga]
      · show (b::(bs++[(v,h)])).map (·.2)=_;rw [List.map_cons,l,List.map_cons,f]
theorem XQ {m:List (Int×vg)}{k:Int}(h:¬ (Sa m k).isSome=true):Sa m k=none:=by
  cases e:Sa m k with
  | none=>rfl
  | some x=>rw [e] at h; exact absurd rfl h
theorem Ek.new {μ:M}{es:List MapEntry}{c:Nat}{bs:Gm}{m:List (Int×vg)}{k:Int}{st:List Int}{v:Value}{h:List Bool}{a:List MapEntry}{c':Nat}{I:M}(p:Ek I es c bs m) (g:Sa m k=none) (q:ke μ a c' (dd (ga bs m) k ⟨st,v⟩)):Ek μ a c' (bs++[(v,h)]) (dd m k ⟨st,h⟩):=by
  obtain ⟨sa,b⟩:=eK bs m k st v h p.has g;exact ⟨by rw [<- sa];exact q,b⟩
theorem gE {μ:M}:∀ h:List Bool,qa μ (h.map Value.bool) h
  | []=>rfl
  | b::h=>qa.cons (cs:=[.bool b]) rfl (gE h)
theorem wH {μ:M}:∀ {h:List Bool}{cells:List Value},qa μ cells h->cells=h.map Value.bool
  | [],cells,r=>r
  | b::h,cells,r=>by
    obtain ⟨cs,t,rfl,a,c⟩:=r;rw [show cs=[.bool b] from a,wH c];rfl
section
variable {μ:M}{da w:World}{T:TypeId}{a p R:List Ha}{ka jd bs:Gm}{v:Value}{h:List Bool}
theorem sI (b:fa μ da w (a++(eh T (ka++(v,h)::jd)++R))):fa μ da w (.row v T 1 h.length (h.map .bool)::(a++(eh T (ka++jd)++R))):=
  b.perm (by
    unfold eh;simp only [List.map_append,List.map_cons,List.append_assoc,List.cons_append];exact (List.perm_middle.append_left a).trans List.perm_middle)
theorem OH {cells:List Value}(b:fa μ da w (.row v T 1 h.length cells::(a++(eh T (ka++jd)++R)))) (c:qa μ cells h):fa μ da w (a++(eh T (ka++(v,h)::jd)++R)):=by
  rw [wH c] at b;exact b.perm (by
    unfold eh;simp only [List.map_append,List.map_cons,List.append_assoc,List.cons_append];exact ((List.perm_middle.append_left a).trans List.perm_middle).symm)
theorem mP {cells:List Value}(b:fa μ da w (.row v T 1 h.length cells::(a++(eh T bs++R)))) (c:qa μ cells h):fa μ da w (a++(eh T (bs++[(v,h)])++R)):=by
  have d:fa μ da w (.row v T 1 h.length cells::(a++(eh T (bs++[])++R))):=by rw [List.append_nil];exact b
  exact OH d c
theorem gO (c:fa μ da w (a++(eh T bs++R))):fa μ da w (a++R):=by
  have b:fa μ da w (eh T bs++(a++R)):=c.perm (by rw [<- List.append_assoc,<- List.append_assoc];exact List.Perm.append_right R List.perm_append_comm);generalize eh T bs=l at b
  induction l with
  | nil=>exact b
  | cons r l d=>exact d (b.drop .z)
end
section
variable {P:Program}{Q:Exit->Act->World->Prop}{K:List Value->List Deferred->World->Prop}{fr ya:List Value}{ds:List Deferred}{w:World}
variable {dst:Option Tmp}{ty:TypeId}{pos:String}{after:Array Edge}{g:Option (Nat×Bool)}{μ:M}{T:TypeId}
variable {x y:Operand}{je ba:TypeId}{b c:Nat}{es:List MapEntry}{m:List (Int×Ey)}{k:Int}
theorem fK {μ:M}:Ih.ij μ (.agg ⟨[.slice none 0 0,.slice none 0 0]⟩) (⟨[],.slice none 0 0⟩:Ey):=⟨none,0,rfl,za.nil⟩
theorem YQ {st:List Int}{Oa:Value}(e:P.underlying T=some (.map je ba)) (f:P.underlying je=some (hb.hd (κ:=Int))) (i:ab fr x (.map (some b))) (j:ab fr y (hb.key k))
    (l:∀ w,(zeroValue ba).run P w=.ok (.agg ⟨[.slice none 0 0,.slice none 0 0]⟩) w) (n:w.heap[b]?=some (.map ⟨es⟩ c)) (o:ke μ es c m) (cx:Sa m k=some ⟨st,Oa⟩)
    (h:∀ a c,za μ a c st->Hg fr dst (.agg ⟨[.slice a st.length c,Oa]⟩) λya=>K ya ds w):pd P (Oper.mk dst (.lookup T x y false) ty pos after g) fr ds w K Q :=
  Gn e f i j l fK n o λv d=>by
    rw [cx] at d;obtain ⟨a,c,rfl,m⟩:=d;exact h a c m
theorem ZQ {st:List Int}{Oa:Value}(e:P.underlying T=some (.map je ba)) (f:P.underlying je=some (hb.hd (κ:=Int))) (i:ab fr x (.map (some b))) (j:ab fr y (hb.key k))
    (l:∀ w,(zeroValue ba).run P w=.ok (.agg ⟨[.slice none 0 0,.slice none 0 0]⟩) w) (n:w.heap[b]?=some (.map ⟨es⟩ c)) (o:ke μ es c m) (cx:Sa m k=some ⟨st,Oa⟩)
    (h:∀ a c,za μ a c st->Hg fr dst (.tuple ⟨[.agg ⟨[.slice a st.length c,Oa]⟩,.bool true]⟩) λya=>K ya ds w):pd P (Oper.mk dst (.lookup T x y true) ty pos after g) fr ds w K Q :=
  iJ e f i j l fK n o λv d=>by
    rw [cx] at d ⊢;obtain ⟨a,c,rfl,m⟩:=d;exact h a c m
theorem nP (f:P.underlying T=some (.map je ba)) (i:P.underlying je=some (hb.hd (κ:=Int))) (j:ab fr x (.map (some b))) (l:ab fr y (hb.key k))
    (n:∀ w,(zeroValue ba).run P w=.ok (.agg ⟨[.slice none 0 0,.slice none 0 0]⟩) w) (o:w.heap[b]?=some (.map ⟨es⟩ c)) (a:ke μ es c m) (cx:Sa m k=none)
    (h:Hg fr dst (.tuple ⟨[.agg ⟨[.slice none 0 0,.slice none 0 0]⟩,.bool false]⟩) λya=>K ya ds w):pd P (Oper.mk dst (.lookup T x y true) ty pos after g) fr ds w K Q:=by
  obtain ⟨ya,Ca⟩:=Fi fr dst (.tuple #[hl es (hb.key k) (.agg ⟨[.slice none 0 0,.slice none 0 0]⟩),.bool (jt es (hb.key k))]);refine aE f i j l (hb.je k) n o a.kv.keys Ca ?_;rw [a.kv.has k,cx] at Ca;have la:=a.kv.look k;have e:hl es (hb.key k) (.agg ⟨[.slice none 0 0,.slice none 0 0]⟩)=.agg ⟨[.slice none 0 0,.slice none 0 0]⟩:=by
    unfold hl;rw [Ix];cases q:gm (hb.key k) es with
    | none=>rfl
    | some p=>rw [q] at la; obtain ⟨x,d,r⟩:=la; rw [cx] at d; cases d
  rw [e] at Ca;exact h ya Ca
end
def Rx  (p_1:Int):Option Bool :=
  if p_1=1 then
    some true
  else
    none
def Fz  (a:Bool):Option Int :=
  if a=true then
    some 0
  else
    none
def Gz (p_1:og) (p_3:pe) (a:Bool):Option Int :=
  if a=true then
    if (0:Int)<=p_3.A then
      (p_1.m).bind λb =>
      Fz (decide (p_3.A<(b.xe.length:Int)))
    else
      none
  else
    if p_3.Op<1 then
      none
    else
      if (32:Int)<p_3.Op then
        none
      else
        Fz true
def hE  (p_1:og) (p_2:Vi) (p_3:pe):Option Int :=
  if p_3.Op=2 then
    none
  else
    if p_3.Op=3 then
      none
    else
      if p_3.Op=4 then
        none
      else
        if p_3.Op=21 then
          none
        else
          if p_3.Op=22 then
            none
          else
            if p_3.Op=23 then
              none
            else
              if p_3.Op=29 then
                none
              else
                if p_3.Op=26 then
                  Gz p_1 p_3 (decide (p_3.Op=26))
                else
                  Gz p_1 p_3 (decide (p_3.Op=27))
def gA (p_1:List Int) (p_2:Int->Option Bool):Nat->Int->Option Int
  | 0,_=>none
  | n+1,i20 =>
    if i20<(p_1.length:Int) then
      (at_ p_1 i20).bind λa =>
      (p_2 a).bind λb =>
      if b=true then
        some i20
      else
        (i64 (i20+1)).bind λc =>
        gA p_1 p_2 n c
    else
      some (-1)
def tF  (p_1:List Int) (p_2:Int->Option Bool):Option Int :=
  gA p_1 p_2 (p_1.length+1) 0
def UA  (p_1:List Int) (p_2:Int->Option Bool):Option Bool :=
  (tF p_1 p_2).bind λa =>
  some (decide ((0:Int)<=a))
def hA (p_1:List pe) (p_2:pe->Option Bool):Nat->Int->Option Int
  | 0,_=>none
  | n+1,i20 =>
    if i20<(p_1.length:Int) then
      (at_ p_1 i20).bind λa =>
      (p_2 a).bind λb =>
      if b=true then
        some i20
      else
        (i64 (i20+1)).bind λc =>
        hA p_1 p_2 n c
    else
      some (-1)
def uF  (p_1:List pe) (p_2:pe->Option Bool):Option Int :=
  hA p_1 p_2 (p_1.length+1) 0
def vF  (p_1:List pe) (p_2:pe->Option Bool):Option Bool :=
  (uF p_1 p_2).bind λa =>
  some (decide ((0:Int)<=a))
def iE  (p_1:Int) (p_2:Option og):Option Bool :=
  (Rx p_1).bind λa =>
  if a=true then
    none
  else
    none
def OE  (p_1:og) (p_2:Vi):Option Int :=
  if p_2.Kind≠2 then
    if p_2.Kind≠3 then
      if p_2.Kind≠4 then
        none
      else
        if (200:Int)<(p_2.kj.length:Int) then
          none
        else
          if p_2.Params<0 then
            none
          else
            if (6:Int)<p_2.Params then
              none
            else
              if (p_2.kj.length:Int)<p_2.Params then
                none
              else
                if p_2.Kind=4 then
                  if (0:Int)<p_2.Params then
                    none
                  else
                    if (p_2.Code.length:Int)<1 then
                      none
                    else
                      if (4000:Int)<(p_2.Code.length:Int) then
                        none
                      else
                        if p_2.Kind≠4 then
                          none
                        else
                          if p_2.Kind=3 then
                            none
                          else
                            (UA p_2.kj (λa=>iE a (some p_1))).bind λb =>
                            if b=true then
                              none
                            else
                              some 0
                else
                  none
    else
      none
  else
    none
def Tz (p_1:og) (b:Int) (c:Int) (a:Vi) (d:Int->Int->Option ej):Nat->Int->Option ej
  | 0,_=>none
  | n+1,i247 =>
    if i247<(a.Code.length:Int) then
      (at_ a.Code i247).bind λe =>
      (hE p_1 a e).bind λf =>
      if f≠0 then
        none
      else
        (i64 (i247+1)).bind λg =>
        Tz p_1 b c a d n g
    else
      if a.Kind=4 then
        (i64 (b+1)).bind λh =>
        (i64 (c+1)).bind λi =>
        d h i
      else
        none
def Hx (p_1:og) (a:we):Nat->Int->Int->Option ej
  | 0,_,_=>none
  | n+1,i143,i144 =>
    if i144<(a.af.length:Int) then
      (at_ a.af i144).bind λb =>
      (OE p_1 b).bind λc =>
      if c≠0 then
        none
      else
        Tz p_1 i143 i144 b (Hx p_1 a n) (b.Code.length+1) 0
    else
      if i143=0 then
        none
      else
        some (ej.mk 0 0 0)
def Uz (p_1:og) (a:we):Nat->Int->Option ej
  | 0,_=>none
  | n+1,i39 =>
    if i39<(a.xe.length:Int) then
      (at_ a.xe i39).bind λb =>
      (Rx b.Cb).bind λc =>
      if c=true then
        if b.Ie<1 then
          none
        else
          if (20:Int)<b.Ie then
            none
          else
            (i64 (i39+1)).bind λd =>
            Uz p_1 a n d
      else
        none
    else
      Hx p_1 a (a.af.length+1) 0 0
def PE  (p_1:og):Option ej :=
  (p_1.m).bind λa =>
  if (30:Int)<(a.xe.length:Int) then
    none
  else
    if (30:Int)<(a.af.length:Int) then
      none
    else
      Uz p_1 a (a.xe.length+1) 0
def FC  (a:List Int) (b:List Bool):Option vg :=
  some (vg.mk a b)
def jD  (p_1:vg):Option vg :=
  (small p_1.stack).bind λa =>
  (small p_1.has).bind λb =>
  FC p_1.stack p_1.has
def GC  (a:List Int) (b:List Bool):Option vg :=
  some (vg.mk a b)
def kD  (p_1:vg):Option vg :=
  (small p_1.stack).bind λa =>
  (small p_1.has).bind λb =>
  GC p_1.stack p_1.has
def Wx  (b:List Int) (c:Int) (p_2:Int):Option (List Int×Int):=
  (app b [p_2]).bind λa =>
  if (300:Int)<(a.length:Int) then
    none
  else
    some (a,c)
def VA  (a:List Int) (b:Int):Option (Int×List Int×Int):=
  if (a.length:Int)=0 then
    none
  else
    (i64 ((a.length:Int) - 1)).bind λc =>
    (at_ a c).bind λd =>
    (i64 ((a.length:Int) - 1)).bind λe =>
    (cut a 0 e).bind λf =>
    some (d,f,b)
def Vz (p_2:List Int):Nat->Int->Int->(List Int)->Option (List Int×Int)
  | 0,_,_,_=>none
  | n+1,i36,i37,b =>
    if (0:Int)<=i36 then
      (VA b i37).bind λa =>
      (at_ p_2 i36).bind λc =>
      if a.1≠c then
        none
      else
        (i64 (i36 - 1)).bind λd =>
        Vz p_2 n d a.2.2 a.2.1
    else
      some (b,i37)
def LA (fu:Nat)  (a:List Int) (b:Int) (p_2:List Int):Option (List Int×Int):=
  (i64 ((p_2.length:Int) - 1)).bind λc =>
  Vz p_2 fu c b a
def jE (p_2:Int) (a:List Int) (b:List Int) (c:List Bool) (d:Int) (e:List (Int×vg)):Option (List (Int×vg)×List Int×List Int×List Bool×Int):=
  (app a [p_2]).bind λf =>
  some (e,f,b,c,d)
def jB  (h:og) (f:Vi) (a:List (Int×vg)) (g:List Int) (b:List Int) (c:List Bool) (d:Int) (p_2:Int):Option (List (Int×vg)×List Int×List Int×List Bool×Int):=
  if d≠0 then
    none
  else
    if p_2=(f.Code.length:Int) then
      none
    else
      if (Sa a p_2).isSome=true then
        (Sa a p_2).bind λi =>
        none
      else
        (jD (vg.mk b c)).bind λe =>
        jE p_2 g b c d (dd a p_2 (vg.mk e.stack e.has))
def QE  (a:List Int) (b:Int):Option (Bool×List Int×Int):=
  if (0:Int)<(a.length:Int) then
    none
  else
    some (false,a,b)
def nx (a:List (Int×vg)) (b:List Int) (c:List Bool) (d:Int) (e:List Int):Option (Bool×List (Int×vg)×List Int×List Int×List Bool×Int):=
  some (true,a,b,e,c,d)
def lD (fu:Nat)  (h:og) (k:Vi) (a:List (Int×vg)) (b:List Int) (c:List Int) (d:List Bool) (e:Int) (p_2:pe):Option (Bool×List (Int×vg)×List Int×List Int×List Bool×Int):=
  if p_2.Op=23 then
    none
  else
    if p_2.Op=29 then
      none
    else
      if p_2.Op=24 then
        none
      else
        if p_2.Op=25 then
          if k.Kind=2 then
            none
          else
            (QE c e).bind λg =>
            some (g.1,a,b,g.2.1,d,g.2.2)
        else
          if p_2.Op=26 then
            (h.m).bind λl =>
            (at_ l.xe p_2.A).bind λn =>
            (LA fu c e [n.Cb]).bind λi =>
            nx a b d i.2 i.1
          else
            if p_2.Op=27 then
              (h.m).bind λo =>
              (at_ o.xe p_2.A).bind λp =>
              (Wx c e p.Cb).bind λj =>
              nx a b d j.2 j.1
            else
              if p_2.Op=28 then
                (VA c e).bind λf =>
                if f.2.2=0 then
                  (Rx f.1).bind λq =>
                  if q=true then
                    nx a b d f.2.2 f.2.1
                  else
                    none
                else
                  none
              else
                none
def Wz (a:List (Int×vg)) (b:List Int) (c:List Bool) (d:Int) (e:List Int):Option (Bool×List (Int×vg)×List Int×List Int×List Bool×Int):=
  some (true,a,b,e,c,d)
def RE (fu:Nat)  (j:og) (k:Vi) (b:List (Int×vg)) (c:List Int) (d:List Int) (e:List Bool) (f:Int) (p_2:pe):Option (Bool×List (Int×vg)×List Int×List Int×List Bool×Int):=
  if p_2.Op=1 then
    (Wx d f 1).bind λg =>
    Wz b c e g.2 g.1
  else
    if p_2.Op=2 then
      none
    else
      if p_2.Op=3 then
        none
      else
        if p_2.Op=4 then
          none
        else
          if p_2.Op=5 then
            none
          else
            if p_2.Op=6 then
              none
            else
              if p_2.Op=7 then
                none
              else
                if (8:Int)<=p_2.Op then
                  if p_2.Op<=12 then
                    (LA fu d f [1,1]).bind λh =>
                    (Wx h.1 h.2 1).bind λi =>
                    Wz b c e i.2 i.1
                  else
                    if p_2.Op=13 then
                      none
                    else
                      if p_2.Op=14 then
                        none
                      else
                        if (15:Int)<=p_2.Op then
                          if p_2.Op<=18 then
                            none
                          else
                            if p_2.Op=19 then
                              none
                            else
                              if p_2.Op=20 then
                                none
                              else
                                if p_2.Op=21 then
                                  none
                                else
                                  if p_2.Op=22 then
                                    none
                                  else
                                    (lD fu j k b c d e f p_2).bind λa =>
                                    some (a.1,a.2.1,a.2.2.1,a.2.2.2.1,a.2.2.2.2.1,a.2.2.2.2.2)
                        else
                          none
                else
                  none
def Xz (b:Int->(List Bool)->(List Int)->(List Int)->(List (Int×vg))->Option ej) (a:Int) (c:List Bool) (d:List Int) (e:List Int) (f:List (Int×vg)):Option ej :=
  if a≠0 then
    none
  else
    b a c d e f
def Mv (fu:Nat) (p_1:og) (b:Vi):Nat->Int->(List Bool)->(List Int)->(List Int)->(List (Int×vg))->Option ej
  | 0,_,_,_,_,_=>none
  | n+1,i166,l,d,m,f =>
    if (0:Int)<(d.length:Int) then
      (at_ d 0).bind λe =>
      (cut d 1 d.length).bind λh =>
      (Sa f e).bind λi =>
      (kD i).bind λg =>
      (at_ b.Code e).bind λj =>
      (RE fu p_1 b f h g.stack g.has i166 j).bind λa =>
      if a.1=true then
        (i64 (e+1)).bind λk =>
        (jB p_1 b a.2.1 a.2.2.1 a.2.2.2.1 a.2.2.2.2.1 a.2.2.2.2.2 k).bind λc =>
        Xz (Mv fu p_1 b n) c.2.2.2.2 c.2.2.2.1 c.2.1 c.2.2.1 c.1
      else
        Xz (Mv fu p_1 b n) a.2.2.2.2.2 a.2.2.2.2.1 a.2.2.1 a.2.2.2.1 a.2.1
    else
      some (ej.mk 0 0 0)
def mD (fu:Nat) (p_1:og) (b:Vi) (c:Nat):Nat->Option ej
  | 0=>none
  | n+1 =>
    if (0:Int)<b.Params then
      none
    else
      (jB p_1 b ([]:List (Int×vg)) ([]:List Int) ([]:List Int) (List.replicate c (false:Bool)) 0 0).bind λa =>
      Mv fu p_1 b fu a.2.2.2.2 a.2.2.2.1 a.2.1 a.2.2.1 a.1
def SE (fu:Nat)  (p_1:og) (p_2:Int):Option ej :=
  (p_1.m).bind λb =>
  (at_ b.af p_2).bind λa =>
  (Ew (a.kj.length:Int)).bind λc =>
  mD fu p_1 a c ((a.Params - 0).toNat+1)
def Hz (b:Int) (a:Vi) (c:Int->Option (List Int)):Nat->Int->Option (List Int)
  | 0,_=>none
  | n+1,i242 =>
    if i242<(a.Code.length:Int) then
      (at_ a.Code i242).bind λd =>
      if d.Op=23 then
        none
      else
        if d.Op=29 then
          none
        else
          (i64 (i242+1)).bind λe =>
          Hz b a c n e
    else
      (i64 (b+1)).bind λf =>
      c f
def vx (p_1:og) (p_2:Int):Nat->Int->Option (List Int)
  | 0,_=>none
  | n+1,i98 =>
    if i98<(([p_2]:List Int).length:Int) then
      (p_1.m).bind λb =>
      (at_ ([p_2]:List Int) i98).bind λc =>
      (at_ b.af c).bind λa =>
      Hz i98 a (vx p_1 p_2 n) (a.Code.length+1) 0
    else
      some ([p_2]:List Int)
def kE (fu:Nat)  (p_1:og) (p_2:Int):Option (List Int):=
  vx p_1 p_2 fu 0
def nD  (p_1:pe) (p_2:Int) (p_3:Int):Option Bool :=
  if p_1.Op=p_2 then
    some (decide (p_1.A=p_3))
  else
    some false
def FD  (p_1:Int) (p_2:Option og) (p_3:Int) (a:Int):Option Bool :=
  (p_2).bind λb =>
  (b.m).bind λc =>
  (at_ c.af p_1).bind λd =>
  (vF d.Code (λe=>nD e p_3 a)).bind λf =>
  some f
def wx (fu:Nat) (p_1:og) (b:we) (c:Int) (d:Int) (e:Int) (f:Int->Option ej):Nat->Int->Int->Option ej
  | 0,_,_=>none
  | n+1,g,a =>
    if a<(b.af.length:Int) then
      (at_ b.af a).bind λh =>
      if h.Kind=4 then
        (kE fu p_1 a).bind λi =>
        (UA i (λj=>FD j (some p_1) e c)).bind λk =>
        if k=true then
          (i64 (g+1)).bind λl =>
          (i64 (a+1)).bind λm =>
          wx fu p_1 b c d e f n l m
        else
          (i64 (a+1)).bind λo =>
          wx fu p_1 b c d e f n g o
      else
        none
    else
      if (1:Int)<g then
        none
      else
        (i64 (d+1)).bind λp =>
        f p
def yx (fu:Nat) (p_1:og) (a:we) (b:Int) (d:Int->Option ej):Nat->Int->Option ej
  | 0,_=>none
  | n+1,c =>
    if c<2 then
      (at_ [26,27] c).bind λe =>
      wx fu p_1 a b c e (yx fu p_1 a b d n) (a.af.length+1) 0 0
    else
      (i64 (b+1)).bind λf =>
      d f
def Gv (fu:Nat) (p_1:og) (a:we):Nat->Int->Option ej
  | 0,_=>none
  | n+1,i363 =>
    if i363<(a.xe.length:Int) then
      yx fu p_1 a i363 (Gv fu p_1 a n) 3 0
    else
      some (ej.mk 0 0 0)
def lE (fu:Nat)  (p_1:og):Option ej :=
  (p_1.m).bind λa =>
  Gv fu p_1 a (a.xe.length+1) 0
def wz (fu:Nat) (p_1:we):Nat->Int->Option ej
  | 0,_=>none
  | n+1,i30 =>
    if i30<(p_1.af.length:Int) then
      (SE fu (og.mk (some p_1)) i30).bind λa =>
      if a.Te≠0 then
        none
      else
        (i64 (i30+1)).bind λb =>
        wz fu p_1 n b
    else
      (lE fu (og.mk (some p_1))).bind λc =>
      some c
def GD (fu:Nat)  (p_1:we):Option ej :=
  (PE (og.mk (some p_1))).bind λa =>
  if a.Te≠0 then
    none
  else
    wz fu p_1 (p_1.af.length+1) 0
def wF  (p_1:Int) (p_2:Int):Option (List Int×Int×Int×Int):=
  (Ew p_1).bind λa =>
  some ((List.replicate a (0:Int)),0,p_1,p_2)
def TE  (a:Int):Option Int :=
  some a
def oD (b:List Int) (p_2:Int) (a:Int) (c:Int) (d:Int):Option (Bool×List Int×Int×Int×Int):=
  if a=(b.length:Int) then
    none
  else
    (at_ b a).bind λf =>
    (i64 (a+1)).bind λe =>
    some (true,(b.set a.toNat p_2),e,c,d)
def UE  (c:List Int) (a:Int) (d:Int) (b:Int) (p_2:Int):Option (Bool×List Int×Int×Int×Int):=
  if a=b then
    none
  else
    oD c p_2 a d b
def xF  (a:List Int) (d:Int) (b:Int) (e:Int) (p_2:Int):Option (List Int×Int×Int×Int):=
  (i64 (d - p_2)).bind λc =>
  (quo (a.length:Int) 4).bind λf =>
  if c<=f then
    if b<(a.length:Int) then
      none
    else
      some (a,c,b,e)
  else
    none
def Uv  (p_2:Int) (p_3:Int) (a:Int):Option Unit :=
  some ()
def yF  (p_1:Int) (p_2:Int) (p_3:Int):Option Int :=
  if p_1=8 then
    some (fm (p_2+p_3))
  else
    none
def Iz (p_1:we):Nat->Int->(List Int)->Option (List Int)
  | 0,_,_=>none
  | n+1,i39,a =>
    if i39<(p_1.af.length:Int) then
      (at_ p_1.af i39).bind λb =>
      if b.Kind=4 then
        (app a [i39]).bind λc =>
        (i64 (i39+1)).bind λd =>
        Iz p_1 n d c
      else
        none
    else
      some a
def mE  (p_1:we):Option (List Int):=
  Iz p_1 (p_1.af.length+1) 0 []
def zF  (p_1:Int):Option (List Int×Int×Int):=
  (Ew p_1).bind λa =>
  some ((List.replicate a (0:Int)),0,0)
def pD (a:List Int) (b:Int):Option Bool :=
  some (decide (b=(a.length:Int)))
def VE  (a:List Int) (c:Int) (b:Int):Option Bool :=
  pD a b
def nE  (a:Int):Option Bool :=
  some (decide (a=0))
def HD (a:Int) (b:Int) (c:List Int):Option (List Int×Int×Int):=
  (i64 (b+1)).bind λd =>
  some (c,a,d)
def AF  (a:List Int) (b:Int) (c:Int) (p_2:Int):Option (List Int×Int×Int):=
  (i64 (b+c)).bind λe =>
  (Dt e (a.length:Int)).bind λd =>
  (at_ a d).bind λf =>
  HD b c (a.set d.toNat p_2)
def qD (a:List Int) (b:Int) (c:Int) (d:Int):Option (Int×List Int×Int×Int):=
  (i64 (b - 1)).bind λe =>
  some (c,a,d,e)
def WE  (a:List Int) (b:Int) (c:Int):Option (Int×List Int×Int×Int):=
  (at_ a b).bind λd =>
  (i64 (b+1)).bind λe =>
  (Dt e (a.length:Int)).bind λf =>
  qD a c d f
def WC (a:Int):Nat->Option (List Int)
  | 0=>none
  | n+1 =>
    if (0:Int)<a then
      none
    else
      some ([]:List Int)
def oE  (b:List Int) (c:Int) (a:Int):Option (List Int):=
  WC a ((a - 0).toNat+1)
structure Ae where
  l:List Int
  first:Int
  n:Int
deriving Inhabited
def XE (bs:List Ae) (i:Int):Option Bool:=(at_ bs i).bind λb=>VE b.l b.first b.n
def pE (bs:List Ae) (i:Int):Option Bool:=(at_ bs i).bind λb=>nE b.n
def BF (bs:List Ae) (i v:Int):Option (List Ae):=
  (at_ bs i).bind λb=>(AF b.l b.first b.n v).bind λr=>some (bs.set i.toNat ⟨r.1,r.2.1,r.2.2⟩)
def YE (bs:List Ae) (i:Int):Option (Int×List Ae):=
  (at_ bs i).bind λb=>(WE b.l b.first b.n).bind λr=>some (r.1,bs.set i.toNat ⟨r.2.1,r.2.2.1,r.2.2.2⟩)
structure pg where
  unit:Int
  Jh:Int
  base:Int
  deriving DecidableEq,Inhabited,Repr
instance:Ja pg where
  sz:=3
  pos:=by decide
  cs μ l x:=l=[.int .i64 x.unit,.int .i64 x.Jh,.int .i64 x.base]
  Qh h:=by obtain rfl:=h;rfl
  up le h:=by exact h
  fg h:=by obtain rfl:=h;rfl
def Xx  (b:Int) (c:Int) (d:Int) (e:List Int) (f:Int) (g:Int) (h:Int) (p_2:Int):Option (Int×Int×Int×List Int×Int×Int×Int):=
  (UE e f g h p_2).bind λa =>
  if a.1=true then
    some (b,c,d,a.2.1,a.2.2.1,a.2.2.2.1,a.2.2.2.2)
  else
    none
def dw  (d:Int) (e:Int) (f:Int) (b:List Int) (c:Int) (g:Int) (h:Int):Option (Int×Int×Int×Int×List Int×Int×Int×Int):=
  (TE c).bind λi =>
  (i64 (i - 1)).bind λj =>
  (at_ b j).bind λk =>
  (xF b c g h 1).bind λa =>
  some (k,d,e,f,a.1,a.2.1,a.2.2.1,a.2.2.2)
def Jz (b:List Ae) (c:Int) (a:Int) (d:Int):Option (Bool×List Ae×Int×Int×Int):=
  some (decide (a≠1),b,a,d,c)
def XC (p_2:pe) (a:List Ae) (b:Int):Option (Bool×List Ae×Int×Int×Int):=
  Jz a b 3 p_2.A
def Kz (p_2:pe) (a:List Ae) (b:Int) (c:Bool):Option (Bool×List Ae×Int×Int×Int):=
  if c=true then
    XC p_2 a b
  else
    Jz a b 1 0
def Lz (p_2:pe) (a:List Ae) (b:Int) (ig:Bool):Option (Bool×List Ae×Int×Int×Int):=
  if ig=true then
    none
  else
    if p_2.Op=27 then
      (pE a p_2.A).bind λc =>
      Kz p_2 a b c
    else
      Kz p_2 a b false
def qE  (a:List Ae) (d:Int) (e:Int) (b:Int) (p_2:pe):Option (Bool×List Ae×Int×Int×Int):=
  if p_2.Op=26 then
    (XE a p_2.A).bind λc =>
    Lz p_2 a b c
  else
    Lz p_2 a b false
def rD (d:we) (e:List Ae) (f:Int) (g:Int) (h:Int) (b:List pg) (i:Int):Option (List Ae×Int×Int×Int×List pg):=
  (at_ b i).bind λc =>
  (at_ d.af c.unit).bind λj =>
  (at_ j.Code c.Jh).bind λk =>
  (qE e f g h k).bind λa =>
  some (a.2.1,a.2.2.1,a.2.2.2.1,a.2.2.2.2,b)
def Vv  (g:we) (c:List Ae) (b:Int) (d:Int) (e:Int) (a:List pg):Option (List Ae×Int×Int×Int×List pg):=
  if b<=3 then
    (i64 ((a.length:Int) - 1)).bind λf =>
    (at_ a f).bind λh =>
    rD g c b d e a f
  else
    some (c,b,d,e,a)
def ru (c:we) (d:Int) (e:List Ae×Int×Int×Int×List pg) (f:Int) (b:pg) (g:Int) (h:Int) (i:Int) (j:Int) (k:List Ae) (l:List Int) (m:Int) (n:Int) (o:Int) (p:List Int):Option (Bool×List Ae×Int×Int×Int×List Int×Int×List pg×List Int×Int×Int×Int):=
  (Vv c k h i j (e.2.2.2.2.set f.toNat (pg.mk b.unit g b.base))).bind λa =>
  some (true,a.1,a.2.1,a.2.2.1,a.2.2.2.1,l,d,a.2.2.2.2,p,m,n,o)
def sD (k:we) (m:List Int) (n:Int) (o:List Int) (p:Int) (q:Int) (r:Int) (a:List Ae×Int×Int×Int×List pg) (l:Int):Option (Bool×List Ae×Int×Int×Int×List Int×Int×List pg×List Int×Int×Int×Int):=
  (at_ a.2.2.2.2 l).bind λe =>
  (at_ k.af e.unit).bind λu =>
  (at_ u.Code e.Jh).bind λb =>
  (i64 (e.Jh+1)).bind λs =>
  if b.Op=1 then
    (Xx a.2.1 a.2.2.1 a.2.2.2.1 o p q r b.N).bind λh =>
    ru k n a l e s h.1 h.2.1 h.2.2.1 a.1 m h.2.2.2.2.1 h.2.2.2.2.2.1 h.2.2.2.2.2.2 h.2.2.2.1
  else
    if b.Op=2 then
      none
    else
      if b.Op=3 then
        none
      else
        if b.Op=4 then
          none
        else
          if b.Op=5 then
            none
          else
            if b.Op=6 then
              none
            else
              if b.Op=7 then
                none
              else
                if (8:Int)<=b.Op then
                  if b.Op<=20 then
                    (dw a.2.1 a.2.2.1 a.2.2.2.1 o p q r).bind λf =>
                    (dw f.2.1 f.2.2.1 f.2.2.2.1 f.2.2.2.2.1 f.2.2.2.2.2.1 f.2.2.2.2.2.2.1 f.2.2.2.2.2.2.2).bind λg =>
                    if b.Op=11 then
                      none
                    else
                      if b.Op=12 then
                        none
                      else
                        (yF b.Op g.1 f.1).bind λv =>
                        (Xx g.2.1 g.2.2.1 g.2.2.2.1 g.2.2.2.2.1 g.2.2.2.2.2.1 g.2.2.2.2.2.2.1 g.2.2.2.2.2.2.2 v).bind λi =>
                        ru k n a l e s i.1 i.2.1 i.2.2.1 a.1 m i.2.2.2.2.1 i.2.2.2.2.2.1 i.2.2.2.2.2.2 i.2.2.2.1
                  else
                    if b.Op=21 then
                      none
                    else
                      if b.Op=22 then
                        none
                      else
                        if b.Op=26 then
                          (dw a.2.1 a.2.2.1 a.2.2.2.1 o p q r).bind λc =>
                          (BF a.1 b.A c.1).bind λw =>
                          (Uv 2 b.A c.1).bind λy =>
                          ru k n a l e s c.2.1 c.2.2.1 c.2.2.2.1 w m c.2.2.2.2.2.1 c.2.2.2.2.2.2.1 c.2.2.2.2.2.2.2 c.2.2.2.2.1
                        else
                          if b.Op=27 then
                            (YE a.1 b.A).bind λt =>
                            (Uv 3 b.A t.1).bind λz =>
                            (Xx a.2.1 a.2.2.1 a.2.2.2.1 o p q r t.1).bind λj =>
                            ru k n a l e s j.1 j.2.1 j.2.2.1 t.2 m j.2.2.2.2.1 j.2.2.2.2.2.1 j.2.2.2.2.2.2 j.2.2.2.1
                          else
                            if b.Op=28 then
                              (dw a.2.1 a.2.2.1 a.2.2.2.1 o p q r).bind λd =>
                              (app m [d.1]).bind λx =>
                              (Uv 1 0 d.1).bind λB =>
                              ru k n a l e s d.2.1 d.2.2.1 d.2.2.2.1 a.1 x d.2.2.2.2.2.1 d.2.2.2.2.2.2.1 d.2.2.2.2.2.2.2 d.2.2.2.2.1
                            else
                              none
                else
                  none
def ZE  (b:we) (j:List Ae) (k:Int) (l:Int) (m:Int) (c:List Int) (d:Int) (n:List pg) (e:List Int) (f:Int) (g:Int) (h:Int):Option (Bool×List Ae×Int×Int×Int×List Int×Int×List pg×List Int×Int×Int×Int):=
  (Vv b j k l m n).bind λa =>
  if a.2.1≠1 then
    some (false,a.1,a.2.1,a.2.2.1,a.2.2.2.1,c,d,a.2.2.2.2,e,f,g,h)
  else
    (i64 ((a.2.2.2.2.length:Int) - 1)).bind λi =>
    (at_ a.2.2.2.2 i).bind λo =>
    sD b c d e f g h a i
def YC (p_2:Int) (a:List Int×Int×Int×Int) (b:Vi):Nat->Option (Int×List pg×List Int×Int×Int×Int)
  | 0=>none
  | n+1 =>
    if (0:Int)<(b.kj.length:Int) then
      none
    else
      some (0,([(pg.mk p_2 0 0)]:List pg),a.1,a.2.1,a.2.2.1,a.2.2.2)
def rE  (b:we) (p_2:Int) (p_3:List Int):Option (Int×List pg×List Int×Int×Int×Int):=
  (wF 8 400).bind λc =>
  (at_ b.af p_2).bind λa =>
  YC p_2 c a (a.kj.length+1)
structure Rt where
  state:Int
  up:Option Nat
  fr:List pg
  l:List Int
  live:Int
  Cq:Int
  Tb:Int
structure Xf where
  cs:List Rt
  now:Nat
def Xf.length (p:Xf):Nat:=p.cs.length
def Xf.put (p:Xf) (c:Rt):Xf:=⟨p.cs.set p.now c,p.now⟩
def aF (m:we) (p:Xf) (s Ya t:Int) (a:List Ae):Option (Xf×Int×Int×Int×List Ae):=
  (p.cs[p.now]?).bind λc =>
  (Vv m a s Ya t c.fr).bind λr =>
  some (p.put { c with fr:=r.2.2.2.2 },r.2.1,r.2.2.1,r.2.2.2.1,r.1)
def CF (p:Xf) (s Ya t:Int):Option (Xf×Int×Int×Int):=
  (p.cs[p.now]?).bind λc =>
  if c.up=none then (Uv 4 0 0).bind λ_=>some (p.put { c with state:=3 },4,Ya,t)
  else none
def wu (m:we) (p:Xf) (s Ya t:Int) (x:pe):Option (Xf×Int×Int×Int):=
  if x.Op=25 then CF p s Ya t
  else none
abbrev kB:=Option (Bool×Xf×Int×Int×Int×List Int×List Ae)
def ID (m:we) (p:Xf) (c:Rt) (out:List Int) (r:List Ae×Int×Int×Int×List pg) (i:Int):kB :=
  (at_ r.2.2.2.2 i).bind λx =>
  (at_ m.af x.unit).bind λu =>
  (at_ u.Code x.Jh).bind λy =>
  (i64 (x.Jh+1)).bind λk =>
  (wu m (p.put { c with fr:=r.2.2.2.2.set i.toNat (pg.mk x.unit k x.base) }) r.2.1 r.2.2.1 r.2.2.2.1 y).bind λq =>
  (aF m q.1 q.2.1 q.2.2.1 q.2.2.2 r.1).bind λz =>
  some (true,z.1,z.2.1,z.2.2.1,z.2.2.2.1,out,z.2.2.2.2)
def DF (m:we) (p:Xf) (s Ya t:Int) (out:List Int) (a:List Ae):kB :=
  (p.cs[p.now]?).bind λc =>
  (Vv m a s Ya t c.fr).bind λr =>
  if r.2.1≠1 then none else
  (i64 ((r.2.2.2.2.length:Int) - 1)).bind λi =>
  (at_ r.2.2.2.2 i).bind λx =>
  ID m p c out r i
def UI (m:we) (p:Xf) (s Ya t:Int) (out:List Int) (a:List Ae):kB :=
  (p.cs[p.now]?).bind λc =>
  (ZE m a s Ya t out c.state c.fr c.l c.live c.Cq c.Tb).bind λr =>
  some (r.1,p.put { c with state:=r.2.2.2.2.2.2.1,fr:=r.2.2.2.2.2.2.2.1,l:=r.2.2.2.2.2.2.2.2.1,live:=r.2.2.2.2.2.2.2.2.2.1,Cq:=r.2.2.2.2.2.2.2.2.2.2.1,Tb:=r.2.2.2.2.2.2.2.2.2.2.2 },r.2.2.1,r.2.2.2.1,r.2.2.2.2.1,r.2.2.2.2.2.1,r.2.1)
def bF (m:we) (p:Xf) (s Ya t:Int) (out:List Int) (a:List Ae):kB :=
  match DF m p s Ya t out a with
  | some r=>some r
  | none=>UI m p s Ya t out a
def EF (m:we) (u:Int):Option (Xf×Int×Int×Int×List Int):=
  (rE m u ([]:List Int)).bind λr =>
  some (⟨[Rt.mk 2 none r.2.1 r.2.2.1 r.2.2.2.1 r.2.2.2.2.1 r.2.2.2.2.2],0⟩,1,0,0,([]:List Int))
structure hn where
  zo:Xf
  s:Int
  Ya:Int
  t:Int
  out:List Int
structure qe where
  m:we
  tasks:List hn
  boxes:List Ae
def qe.length (x:qe):Nat:=x.tasks.length
def Yx (x:qe) (i:Int):Option qe :=
  (at_ x.tasks i).bind λk =>
  (aF x.m k.zo k.s k.Ya k.t x.boxes).bind λr =>
  some { x with tasks:=x.tasks.set i.toNat { k with zo:=r.1,s:=r.2.1,Ya:=r.2.2.1,t:=r.2.2.2.1 },boxes:=r.2.2.2.2 }
def cF (x:qe) (i:Int):Option (Bool×qe):=
  (at_ x.tasks i).bind λk =>
  (bF x.m k.zo k.s k.Ya k.t k.out x.boxes).bind λr =>
  some (r.1,{ x with tasks:=x.tasks.set i.toNat ⟨r.2.1,r.2.2.1,r.2.2.2.1,r.2.2.2.2.1,r.2.2.2.2.2.1⟩,boxes:=r.2.2.2.2.2.2 })
def sE (x:qe) (i:Int):Option (List Int):=(at_ x.boxes i).bind λb=>oE b.l b.first b.n
def Ax:List Cm->List Ae->Option (List Ae)
  | [],acc=>some acc
  | b::bs,acc=>(zF b.Ie).bind λr=>if 4294967295<acc.length then none else Ax bs (acc++[⟨r.1,r.2.1,r.2.2⟩])
def Bx (m:we):List Int->List hn->Option (List hn)
  | [],acc=>some acc
  | u::us,acc=>(EF m u).bind λr=>if 4294967295<acc.length then none else Bx m us (acc++[⟨r.1,r.2.1,r.2.2.1,r.2.2.2.1,r.2.2.2.2⟩])
def tE (m:we):Option (qe×Int):=
  (Ax m.xe []).bind λYa=>(mE m).bind λus=>(Bx m us []).bind λna=>some (⟨m,na,Ya⟩,0)
structure Hm where
  State:Int
  MG:Int
  YV:Int
  Out:List Int
  deriving DecidableEq,Inhabited,Repr
instance:Ja Hm where
  sz:=4
  pos:=by decide
  cs μ l x:=∃ pa gb,l=[.int .i64 x.State,.int .i64 x.MG,.int .i64 x.YV,.slice pa x.Out.length gb]/\za μ pa gb x.Out
  Qh h:=by obtain ⟨pa,gb,rfl,m1⟩:=h;rfl
  up le h:=by obtain ⟨pa,gb,rfl,m1⟩:=h;exact ⟨pa,gb,rfl,m1.up le⟩
  fg h:=by obtain ⟨pa,gb,rfl,m1⟩:=h;rfl
structure Ti where
  Mh:List Hm
  xe:List (List Int)
  Steps:Int
  deriving DecidableEq,Inhabited,Repr
structure gq where
  Task:Int
  Au:Int
  deriving DecidableEq,Inhabited,Repr
instance:Ja gq where
  sz:=2
  pos:=by decide
  cs μ l x:=l=[.int .i64 x.Task,.int .i64 x.Au]
  Qh h:=by obtain rfl:=h;rfl
  up le h:=by exact h
  fg h:=by obtain rfl:=h;rfl
structure xw where
  Te:Int
  Steps:Int
  deriving DecidableEq,Inhabited,Repr
def Yz (a:Int) (b:Int) (d:Int->Int->qe->Option (xw×qe×Int)) (e:Bool) (c:qe):Option (xw×qe×Int):=
  if e=true then
    (i64 (a+1)).bind λf =>
    (i64 (b+1)).bind λg =>
    d f g c
  else
    if a=0 then
      none
    else
      some ((xw.mk 0 a),c,b)
def Nv (p_2:gq):Nat->Int->Int->qe->Option (xw×qe×Int)
  | 0,_,_,_=>none
  | n+1,i46,i47,a =>
    if i46<p_2.Au then
      if i47<20000 then
        (cF a p_2.Task).bind λb =>
        Yz i46 i47 (Nv p_2 n) b.1 b.2
      else
        none
    else
      Yz i46 i47 (Nv p_2 n) false a
def dF (fu:Nat)  (a:qe) (c:Int) (p_2:gq):Option (xw×qe×Int):=
  if p_2.Task<0 then
    none
  else
    if (a.length:Int)<=p_2.Task then
      none
    else
      if p_2.Au<1 then
        none
      else
        if (10000:Int)<p_2.Au then
          none
        else
          (at_ a.tasks p_2.Task).bind λe =>
          (Yx a p_2.Task).bind λb =>
          (at_ b.tasks p_2.Task).bind λd =>
          if d.s≠1 then
            none
          else
            Nv p_2 fu 0 c b
def Cx (a:qe) (b:Int):Nat->Int->qe->(List Int)->Option (List Int×qe×Int)
  | 0,_,_,_=>none
  | n+1,i39,c,d =>
    if i39<(a.length:Int) then
      (at_ c.tasks i39).bind λj =>
      (Yx c i39).bind λe =>
      (at_ e.tasks i39).bind λf =>
      if f.s=1 then
        (app d [i39]).bind λg =>
        (i64 (i39+1)).bind λh =>
        Cx a b n h e g
      else
        (i64 (i39+1)).bind λi =>
        Cx a b n i e d
    else
      some (d,c,b)
def yA  (a:qe) (b:Int):Option (List Int×qe×Int):=
  Cx a b (a.length+1) 0 a []
def ZC (a:Int) (b:qe) (c:Int->qe->(List Hm)->Option (Ti×qe×Int)) (d:List Hm):Option (Ti×qe×Int):=
  (i64 (a+1)).bind λe =>
  c e b d
def aD (a:Int) (b:Int->(List (List Int))->Option (Ti×qe×Int)) (c:List (List Int)):Option (Ti×qe×Int):=
  (i64 (a+1)).bind λd =>
  b d c
def Dx (b:Int) (a:qe) (c:List Hm):Nat->Int->(List (List Int))->Option (Ti×qe×Int)
  | 0,_,_=>none
  | n+1,i213,d =>
    if i213<(a.boxes.length:Int) then
      (at_ a.boxes i213).bind λg =>
      (sE a i213).bind λe =>
      (app d [e]).bind λf =>
      aD i213 (Dx b a c n) f
    else
      some ((Ti.mk c d b),a,b)
def Ex (c:qe) (d:Int):Nat->Int->qe->(List Hm)->Option (Ti×qe×Int)
  | 0,_,_,_=>none
  | n+1,i71,b,e =>
    if i71<(c.length:Int) then
      (at_ b.tasks i71).bind λl =>
      (Yx b i71).bind λa =>
      (at_ a.tasks i71).bind λf =>
      (at_ a.tasks i71).bind λg =>
      (at_ a.tasks i71).bind λh =>
      (at_ a.tasks i71).bind λi =>
      (app ([]:List Int) i.out).bind λj =>
      (app e [(Hm.mk f.s g.Ya h.t j)]).bind λk =>
      ZC i71 a (Ex c d n) k
    else
      Dx d b e (b.boxes.length+1) 0 []
def uE  (a:qe) (b:Int):Option (Ti×qe×Int):=
  Ex a b (a.length+1) 0 a []
def vE (fu:Nat)  (p_1:we) (p_2:Int):Option Int :=
  (GD fu p_1).bind λa =>
  if a.Te≠0 then
    none
  else
    if (400:Int)<p_2 then
      none
    else
      some 0
def xz (fu:Nat) (p_3:Int) (d:Int) (e:qe) (f:Int->(List Int)->Int->qe->Option (Ti×Int)) (c:Int):Option (Ti×Int):=
  (dF fu e d (gq.mk c p_3)).bind λa =>
  if a.1.Te≠0 then
    none
  else
    (yA a.2.1 a.2.2).bind λb =>
    f c b.1 b.2.2 b.2.1
def yz (fu:Nat) (p_3:Int) (e:Int) (a:List Int) (b:Int) (c:qe) (f:Int) (d:Int->(List Int)->Int->qe->Option (Ti×Int)):Nat->Int->Option (Ti×Int)
  | 0,_=>none
  | n+1,i183 =>
    if i183<(a.length:Int) then
      (at_ a i183).bind λg =>
      if e<g then
        xz fu p_3 b c d g
      else
        (i64 (i183+1)).bind λh =>
        yz fu p_3 e a b c f d n h
    else
      xz fu p_3 b c d f
def Bv (fu:Nat) (p_3:Int):Nat->Int->(List Int)->Int->qe->Option (Ti×Int)
  | 0,_,_,_,_=>none
  | n+1,i98,a,i103,b =>
    if (0:Int)<(a.length:Int) then
      (at_ a 0).bind λc =>
      yz fu p_3 i98 a i103 b c (Bv fu p_3 n) (a.length+1) 0
    else
      (uE b i103).bind λd =>
      some (d.1,0)
def OC (fu:Nat) (p_2:List gq) (p_3:Int) (b:qe×Int):Nat->Option (Ti×Int)
  | 0=>none
  | n+1 =>
    if (0:Int)<(p_2.length:Int) then
      none
    else
      (yA b.1 b.2).bind λa =>
      Bv fu p_3 fu (-1) a.1 a.2.2 a.2.1
def JD (fu:Nat)  (p_1:we) (p_2:List gq) (p_3:Int):Option (Ti×Int):=
  (vE fu p_1 (p_2.length:Int)).bind λa =>
  if a≠0 then
    none
  else
    if p_3<1 then
      none
    else
      if (10000:Int)<p_3 then
        none
      else
        (tE p_1).bind λb =>
        OC fu p_2 p_3 b (p_2.length+1)
def ZV:List UInt8:=[98,111,120,32,98,32,110,117,109,32,49,32,59,32,116,97,115,107,32,97,32,123,32,115,101,110,100,32,98,32,55,32,59,32,125,32,116,97,115,107,32,99,32,123,32,111,117,116,32,114,101,99,118,32,40,32,98,32,41,32,43,32,49,32,59,32,125]
def Ov (p_1:List Int) (p_2:List Int):Nat->Int->Option Bool
  | 0,_=>none
  | n+1,i26 =>
    if i26<(p_1.length:Int) then
      (at_ p_1 i26).bind λa =>
      (at_ p_2 i26).bind λb =>
      if a≠b then
        none
      else
        (i64 (i26+1)).bind λc =>
        Ov p_1 p_2 n c
    else
      some true
def Wv  (p_1:List Int) (p_2:List Int):Option Bool :=
  if (p_1.length:Int)≠(p_2.length:Int) then
    none
  else
    Ov p_1 p_2 (p_1.length+1) 0
def HC (a:we×Vd):Option (we×Bool):=
  some (a.1,decide (a.2.Te=0))
def tD (fu:Nat)  (p_1:List UInt8):Option (we×Bool):=
  (cE fu p_1).bind λa =>
  if a.2.Te≠0 then
    none
  else
    (VC fu a.1).bind λb =>
    HC b
def iA (fu:Nat)  :Option Bool :=
  (tD fu ZV).bind λa =>
  (JD fu a.1 ([]:List gq) 3).bind λUe =>
  if a.2=true then
    if Ue.2=0 then
      if (Ue.1.Mh.length:Int)=2 then
        (at_ Ue.1.Mh 1).bind λb =>
        if b.State=4 then
          (at_ Ue.1.Mh 1).bind λc =>
          (Wv c.Out [8]).bind λd =>
          some d
        else
          none
      else
        none
    else
      none
  else
    none
abbrev Je:=List UInt8
mutual
inductive Ze where
  | all (l:List Na) (s:Option Nat) (Jd:List Int) (k:Zk)
  | stat (l:List Pa) (s:Option Nat) (e:hh) (k:fe)
  | qf (x:Pa) (s:Option Nat) (e:hh) (k:fe)
inductive Zk where
  | ex (x:Na) (k:Ze)
inductive fe where
  | zero (k:Ze)
  | recv (n:Je) (k:Ze)
  | send (n:Je) (v:Int) (k:fe)
  | done (g:Nat)
  | stats (l:List Pa) (s:Option Nat) (e:hh) (k:fe)
  | qf (x:Pa) (s:Option Nat) (e:hh) (k:fe)
  | fin
  | Yi (d:va)
inductive hh where
  | ret (k:Ze)
  | stop (k:fe)
end
structure fi where
  name:Je
  v:Int
  up:Option Nat
structure Ng where
  Im:va
  args:Option Nat
  begun:Bool
  going:Bool
  ended:Bool
  up:Option Nat
  back:Option Ze
  vk:Option Ze
structure Rd where
  cap:Int
  words:List Int
structure xd where
  de:List fi
  Db:List Ng
  now:Nat
  mm:Option fe
  state:Int
  box:Int
  ye:Int
  out:List Int
structure Sd where
  defs:List (Je×va)
  order:List (Je×Int)
structure Sc where
  t:xd
  boxes:List Rd
  nodes:Int
inductive ah where
  | expr (x:Na) (s:Option Nat) (k:Ze)
  | all (l:List Na) (s:Option Nat) (Jd:List Int) (k:Zk)
  | stats (l:List Pa) (s:Option Nat) (e:hh) (k:fe)
  | qf (x:Pa) (s:Option Nat) (e:hh) (k:fe)
  | ff (k:Ze) (v:Int)
  | Jd (k:Zk) (l:List Int)
  | sd (k:fe)
  | recv (n:Je) (k:Ze)
  | send (n:Je) (v:Int) (k:fe)
  | resume (g:Nat) (v:Int) (k:Ze)
inductive fk where
  | call (c:ah) (x:Sc)
  | ret (k:Option fe) (x:Sc)
  | yr
def ym (S:List fi) (n:Je):Nat->Option Nat->Option Nat
  | 0,_=>none
  | _+1,none=>none
  | fu+1,some i=>(S[i]?).bind λc=>if c.name=n then some i else ym S n fu c.up
def Kj:List TParam->List Int->List fi->Option Nat->Option (List fi×Option Nat)
  | [],_,S,s=>some (S,s)
  | p::zg,[],_,_=>none
  | p::zg,v::vs,S,s=>Kj zg vs (S++[⟨p.Name,v,s⟩]) (some S.length)
def ak (b:Bool):Int:=if b then 1 else 0
def Nn (k a b:Int):Option Int :=
  let whole:=a=-9223372036854775808/\b=-1
  if k=6 then some (fm (a+b)) else
  if k=7 then some (fm (a - b)) else
  if k=8 then some (fm (a*b)) else
  if k=9 then (if whole then some a else quo a b) else
  if k=10 then (if whole then some 0 else Dt a b) else
  if k=11 then some (ak (decide (a=b))) else
  if k=12 then some (ak (decide (a≠b))) else
  if k=13 then some (ak (decide (a<b))) else
  if k=14 then some (ak (decide (a<=b))) else
  if k=15 then some (ak (decide (b<a))) else
  if k=16 then some (ak (decide (b<=a))) else
  if k=17 then some (min a b) else some (max a b)
def Sc.task (x:Sc) (f:xd->xd):Sc:={ x with t:=f x.t }
def Zs (x:Sc) (n:Int):fk:=.ret none (x.task λt=>{ t with state:=5,ye:=n })
def JS (e:hh):Option fe:=match e with | .ret _=>none | .stop k=>some k
def Us (x:Sc) (f:Sc->Option fk):Option fk:=if 20000<x.nodes+1 then some .yr else f { x with nodes:=x.nodes+1 }
def xd.rn (t:xd) (g:Nat) (f:Ng->Ng):xd:=match t.Db[g]? with | none=>t | some c=>{ t with Db:=t.Db.set g (f c) }
def On (E:Sd) (x:Na) (k:Ze) (l:List Int) (z:Sc):Option fk :=
  if x.Kind=4 then (at_ l 0).bind λa=>some (.call (.ff k (fm (-a))) z) else
  if x.Kind=5 then (at_ l 0).bind λa=>some (.call (.ff k (fm (1 - a))) z) else
  if x.Kind=19 then (Sa E.defs x.Name).bind λd=>(Kj d.Params l z.t.de none).bind λr=>some (.call (.stats d.Body r.2 (.ret k) (.zero k)) (z.task λt=>{ t with de:=r.1 })) else
  if x.Kind=21 then (at_ l 0).bind λa=>(z.t.Db[z.t.now]?).bind λc=>c.up.bind λu=>c.back.bind λb=>some (.call (.ff b a) (z.task λt=>{ t.rn t.now λc=>{ c with vk:=some k,going:=false } with now:=u })) else
  if x.Kind=22 then
    if (z.t.Db.length:Int) - 1=30 then some (Zs z 5) else
    (Sa E.defs x.Name).bind λd=>(Kj d.Params l z.t.de none).bind λr =>
    some (.call (.ff k (z.t.Db.length - 1)) (z.task λt=>{ t with de:=r.1,Db:=t.Db++[⟨d,r.2,false,false,false,none,none,none⟩] })) else
  if x.Kind=23 then (at_ l 0).bind λa=>(at_ l 1).bind λb=>if 0<=a/\a<(z.t.Db.length:Int) - 1 then some (.call (.resume (a.toNat+1) b k) z) else none else
  if x.Kind=24 then (at_ l 0).bind λa=>if 0<=a then (z.t.Db[a.toNat+1]?).bind λc=>some (.call (.ff k (ak !c.ended)) z) else none else
  (if x.Kind=9\/x.Kind=10 then (at_ l 1).bind λb=>some (decide (b=0)) else some false).bind λq =>
  if q=true then some (Zs z 1) else
  (at_ l 0).bind λa=>(at_ l 1).bind λb=>(Nn x.Kind a b).bind λv=>some (.call (.ff k v) z)
def gK (E:Sd) (z:Sc) (s:Int) (n:Je) (again:fe):fk:=.ret none (z.task λt=>{ t with state:=s,box:=(Sa E.order n).getD 0,mm:=some again })
def Hu (E:Sd) (n:Je) (k:Ze) (z:Sc):Option fk :=
  (Sa E.order n).bind λi=>(at_ z.boxes i).bind λb =>
  match b.words with
  | []=>some (gK E z 3 n (.recv n k))
  | v::ws=>some (.call (.ff k v) { z with boxes:=z.boxes.set i.toNat { b with words:=ws } })
def Iu (E:Sd) (n:Je) (v:Int) (k:fe) (z:Sc):Option fk :=
  (Sa E.order n).bind λi=>(at_ z.boxes i).bind λb =>
  if (b.words.length:Int)=b.cap then some (gK E z 2 n (.send n v k)) else
  (app b.words [v]).bind λws=>some (.ret (some k) { z with boxes:=z.boxes.set i.toNat { b with words:=ws } })
def xu (g:Nat) (v:Int) (k:Ze) (z:Sc):Option fk :=
  (z.t.Db[g]?).bind λc =>
  if c.ended=true then some (Zs z 2) else
  if c.going=true\/g=z.t.now then some (Zs z 3) else
  let a:=z.task λt=>{ t.rn g λc=>{ c with going:=true,up:=some t.now,back:=some k } with now:=g }
  if c.begun=true then c.vk.bind λo=>some (.call (.ff o v) a) else
  some (.call (.stats c.Im.Body c.args (.stop (.done g)) (.done g)) (a.task λt=>t.rn g λc=>{ c with begun:=true }))
def gp (x:Pa) (l:List Pa) (s:Option Nat) (e:hh) (k:fe) (v:Int) (z:Sc):Option fk :=
  if x.Kind=1 then some (.ret (some (.stats l (some z.t.de.length) e k)) (z.task λt=>{ t with de:=t.de++[⟨x.Name,v,s⟩] })) else
  if x.Kind=2 then (ym z.t.de x.Name (z.t.de.length+1) s).bind λi=>(z.t.de[i]?).bind λc=>some (.ret (some (.stats l s e k)) (z.task λt=>{ t with de:=t.de.set i { c with v:=v } })) else
  if x.Kind=3 then some (.call (.stats (if v≠0 then x.Body else x.kf) s e (.stats l s e k)) z) else
  if x.Kind=5 then (match e with | .ret q=>some (.call (.ff q v) z) | .stop _=>none) else
  if x.Kind=7 then some (.call (.send x.Name v (.stats l s e k)) z) else
  if x.Kind=8 then (app z.t.out [v]).bind λo=>some (.ret (some (.stats l s e k)) (z.task λt=>{ t with out:=o })) else
  some (.ret (some (.stats l s e k)) z)
def Wd (E:Sd):ah->Sc->Option fk
  | .expr x s k,z=>Us z λz =>
    if x.Kind=1\/x.Kind=2 then some (.call (.ff k x.N) z) else
    if x.Kind=3 then (ym z.t.de x.Name (z.t.de.length+1) s).bind λi=>(z.t.de[i]?).bind λc=>some (.call (.ff k c.v) z) else
    if x.Kind=20 then some (.call (.recv x.Name k) z) else
    some (.call (.all x.Kids s [] (.ex x k)) z)
  | .all l s Jd k,z=>if l.length=Jd.length then some (.call (.Jd k Jd) z) else (l[Jd.length]?).bind λx=>some (.call (.expr x s (.all l s Jd k)) z)
  | .stats [] s e k,z=>some (.ret (some k) z)
  | .stats (x::l) s e k,z=>Us z λz =>
    if x.Kind=6 then some (.ret (JS e) z) else
    if x.Kind=4 then some (.call (.qf x s e (.stats l s e k)) z) else
    some (.call (.expr x.X s (.stat (x::l) s e k)) z)
  | .qf x s e k,z=>some (.call (.expr x.X s (.qf x s e k)) z)
  | .ff (.all l s Jd k) v,z=>(app Jd [v]).bind λg=>some (.call (.all l s g k) z)
  | .ff (.stat l s e k) v,z=>match l with | []=>none | x::l=>gp x l s e k v z
  | .ff (.qf x s e k) v,z=>if v=0 then some (.ret (some k) z) else some (.call (.stats x.Body s e (.qf x s e k)) z)
  | .Jd (.ex x k) l,z=>On E x k l z
  | .sd (.zero k),z=>some (.call (.ff k 0) z)
  | .sd (.recv n k),z=>Hu E n k z
  | .sd (.send n v k),z=>Iu E n v k z
  | .sd (.done g),z=>(z.t.Db[g]?).bind λc=>c.up.bind λu=>c.back.bind λb=>some (.call (.ff b 0) (z.task λt=>{ t.rn g λc=>{ c with ended:=true,going:=false } with now:=u }))
  | .sd (.stats l s e k),z=>some (.call (.stats l s e k) z)
  | .sd (.qf x s e k),z=>some (.call (.qf x s e k) z)
  | .sd .fin,z=>some (.ret none (z.task λt=>{ t with state:=4 }))
  | .sd (.Yi d),z=>some (.call (.stats d.Body none (.stop .fin) .fin) z)
  | .recv n k,z=>Hu E n k z
  | .send n v k,z=>Iu E n v k z
  | .resume g v k,z=>xu g v k z
def dp (E:Sd):Nat->ah->Sc->Option (Option (Option fe×Sc))
  | 0,_,_=>none
  | n+1,c,z=>(Wd E c z).bind λo=>match o with
    | .call c z=>dp E n c z
    | .ret k z=>some (some (k,z))
    | .yr=>some none
def bt (E:Sd):Nat->Option fe->Sc->Option (Option Sc)
  | _,none,z=>some (some z)
  | 0,some _,_=>none
  | n+1,some k,z=>(dp E n (.sd k) z).bind λr=>match r with
    | none=>some none
    | some (k',a)=>bt E n k' a
def ly (E:Sd) (n:Nat) (z:Sc):Option (Option Sc):=bt E n z.t.mm (z.task λt=>{ t with state:=1,box:=0 })
def nr (t:xd) (bs:List Rd):Option Bool :=
  if t.state=1 then some true else
  if t.state=2 then (at_ bs t.box).bind λb=>some (decide ((b.words.length:Int)<b.cap)) else
  if t.state=3 then (at_ bs t.box).bind λb=>some (decide ((0:Int)<b.words.length)) else
  some false
def Xp (E:Sd) (n:Nat):List xd->List xd->List Rd->Int->Bool->Option (Option (List xd×List Rd×Int×Bool))
  | pre,[],bs,nd,mc=>some (some (pre,bs,nd,mc))
  | pre,t::na,bs,nd,mc=>(nr t bs).bind λc =>
    if c=true then (ly E n ⟨t,bs,nd⟩).bind λr=>match r with
      | none=>some none
      | some z=>Xp E n (pre++[z.t]) na z.boxes z.nodes true
    else Xp E n (pre++[t]) na bs nd mc
def dr (E:Sd) (n:Nat):Nat->List xd->List Rd->Int->Option (Option (List xd×List Rd×Int))
  | 0,_,_,_=>none
  | m+1,na,bs,nd=>(Xp E n [] na bs nd false).bind λr=>match r with
    | none=>some none
    | some (na,bs,nd,mc)=>if mc=true then dr E n m na bs nd else some (some (na,bs,nd))
structure Qn where
  D:List (Je×va)
  O:List (Je×Int)
  bs:List Rd
  na:List xd
def Hk (d:va):xd:=⟨[],[⟨d,none,false,false,false,none,none,none⟩],0,some (.Yi d),1,0,0,[]⟩
def qt (u:Qn) (d:va):Qn:=if d.Kind=1 then { u with O:=dd u.O d.Name (u.bs.length:Int),bs:=u.bs++[⟨d.Ie,[]⟩] } else u
def tt (u:Qn) (d:va):Qn:=if d.Kind=4 then { u with na:=u.na++[Hk d] } else u
def Th (u:Qn) (d:va):Qn:=tt (qt { u with D:=dd u.D d.Name d } d) d
def Mg (l:List va):Qn:=l.foldl Th ⟨[],[],[],[]⟩
def Qn.env (u:Qn):Sd:=⟨u.D,u.O⟩
def hK (n:Nat) (l:List va):Option (Option (List xd×List Rd×Int)):=dr (Mg l).env n n (Mg l).na (Mg l).bs 0
def xk (t:xd):Hm:=⟨t.state,t.box,t.ye,t.out⟩
def KD (r:Option (List xd×List Rd×Int)):Option (Ti×Vd):=
  match r with
  | none=>some (⟨[],[],0⟩,⟨10,0⟩)
  | some (na,bs,nd)=>if na.length<=4294967295/\bs.length<=4294967295/\(bs.all λc=>decide (c.words.length<=4294967295))=true then some (⟨na.map xk,bs.map Rd.words,nd⟩,⟨0,0⟩) else none
def Vo (fu:Nat) (l:List va):Option (Ti×Vd):=
  (Xq fu l).bind λf =>
  if f.Te≠0 then some (⟨[],[],0⟩,f) else
  if l.length<=4294967295 then (hK fu l).bind KD else none
def Jx  (p_1:List Int) (p_2:List Int):Option Bool :=
  if (p_1.length:Int)<=(p_2.length:Int) then
    (cut p_2 0 (p_1.length:Int)).bind λa =>
    (Wv p_1 a).bind λb =>
    some b
  else
    some false
def Hv (b:Int) (c:List va) (a:va) (d:Int->(List va)->Option Bool) (e:Int):Option Bool :=
  (Et 1099511627776 c [(va.mk a.Kind a.Name (Qa.mk a.Cb.Kind a.Cb.xc) (Qa.mk a.cd.Kind a.cd.xc) e a.Params a.Body)]).bind λf =>
  (i64 (b+1)).bind λg =>
  d g f
def Pp (p_2:Int) (b:Int) (c:List va) (a:va) (d:Int->(List va)->Option Bool) (e:Bool):Option Bool :=
  if e=true then
    some true
  else
    (i64 (a.Ie+p_2)).bind λf =>
    Hv b c a d f
def Iv (a:Ti×Vd) (b:Ti×Vd):Nat->Int->Option Bool
  | 0,_=>none
  | n+1,i188 =>
    if i188<(a.1.Mh.length:Int) then
      (at_ a.1.Mh i188).bind λc =>
      (at_ b.1.Mh i188).bind λd =>
      (Jx c.Out d.Out).bind λe =>
      if e=true then
        (i64 (i188+1)).bind λf =>
        Iv a b n f
      else
        some false
    else
      some true
def zs (a:Ti×Vd) (b:Ti×Vd) (c:Bool):Option Bool :=
  if c=true then
    if a.2.Te≠0 then
      some true
    else
      some (decide (b.2.Te≠0))
  else
    Iv a b (a.1.Mh.length+1) 0
def Ml (fu:Nat) (p_1:List va) (p_2:Int):Nat->Int->(List va)->Option Bool
  | 0,_,_=>none
  | n+1,i44,b =>
    if i44<(p_1.length:Int) then
      (at_ p_1 i44).bind λa =>
      if a.Kind=1 then
        if p_2<0 then
          Pp p_2 i44 b a (Ml fu p_1 p_2 n) true
        else
          if a.Ie<1 then
            Pp p_2 i44 b a (Ml fu p_1 p_2 n) true
          else
            if (20:Int)<p_2 then
              Pp p_2 i44 b a (Ml fu p_1 p_2 n) true
            else
              (i64 (20 - p_2)).bind λe =>
              Pp p_2 i44 b a (Ml fu p_1 p_2 n) (decide (e<a.Ie))
      else
        Hv i44 b a (Ml fu p_1 p_2 n) a.Ie
    else
      (Vo fu p_1).bind λc =>
      (Vo fu b).bind λd =>
      if c.2.Te≠0 then
        zs c d true
      else
        if d.2.Te≠0 then
          zs c d true
        else
          zs c d (decide ((c.1.Mh.length:Int)≠(d.1.Mh.length:Int)))
def Sx (fu:Nat)  (p_1:List va) (p_2:Int):Option Bool :=
  (iA fu).bind λa =>
  if a=true then
    Ml fu p_1 p_2 (p_1.length+1) 0 []
  else
    some false
end Go.Y
