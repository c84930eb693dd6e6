/- Texts of Md. -/
import Derived.Test.YthoigniombcphaaGreatDoorCXu
set_option linter.unusedSimpArgs false
set_option linter.unusedVariables false
set_option linter.unusedSectionVars false
namespace Go.Y
open Go.bc Go.Dc
structure ua where
  Kind:Int
  N:Int
  Name:List UInt8
  Kids:List ua
  deriving Inhabited,Repr
structure Wa where
  Kind:Int
  Name:List UInt8
  X:ua
  Body:List Wa
  jd:List Wa
  deriving Inhabited,Repr
def Sl {α:Type} (sz:Nat) (μ:M) (a:Option Addr) (c:Nat) (xs:List α) (g:Nat→List Value):Prop :=
  xs.length≤c∧c≤maxLen∧(xs=[]∨∃ b o,a=some ⟨b,o,none⟩∧∀ (i:Nat) (y:α),xs[i]?=some y→dd μ b (o+i*sz) (g i))
inductive Eo (μ:M):List Value→ua→Prop where
  | mk (x:ua) (a:Option Addr) (c:Nat) (g:Nat→List Value) (h:Sl 4 μ a c x.Kids g) (k:∀ (i:Nat) (y:ua),x.Kids[i]?=some y→Eo μ (g i) y) :
    Eo μ [.int .i64 x.Kind,.int .i64 x.N,S x.Name,.slice a x.Kids.length c] x
theorem Sl.Qs {α:Type} {sz:Nat} {μ:M} {a:Option Addr} {c:Nat} {xs:List α} {g:Nat→List Value} {R:List Value→α→Prop} (h:Sl sz μ a c xs g) (k:∀ (i:Nat) (y:α),xs[i]?=some y→R (g i) y):Pc sz R μ a c xs:=by
  refine ⟨h.1,h.2.1,?_⟩
  rcases h.2.2 with h | ⟨b,o,e,f⟩
  · exact .inl h
  · exact .inr ⟨b,o,e,g,fun i x d=>⟨f i x d,k i x d⟩⟩
theorem Sl.of {α:Type} {sz:Nat} {μ:M} {a:Option Addr} {c:Nat} {xs:List α} {R:List Value→α→Prop} (h:Pc sz R μ a c xs):∃ g,Sl sz μ a c xs g∧∀ (i:Nat) (y:α),xs[i]?=some y→R (g i) y:=by
  rcases h.el with e | ⟨b,o,j,g,f⟩
  · exact ⟨fun _=>[],⟨h.le,h.cap,.inl e⟩,fun i y d=>by simp [e] at d⟩
  · exact ⟨g,⟨h.le,h.cap,.inr ⟨b,o,j,fun i y d=>(f i y d).1⟩⟩,fun i y d=>(f i y d).2⟩
theorem Sl.up {α:Type} {sz:Nat} {μ na:M} {a:Option Addr} {c:Nat} {xs:List α} {g:Nat→List Value} (h:Sl sz μ a c xs g) (l:ga μ na):Sl sz na a c xs g:=by
  refine ⟨h.1,h.2.1,?_⟩
  rcases h.2.2 with h | ⟨b,o,d,e⟩
  · exact .inl h
  · exact .inr ⟨b,o,d,fun i y f=>(e i y f).up l⟩
theorem Eo.up {μ na:M} (l:ga μ na) {cs:List Value} {x:ua} (h:Eo μ cs x):Eo na cs x:=by
  induction h with
  | mk x a c g h k b=>exact .mk x a c g (h.up l) b
instance:cb ua where
  sz:=4
  pos:=by decide
  cs:=Eo
  th h:=by cases h; rfl
  up l h:=Eo.up l h
  si h:=by cases h; rfl
theorem ua.o {μ:M} {l:List Value} {x:ua} (h:cb.cs μ l x):∃ a c,l=[.int .i64 x.Kind,.int .i64 x.N,S x.Name,.slice a x.Kids.length c]∧Ka μ a c x.Kids:=by
  have b:Eo μ l x:=h
  cases b with
  | mk _ a c g d k1=>exact ⟨a,c,rfl,d.Qs k1⟩
theorem ua.i {μ:M} {l:List Value} {x:ua} (h:∃ a c,l=[.int .i64 x.Kind,.int .i64 x.N,S x.Name,.slice a x.Kids.length c]∧Ka μ a c x.Kids):cb.cs μ l x:=by
  obtain ⟨a,c,rfl,h⟩:=h
  obtain ⟨g,h,k⟩:=Sl.of h
  exact Eo.mk x a c g h k
inductive Jn (μ:M):List Value→Wa→Prop where
  | mk (x:Wa) (xa:Option Addr) (a:Nat) (a2:Option Addr) (c2:Nat) (a3:Option Addr) (c3:Nat) (g2 g3:Nat→List Value) (b:Ka μ xa a x.X.Kids)
      (c:Sl 8 μ a2 c2 x.Body g2) (d:∀ (i:Nat) (y:Wa),x.Body[i]?=some y→Jn μ (g2 i) y)
      (e:Sl 8 μ a3 c3 x.jd g3) (f:∀ (i:Nat) (y:Wa),x.jd[i]?=some y→Jn μ (g3 i) y) :
    Jn μ [.int .i64 x.Kind,S x.Name,.int .i64 x.X.Kind,.int .i64 x.X.N,S x.X.Name,.slice xa x.X.Kids.length a,.slice a2 x.Body.length c2,.slice a3 x.jd.length c3] x
theorem Jn.up {μ na:M} (l:ga μ na) {cs:List Value} {x:Wa} (h:Jn μ cs x):Jn na cs x:=by
  induction h with
  | mk x xa a a2 c2 a3 c3 g2 g3 b c g d i e f=>exact .mk x xa a a2 c2 a3 c3 g2 g3 (b.up l) (c.up l) e (d.up l) f
instance:cb Wa where
  sz:=8
  pos:=by decide
  cs:=Jn
  th h:=by cases h; rfl
  up l h:=Jn.up l h
  si h:=by cases h; rfl
theorem Wa.o {μ:M} {l:List Value} {x:Wa} (h:cb.cs μ l x):∃ xa a a2 c2 a3 c3,l=[.int .i64 x.Kind,S x.Name,.int .i64 x.X.Kind,.int .i64 x.X.N,S x.X.Name,.slice xa x.X.Kids.length a,.slice a2 x.Body.length c2,.slice a3 x.jd.length c3]∧Ka μ xa a x.X.Kids∧Ka μ a2 c2 x.Body∧Ka μ a3 c3 x.jd:=by
  have b:Jn μ l x:=h
  cases b with
  | mk _ xa a a2 c2 a3 c3 g2 g3 c d e f g=>exact ⟨xa,a,a2,c2,a3,c3,rfl,c,d.Qs e,f.Qs g⟩
theorem Wa.i {μ:M} {l:List Value} {x:Wa} (h:∃ xa a a2 c2 a3 c3,l=[.int .i64 x.Kind,S x.Name,.int .i64 x.X.Kind,.int .i64 x.X.N,S x.X.Name,.slice xa x.X.Kids.length a,.slice a2 x.Body.length c2,.slice a3 x.jd.length c3]∧Ka μ xa a x.X.Kids∧Ka μ a2 c2 x.Body∧Ka μ a3 c3 x.jd):cb.cs μ l x:=by
  obtain ⟨xa,a,a2,c2,a3,c3,rfl,d,b,c⟩:=h
  obtain ⟨g2,b,e⟩:=Sl.of b
  obtain ⟨g3,c,f⟩:=Sl.of c
  exact Jn.mk x xa a a2 c2 a3 c3 g2 g3 d b e c f
structure Ua where
  Kind:Int
  Text:List UInt8
  Eu:Int
  dd:Int
  deriving DecidableEq,Inhabited,Repr
instance:cb Ua where
  sz:=4
  pos:=by decide
  cs μ l x:=l=[.int .i64 x.Kind,S x.Text,.int .i64 x.Eu,.int .i64 x.dd]
  th h:=by obtain rfl:=h; rfl
  up le h:=by exact h
  si h:=by obtain rfl:=h; rfl
structure Vc where
  Ue:Int
  dd:Int
  deriving DecidableEq,Inhabited,Repr
structure Ya where
  Kind:Int
  Nb:List UInt8
  deriving DecidableEq,Inhabited,Repr
instance:cb Ya where
  sz:=2
  pos:=by decide
  cs μ l x:=l=[.int .i64 x.Kind,S x.Nb]
  th h:=by obtain rfl:=h; rfl
  up le h:=by exact h
  si h:=by obtain rfl:=h; rfl
structure TParam where
  Name:List UInt8
  zb:Ya
  deriving DecidableEq,Inhabited,Repr
instance:cb TParam where
  sz:=3
  pos:=by decide
  cs μ l x:=l=[S x.Name,.int .i64 x.zb.Kind,S x.zb.Nb]
  th h:=by obtain rfl:=h; rfl
  up le h:=by exact h
  si h:=by obtain rfl:=h; rfl
structure va where
  Kind:Int
  Name:List UInt8
  zb:Ya
  Hc:Ya
  oe:Int
  Params:List TParam
  Body:List Wa
  deriving Inhabited,Repr
instance:cb va where
  sz:=9
  pos:=by decide
  cs μ l x:=∃ xa a a2 c2,l=[.int .i64 x.Kind,S x.Name,.int .i64 x.zb.Kind,S x.zb.Nb,.int .i64 x.Hc.Kind,S x.Hc.Nb,.int .i64 x.oe,.slice xa x.Params.length a,.slice a2 x.Body.length c2]∧Ka μ xa a x.Params∧Ka μ a2 c2 x.Body
  th h:=by obtain ⟨xa,a,a2,c2,rfl,m1,m2⟩:=h; rfl
  up le h:=by obtain ⟨xa,a,a2,c2,rfl,m1,m2⟩:=h; exact ⟨xa,a,a2,c2,rfl,m1.up le,m2.up le⟩
  si h:=by obtain ⟨xa,a,a2,c2,rfl,m1,m2⟩:=h; rfl
theorem va.i {μ:M} {l:List Value} {x:va} (h:∃ xa a a2 c2,l=[.int .i64 x.Kind,S x.Name,.int .i64 x.zb.Kind,S x.zb.Nb,.int .i64 x.Hc.Kind,S x.Hc.Nb,.int .i64 x.oe,.slice xa x.Params.length a,.slice a2 x.Body.length c2]∧Ka μ xa a x.Params∧Ka μ a2 c2 x.Body):cb.cs μ l x:=h
structure hh where
  jJ:List UInt8
  Writer:List UInt8
  Reader:List UInt8
  deriving DecidableEq,Inhabited,Repr
instance:cb hh where
  sz:=3
  pos:=by decide
  cs μ l x:=l=[S x.jJ,S x.Writer,S x.Reader]
  th h:=by obtain rfl:=h; rfl
  up le h:=by exact h
  si h:=by obtain rfl:=h; rfl
instance:lh Ya:=⟨Dq,Dq.up⟩
instance:lh va:=⟨eo,eo.up⟩
structure Zb where
  defs:List va
  named:List (List UInt8×va)
  deriving Inhabited,Repr
structure nf where
  calls:List (List UInt8)
  Ol:List (List UInt8)
  Ak:List (List UInt8)
  deriving DecidableEq,Inhabited,Repr
instance:cb nf where
  sz:=3
  pos:=by decide
  cs μ l x:=∃ xa a a2 c2 a3 c3,l=[.slice xa x.calls.length a,.slice a2 x.Ol.length c2,.slice a3 x.Ak.length c3]∧Ka μ xa a x.calls∧Ka μ a2 c2 x.Ol∧Ka μ a3 c3 x.Ak
  th h:=by obtain ⟨xa,a,a2,c2,a3,c3,rfl,m1,m2,m3⟩:=h; rfl
  up le h:=by obtain ⟨xa,a,a2,c2,a3,c3,rfl,m1,m2,m3⟩:=h; exact ⟨xa,a,a2,c2,a3,c3,rfl,m1.up le,m2.up le,m3.up le⟩
  si h:=by obtain ⟨xa,a,a2,c2,a3,c3,rfl,m1,m2,m3⟩:=h; rfl
theorem nf.i {μ:M} {l:List Value} {x:nf} (h:∃ xa a a2 c2 a3 c3,l=[.slice xa x.calls.length a,.slice a2 x.Ol.length c2,.slice a3 x.Ak.length c3]∧Ka μ xa a x.calls∧Ka μ a2 c2 x.Ol∧Ka μ a3 c3 x.Ak):cb.cs μ l x:=h
structure pg where
  lk:List (List UInt8×Int)
  once:Bool
  deriving DecidableEq,Inhabited,Repr
instance:cb pg where
  sz:=2
  pos:=by decide
  cs μ l x:=∃ U,l=[.map (some U),.bool x.once]∧rf μ U x.lk
  th h:=by obtain ⟨U,rfl,m1⟩:=h; rfl
  up le h:=by obtain ⟨U,rfl,m1⟩:=h; exact ⟨U,rfl,m1.up le⟩
  si h:=by obtain ⟨U,rfl,m1⟩:=h; rfl
theorem pg.i {μ:M} {l:List Value} {x:pg} (h:∃ U,l=[.map (some U),.bool x.once]∧rf μ U x.lk):cb.cs μ l x:=h
structure Pf where
  boxes:List (List UInt8×Int)
  lj:List (List UInt8×Int)
  defs:List (List UInt8×va)
  deriving Inhabited,Repr
instance:lh nf:=⟨Dq,Dq.up⟩
structure zi where
  zb:Int
  oe:Int
  deriving DecidableEq,Inhabited,Repr
instance:cb zi where
  sz:=2
  pos:=by decide
  cs μ l x:=l=[.int .i64 x.zb,.int .i64 x.oe]
  th h:=by obtain rfl:=h; rfl
  up le h:=by exact h
  si h:=by obtain rfl:=h; rfl
structure Bc where
  Op:Int
  A:Int
  N:Int
  deriving DecidableEq,Inhabited,Repr
instance:cb Bc where
  sz:=3
  pos:=by decide
  cs μ l x:=l=[.int .i64 x.Op,.int .i64 x.A,.int .i64 x.N]
  th h:=by obtain rfl:=h; rfl
  up le h:=by exact h
  si h:=by obtain rfl:=h; rfl
structure Hh where
  Kind:Int
  Params:Int
  ij:List Int
  Result:Int
  Hc:Int
  Code:List Bc
  deriving DecidableEq,Inhabited,Repr
instance:cb Hh where
  sz:=6
  pos:=by decide
  cs μ l x:=∃ xa a a2 c2,l=[.int .i64 x.Kind,.int .i64 x.Params,.slice xa x.ij.length a,.int .i64 x.Result,.int .i64 x.Hc,.slice a2 x.Code.length c2]∧Ka μ xa a x.ij∧Ka μ a2 c2 x.Code
  th h:=by obtain ⟨xa,a,a2,c2,rfl,m1,m2⟩:=h; rfl
  up le h:=by obtain ⟨xa,a,a2,c2,rfl,m1,m2⟩:=h; exact ⟨xa,a,a2,c2,rfl,m1.up le,m2.up le⟩
  si h:=by obtain ⟨xa,a,a2,c2,rfl,m1,m2⟩:=h; rfl
theorem Hh.i {μ:M} {l:List Value} {x:Hh} (h:∃ xa a a2 c2,l=[.int .i64 x.Kind,.int .i64 x.Params,.slice xa x.ij.length a,.int .i64 x.Result,.int .i64 x.Hc,.slice a2 x.Code.length c2]∧Ka μ xa a x.ij∧Ka μ a2 c2 x.Code):cb.cs μ l x:=h
structure Wg where
  Hg:List zi
  Tf:List Hh
  deriving DecidableEq,Inhabited,Repr
end Go.Y
namespace Go.Y
open Go.bc Go.Dc
def zy:List UInt8:=[32,98,111,120,32,102,110,32,103,101,110,32,116,97,115,107,32,116,97,107,101,115,32,121,105,101,108,100,115,32,108,101,116,32,105,102,32,101,108,115,101,32,119,104,105,108,101,32,114,101,116,117,114,110,32,115,116,111,112,32,115,101,110,100,32,111,117,116,32,100,111,32,114,101,99,118,32,121,105,101,108,100,32,115,116,97,114,116,32,114,101,115,117,109,101,32,97,108,105,118,101,32,110,117,109,32,98,111,111,108,32,116,114,117,101,32,102,97,108,115,101,32,97,110,100,32,111,114,32,110,111,116,32]
def uk  (p_1:UInt8):Option Bool :=
  if (97:Int)≤(p_1.toNat:Int) then
    if (p_1.toNat:Int)≤122 then
      some true
    else
      some (decide ((p_1.toNat:Int)=95))
  else
    some (decide ((p_1.toNat:Int)=95))
def An  (p_1:UInt8):Option Bool :=
  if (48:Int)≤(p_1.toNat:Int) then
    some (decide ((p_1.toNat:Int)≤57))
  else
    some false
def Zl (i13:Int) (a:Int→Option Int) (b:Bool):Option Int :=
  if b=true then
    (i64 (i13+1)).bind fun i33 =>
    a i33
  else
    some i13
def Ej (p_1:List UInt8) (a:UInt8→Option Bool):Nat→Int→Option Int
  | 0,_=>none
  | n+1,i13 =>
    if i13<(p_1.length:Int) then
      (at_ p_1 i13).bind fun b =>
      (a b).bind fun c =>
      Zl i13 (Ej p_1 a n) c
    else
      Zl i13 (Ej p_1 a n) false
def qm (fu:Nat)  (p_1:List UInt8) (a:UInt8→Option Bool):Option Int :=
  Ej p_1 a fu 0
def du  (p_1:UInt8):Option Bool :=
  (uk p_1).bind fun a =>
  if a=true then
    some true
  else
    (An p_1).bind fun b =>
    some b
def ry  (p_1:UInt8):Option Bool :=
  some (decide ((p_1.toNat:Int)≠10))
def hl  (p_1:UInt8):Option Bool :=
  (uk p_1).bind fun a =>
  if a=true then
    some true
  else
    (An p_1).bind fun b =>
    some b
def gw  (p_1:List UInt8) (a:List UInt8):Option Bool :=
  if (a.length:Int)≤(p_1.length:Int) then
    (cut p_1 0 (a.length:Int)).bind fun s2 =>
    some (decide (s2=a))
  else
    some false
def eu  (p_1:List UInt8) (a:List UInt8):Option Bool :=
  (gw p_1 a).bind fun b =>
  some b
def sr (p_1:List UInt8):Nat→Int→Option (List UInt8)
  | 0,_=>none
  | n+1,i18 =>
    if i18<18 then
      (at_ [[61,61],[33,61],[60,61],[62,61],[60],[62],[61],[43],[45],[42],[47],[37],[40],[41],[123],[125],[44],[59]] i18).bind fun a =>
      (eu p_1 a).bind fun b =>
      if b=true then
        some a
      else
        (i64 (i18+1)).bind fun i46 =>
        sr p_1 n i46
    else
      some []
def Lt  (p_1:List UInt8):Option (List UInt8) :=
  sr p_1 19 0
def bm (fu:Nat) (p_1:List UInt8) (i13:Int) (b:UInt8) (a:Int→Option Int) (c:Bool):Option Int :=
  if c=true then
    (i64 (i13+1)).bind fun i35 =>
    a i35
  else
    if (b.toNat:Int)=35 then
      (cut p_1 i13 p_1.length).bind fun d =>
      (qm fu d ry).bind fun e =>
      (i64 (i13+e)).bind fun i43 =>
      a i43
    else
      some i13
def Pk (fu:Nat) (p_1:List UInt8):Nat→Int→Option Int
  | 0,_=>none
  | n+1,i13 =>
    if i13<(p_1.length:Int) then
      (at_ p_1 i13).bind fun a =>
      if (a.toNat:Int)=32 then
        bm fu p_1 i13 a (Pk fu p_1 n) (decide ((a.toNat:Int)=32))
      else
        if (a.toNat:Int)=9 then
          bm fu p_1 i13 a (Pk fu p_1 n) (decide ((a.toNat:Int)=9))
        else
          bm fu p_1 i13 a (Pk fu p_1 n) (decide ((a.toNat:Int)=10))
    else
      some i13
def rm (fu:Nat)  (p_1:List UInt8):Option Int :=
  Pk fu p_1 fu 0
def Yj (fu:Nat) (p_1:List UInt8) (U:Bool):Option Bool :=
  if U=true then
    some false
  else
    (qm fu p_1 hl).bind fun a =>
    some (decide (a=(p_1.length:Int)))
def tg (fu:Nat)  (p_1:List UInt8):Option Bool :=
  if (p_1.length:Int)<1 then
    Yj fu p_1 true
  else
    if (12:Int)<(p_1.length:Int) then
      Yj fu p_1 true
    else
      (at_ p_1 0).bind fun a =>
      (uk a).bind fun b =>
      if b=true then
        (cat [32] p_1).bind fun c =>
        (cat c [32]).bind fun d =>
        (Ds zy d).bind fun e =>
        Yj fu p_1 e
      else
        Yj fu p_1 true
def Kp (fu:Nat) (p_1:List UInt8) (i58:Int) (b:List Ua) (c:Int→(List Ua)→Option (List Ua×Vc)) (i118:Int) (a:List UInt8) (i120:Int):Option (List Ua×Vc) :=
  (app b [(Ua.mk i118 a i120 i58)]).bind fun d =>
  (i64 (i58+(a.length:Int))).bind fun i154 =>
  (cut p_1 i154 p_1.length).bind fun e =>
  (rm fu e).bind fun f =>
  (i64 (i154+f)).bind fun i161 =>
  c i161 d
def Wl (fu:Nat) (p_1:List UInt8):Nat→Int→(List Ua)→Option (List Ua×Vc)
  | 0,_,_=>none
  | n+1,i58,b =>
    if i58<(p_1.length:Int) then
      (cut p_1 i58 p_1.length).bind fun a =>
      (at_ a 0).bind fun d =>
      (uk d).bind fun f =>
      if f=true then
        (qm fu a du).bind fun g =>
        (cut a 0 g).bind fun h =>
        Kp fu p_1 i58 b (Wl fu p_1 n) 1 h 0
      else
        (An d).bind fun i =>
        if i=true then
          (qm fu a An).bind fun j =>
          (cut a 0 j).bind fun c =>
          if (15:Int)<(c.length:Int) then
            some (([]:List Ua),(Vc.mk 3 i58))
          else
            (Mo c).bind fun i140 =>
            Kp fu p_1 i58 b (Wl fu p_1 n) 2 c i140
        else
          (Lt a).bind fun e =>
          if e=[] then
            some (([]:List Ua),(Vc.mk 2 i58))
          else
            Kp fu p_1 i58 b (Wl fu p_1 n) 3 e 0
    else
      some (b,(Vc.mk 0 0))
def nt (fu:Nat)  (p_1:List UInt8):Option (List Ua×Vc) :=
  if (6000:Int)<(p_1.length:Int) then
    some (([]:List Ua),(Vc.mk 4 0))
  else
    (rm fu p_1).bind fun a =>
    Wl fu p_1 fu a []
end Go.Y
namespace Go.Y
open Go.bc Go.Dc
def Xu  (Ri:Bool):Option Int :=
  if Ri=true then
    some 2
  else
    some (-1)
def Zq (p_1:Int) (ef:Bool):Option Int :=
  if ef=true then
    some 1
  else
    if p_1≤18 then
      Xu true
    else
      Xu (decide (p_1=23))
def jt (p_1:Int) (U:Bool):Option Int :=
  if U=true then
    some 0
  else
    if p_1≤5 then
      Zq p_1 true
    else
      if p_1=21 then
        Zq p_1 true
      else
        Zq p_1 (decide (p_1=24))
def Bt  (p_1:Int):Option Int :=
  if p_1≤3 then
    jt p_1 true
  else
    jt p_1 (decide (p_1=20))
def Yu (i3:Int) (ef:Bool):Option (Int×Int) :=
  if ef=true then
    some (4,i3)
  else
    some (0,i3)
def cq  (a:Int) (b:Int):Option (Int×Int) :=
  (i64 (a+1)).bind fun i3 =>
  if (2000:Int)<i3 then
    Yu i3 true
  else
    Yu i3 (decide ((40:Int)<b))
def ot  (Le:Bool):Option Int :=
  if Le=true then
    some 7
  else
    some 0
def Im (fu:Nat) (p_1:Ya) (nb:Bool):Option Int :=
  if nb=true then
    some 1
  else
    if p_1.Kind=3 then
      (tg fu p_1.Nb).bind fun a =>
      ot (!a)
    else
      ot false
def Yk (fu:Nat)  (p_1:Ya):Option Int :=
  if p_1.Kind<1 then
    Im fu p_1 true
  else
    Im fu p_1 (decide ((3:Int)<p_1.Kind))
structure vm where
  Vg:Int→ua→Int→Option (Int×Int)
def Vi (self:vm) (b:ua) (p_3:Int):Nat→Int→Int→Option (Int×Int)
  | 0,_,_=>none
  | n+1,i72,i73 =>
    if i72<(b.Kids.length:Int) then
      (at_ b.Kids i72).bind fun c =>
      (i64 (p_3+1)).bind fun i105 =>
      (self.Vg i73 c i105).bind fun a =>
      if a.1≠0 then
        some (a.1,a.2)
      else
        (i64 (i72+1)).bind fun i111 =>
        Vi self b p_3 n i111 a.2
    else
      some (0,i73)
def Al (self:vm) (a:ua) (p_3:Int) (b:Int×Int) (c:Bool):Option (Int×Int) :=
  if c=true then
    some (5,b.2)
  else
    Vi self a p_3 (a.Kids.length+1) 0 b.2
def Bl (self:vm) (a:ua) (p_3:Int) (b:Int×Int) (d:Int) (c:Bool):Option (Int×Int) :=
  if c=true then
    Al self a p_3 b c
  else
    if d<0 then
      Al self a p_3 b (decide ((6:Int)<(a.Kids.length:Int)))
    else
      Al self a p_3 b false
def sk (self:vm) (b:ua) (p_3:Int) (c:Int×Int) (a:Int) (d:Bool):Option (Int×Int) :=
  if d=true then
    some (7,c.2)
  else
    if (0:Int)≤a then
      Bl self b p_3 c a (decide ((b.Kids.length:Int)≠a))
    else
      Bl self b p_3 c a false
def Qk (fu:Nat) (self:vm) (a:ua) (p_3:Int) (b:Int×Int) (c:Int) (d:Bool):Option (Int×Int) :=
  if d=true then
    some (3,b.2)
  else
    if a.Kind=3 then
      (tg fu a.Name).bind fun e =>
      sk self a p_3 b c (!e)
    else
      if a.Kind=20 then
        (tg fu a.Name).bind fun f =>
        sk self a p_3 b c (!f)
      else
        if c<0 then
          (tg fu a.Name).bind fun g =>
          sk self a p_3 b c (!g)
        else
          sk self a p_3 b c false
def Cl (fu:Nat) (self:vm) (a:ua) (p_3:Int) (b:Int×Int) (c:Int) (d:Bool):Option (Int×Int) :=
  if d=true then
    Qk fu self a p_3 b c d
  else
    if a.Kind=2 then
      if a.N≠0 then
        Qk fu self a p_3 b c (decide (a.N≠1))
      else
        Qk fu self a p_3 b c false
    else
      Qk fu self a p_3 b c false
def Zj (fu:Nat) (self:vm) (a:ua) (p_3:Int) (b:Int×Int) (Lg:Bool):Option (Int×Int) :=
  if Lg=true then
    some (1,b.2)
  else
    (Bt a.Kind).bind fun c =>
    if a.Kind=1 then
      if a.N<0 then
        Cl fu self a p_3 b c true
      else
        Cl fu self a p_3 b c (decide ((999999999999999:Int)<a.N))
    else
      Cl fu self a p_3 b c false
def Vg (fu:Nat) (self:vm) (c:Int) (b:ua) (p_3:Int):Option (Int×Int) :=
  (cq c p_3).bind fun a =>
  if a.1≠0 then
    some (a.1,a.2)
  else
    if b.Kind<1 then
      Zj fu self b p_3 a true
    else
      Zj fu self b p_3 a (decide ((24:Int)<b.Kind))
def Nf:Nat→vm
  | 0=>⟨fun _ _ _=>none⟩
  | n+1=>⟨Vg n (Nf n)⟩
structure wm where
  Xf:Int→(List Wa)→Int→Option (Int×Int)
  Wh:Int→Wa→Int→Option (Int×Int)
def Xl (self:wm) (b:List Wa) (p_3:Int):Nat→Int→Int→Option (Int×Int)
  | 0,_,_=>none
  | n+1,i29,i30 =>
    if i29<(b.length:Int) then
      (at_ b i29).bind fun c =>
      (self.Wh i30 c p_3).bind fun a =>
      if a.1≠0 then
        some (a.1,a.2)
      else
        (i64 (i29+1)).bind fun i76 =>
        Xl self b p_3 n i76 a.2
    else
      some (0,i30)
def Xf (self:wm) (b:Int) (a:List Wa) (p_3:Int):Option (Int×Int) :=
  if (50:Int)<(a.length:Int) then
    some (5,b)
  else
    Xl self a p_3 (a.length+1) 0 b
def cm (self:wm) (a:Wa) (p_3:Int) (i48:Int):Option (Int×Int) :=
  if a.Kind=3 then
    (i64 (p_3+1)).bind fun i58 =>
    (self.Xf i48 a.jd i58).bind fun b =>
    some (b.1,b.2)
  else
    some (0,i48)
def dm (self:wm) (b:Wa) (p_3:Int) (c:Int×Int) (d:Bool):Option (Int×Int) :=
  if d=true then
    (i64 (p_3+1)).bind fun i50 =>
    (self.Xf c.2 b.Body i50).bind fun a =>
    if a.1≠0 then
      some (a.1,a.2)
    else
      cm self b p_3 a.2
  else
    cm self b p_3 c.2
def tk (fu:Nat) (self:wm) (a:Wa) (p_3:Int) (c:Int×Int) (d:Bool):Option (Int×Int) :=
  if d=true then
    some (7,c.2)
  else
    if a.Kind=6 then
      some (0,c.2)
    else
      (i64 (p_3+1)).bind fun i39 =>
      ((Nf fu).Vg c.2 a.X i39).bind fun b =>
      if b.1≠0 then
        some (b.1,b.2)
      else
        if a.Kind=3 then
          dm self a p_3 b true
        else
          dm self a p_3 b (decide (a.Kind=4))
def Rk (fu:Nat) (self:wm) (a:Wa) (p_3:Int) (b:Int×Int) (c:Bool):Option (Int×Int) :=
  if c=true then
    some (1,b.2)
  else
    if a.Kind=1 then
      (tg fu a.Name).bind fun d =>
      tk fu self a p_3 b (!d)
    else
      if a.Kind=2 then
        (tg fu a.Name).bind fun e =>
        tk fu self a p_3 b (!e)
      else
        if a.Kind=7 then
          (tg fu a.Name).bind fun f =>
          tk fu self a p_3 b (!f)
        else
          tk fu self a p_3 b false
def Wh (fu:Nat) (self:wm) (c:Int) (b:Wa) (p_3:Int):Option (Int×Int) :=
  (cq c p_3).bind fun a =>
  if a.1≠0 then
    some (a.1,a.2)
  else
    if b.Kind<1 then
      Rk fu self b p_3 a true
    else
      Rk fu self b p_3 a (decide ((9:Int)<b.Kind))
def Of:Nat→wm
  | 0=>⟨fun _ _ _=>none,fun _ _ _=>none⟩
  | n+1=>⟨Xf (Of n),Wh n (Of n)⟩
def tr (Ke:Int×Int) (a:Bool):Option (Int×Int) :=
  if a=true then
    some (3,Ke.2)
  else
    some (0,Ke.2)
def im (fu:Nat) (a:va) (Ke:Int×Int) :Option (Int×Int) :=
  if a.Kind≠1 then
    ((Of fu).Xf Ke.2 a.Body 2).bind fun b =>
    some (b.1,b.2)
  else
    if a.oe<1 then
      tr Ke true
    else
      tr Ke (decide ((20:Int)<a.oe))
def jm (fu:Nat) (a:va) (Ke:Int×Int) :Option (Int×Int) :=
  if a.Kind≠4 then
    (Yk fu a.zb).bind fun b =>
    if b≠0 then
      some (b,Ke.2)
    else
      im fu a Ke
  else
    im fu a Ke
def Sk (fu:Nat) (a:va) (Ke:Int×Int) :Option (Int×Int) :=
  if a.Kind=3 then
    (Yk fu a.Hc).bind fun b =>
    if b≠0 then
      some (b,Ke.2)
    else
      jm fu a Ke
  else
    jm fu a Ke
def km (fu:Nat) (a:va) (Ke:Int×Int):Nat→Int→Option (Int×Int)
  | 0,_=>none
  | n+1,i47 =>
    if i47<(a.Params.length:Int) then
      (at_ a.Params i47).bind fun b =>
      (tg fu b.Name).bind fun d =>
      if d=true then
        (Yk fu b.zb).bind fun c =>
        if c≠0 then
          some (c,Ke.2)
        else
          (i64 (i47+1)).bind fun i87 =>
          km fu a Ke n i87
      else
        some (7,Ke.2)
    else
      Sk fu a Ke
def mm (fu:Nat) (a:va) (Ke:Int×Int) (b:Bool):Option (Int×Int) :=
  if b=true then
    if (6:Int)<(a.Params.length:Int) then
      some (5,Ke.2)
    else
      km fu a Ke (a.Params.length+1) 0
  else
    Sk fu a Ke
def Tk (fu:Nat) (a:va) (Ke:Int×Int) (b:Bool):Option (Int×Int) :=
  if b=true then
    some (1,Ke.2)
  else
    (tg fu a.Name).bind fun c =>
    if c=true then
      if a.Kind=2 then
        mm fu a Ke true
      else
        mm fu a Ke (decide (a.Kind=3))
    else
      some (7,Ke.2)
def xm (fu:Nat)  (b:Int) (a:va):Option (Int×Int) :=
  (cq b 1).bind fun Ke =>
  if Ke.1≠0 then
    some (Ke.1,Ke.2)
  else
    if a.Kind<1 then
      Tk fu a Ke true
    else
      Tk fu a Ke (decide ((4:Int)<a.Kind))
def Yl (fu:Nat) (p_1:List va):Nat→Int→Int→Option Vc
  | 0,_,_=>none
  | n+1,i28,i29 =>
    if i28<(p_1.length:Int) then
      (at_ p_1 i28).bind fun b =>
      (xm fu i29 b).bind fun a =>
      if a.1≠0 then
        some (Vc.mk a.1 i28)
      else
        (i64 (i28+1)).bind fun i69 =>
        Yl fu p_1 n i69 a.2
    else
      some (Vc.mk 0 0)
def Fj (fu:Nat)  (p_1:List va):Option Vc :=
  if (30:Int)<(p_1.length:Int) then
    some (Vc.mk 5 0)
  else
    Yl fu p_1 (p_1.length+1) 0 0
end Go.Y
namespace Go.Y
open Go.bc Go.Dc
def Is  (a:List Ua) (b:Int) (d:Int):Option Int :=
  if (a.length:Int)=0 then
    some b
  else
    (at_ a 0).bind fun c =>
    some c.dd
def jj  (a:List Ua) (d:Int) (e:Int) (b:List UInt8):Option Bool :=
  if (0:Int)<(a.length:Int) then
    (at_ a 0).bind fun c =>
    some (decide (c.Text=b))
  else
    some false
def kf  (a:List Ua) (b:Int) (c:Int) (d:List UInt8):Option (Bool×List Ua×Int×Int) :=
  (jj a b c d).bind fun e =>
  if e=true then
    (cut a 1 a.length).bind fun f =>
    some (true,f,b,c)
  else
    some (false,a,b,c)
def Yp (b:List (List UInt8)):Nat→Int→(List Ua)→Int→Int→Option (List Ua×Int×Int)
  | 0,_,_,_,_=>none
  | n+1,i30,c,i35,i36 =>
    if i30<(b.length:Int) then
      (at_ b i30).bind fun d =>
      (kf c i35 i36 d).bind fun a =>
      if a.1=true then
        (i64 (i30+1)).bind fun i71 =>
        Yp b n i71 a.2.1 a.2.2.1 a.2.2.2
      else
        none
    else
      some (c,i35,i36)
def Hi  (b:List Ua) (c:Int) (d:Int) (a:List (List UInt8)):Option (List Ua×Int×Int) :=
  Yp a (a.length+1) 0 b c d
def Lr (fu:Nat) (a:List Ua) (c:Int) (d:Int) (e:Bool):Option (List UInt8×List Ua×Int×Int) :=
  if e=true then
    none
  else
    (at_ a 0).bind fun b =>
    (tg fu b.Text).bind fun f =>
    if f=true then
      (cut a 1 a.length).bind fun g =>
      some (b.Text,g,c,d)
    else
      none
def jk (fu:Nat)  (a:List Ua) (b:Int) (c:Int):Option (List UInt8×List Ua×Int×Int) :=
  if (a.length:Int)=0 then
    Lr fu a b c true
  else
    (at_ a 0).bind fun d =>
    Lr fu a b c (decide (d.Kind≠1))
def ar (a:List Ua) (b:Int) (c:Int) (d:Bool):Option (Int×List Ua×Int×Int) :=
  if d=true then
    none
  else
    (at_ a 0).bind fun e =>
    (cut a 1 a.length).bind fun f =>
    some (e.Eu,f,b,c)
def Wr  (a:List Ua) (b:Int) (c:Int):Option (Int×List Ua×Int×Int) :=
  if (a.length:Int)=0 then
    ar a b c true
  else
    (at_ a 0).bind fun d =>
    ar a b c (decide (d.Kind≠2))
def Io (fu:Nat)  (d:List Ua) (e:Int) (f:Int):Option (Ya×List Ua×Int×Int) :=
  (kf d e f [110,117,109]).bind fun a =>
  if a.1=true then
    some ((Ya.mk 1 []),a.2.1,a.2.2.1,a.2.2.2)
  else
    (kf a.2.1 a.2.2.1 a.2.2.2 [98,111,111,108]).bind fun b =>
    if b.1=true then
      some ((Ya.mk 2 []),b.2.1,b.2.2.1,b.2.2.2)
    else
      (jk fu b.2.1 b.2.2.1 b.2.2.2).bind fun c =>
      some ((Ya.mk 3 c.1),c.2.1,c.2.2.1,c.2.2.2)
def br (fu:Nat) (c:List TParam) (d:(List Ua)→Int→Int→(List TParam)→Option (List TParam×List Ua×Int×Int)) (e:List Ua) (i131:Int) (i132:Int):Option (List TParam×List Ua×Int×Int) :=
  if (c.length:Int)=6 then
    none
  else
    (jk fu e i131 i132).bind fun b =>
    (Io fu b.2.1 b.2.2.1 b.2.2.2).bind fun a =>
    (app c [(TParam.mk b.1 (Ya.mk a.1.Kind a.1.Nb))]).bind fun f =>
    d a.2.1 a.2.2.1 a.2.2.2 f
def Dl (fu:Nat):Nat→(List Ua)→Int→Int→(List TParam)→Option (List TParam×List Ua×Int×Int)
  | 0,_,_,_,_=>none
  | n+1,d,i70,i71,b =>
    (kf d i70 i71 [41]).bind fun a =>
    if a.1=true then
      some (b,a.2.1,a.2.2.1,a.2.2.2)
    else
      if (0:Int)<(b.length:Int) then
        (Hi a.2.1 a.2.2.1 a.2.2.2 [[44]]).bind fun c =>
        br fu b (Dl fu n) c.1 c.2.1 c.2.2
      else
        br fu b (Dl fu n) a.2.1 a.2.2.1 a.2.2.2
def Xr (fu:Nat)  (b:List Ua) (c:Int) (d:Int):Option (List TParam×List Ua×Int×Int) :=
  (Hi b c d [[40]]).bind fun a =>
  Dl fu fu a.1 a.2.1 a.2.2 []
def Ct  :Option (List pg) :=
  some [(pg.mk (cc ([]:List (List UInt8×Int)) [111,114] 18) false),(pg.mk (cc ([]:List (List UInt8×Int)) [97,110,100] 17) false),(pg.mk (cc (cc (cc (cc (cc (cc ([]:List (List UInt8×Int)) [61,61] 11) [33,61] 12) [60] 13) [60,61] 14) [62] 15) [62,61] 16) true),(pg.mk (cc (cc ([]:List (List UInt8×Int)) [43] 6) [45] 7) false),(pg.mk (cc (cc (cc ([]:List (List UInt8×Int)) [42] 8) [47] 9) [37] 10) false)]
def Qm  (a:List Ua) (b:Int) (c:Int):Option (List Ua×Int×Int) :=
  (i64 (c+1)).bind fun i14 =>
  if (200:Int)<i14 then
    none
  else
    some (a,b,i14)
def Sm  (a:List Ua) (b:Int) (c:Int):Option (List Ua×Int×Int) :=
  (i64 (c - 1)).bind fun i12 =>
  some (a,b,i12)
end Go.Y
namespace Go.Y
open Go.bc Go.Dc
structure Yi where
  ug:(List Ua)→Int→Int→Option (ua×List Ua×Int×Int)
  ti:(List Ua)→Int→Int→Int→Option (ua×List Ua×Int×Int)
  ui:(List Ua)→Int→Int→Option (ua×List Ua×Int×Int)
  Gg:(List Ua)→Int→Int→Option (ua×List Ua×Int×Int)
  Ml:(List Ua)→Int→Int→Option (List ua×List Ua×Int×Int)
  uj:(List Ua)→Int→Int→Int→Int→Option (ua×List Ua×Int×Int)
def ug (self:Yi) (d:List Ua) (e:Int) (f:Int):Option (ua×List Ua×Int×Int) :=
  (Qm d e f).bind fun b =>
  (self.ti b.1 b.2.1 b.2.2 0).bind fun a =>
  (Sm a.2.1 a.2.2.1 a.2.2.2).bind fun c =>
  some (a.1,c.1,c.2.1,c.2.2)
def kp  (a:List Ua) (i50:Int) (i51:Int) (i52:Int) (i53:Int) (b:List UInt8) (c:List ua):Option (ua×List Ua×Int×Int) :=
  some ((ua.mk i52 i53 b c),a,i50,i51)
def pv (e:Int) (f:List pg) (a:pg) (b:Ua) (g:(List Ua)→Int→Int→Int→Int→(List UInt8)→(List ua)→Option (ua×List Ua×Int×Int)) (c:List Ua) (i217:Int) (i218:Int) (d:List ua):Option (ua×List Ua×Int×Int) :=
  (at_ f e).bind fun h =>
  if h.once=true then
    kp c i217 i218 ((vb a.lk b.Text).getD 0) 0 [] d
  else
    g c i217 i218 ((vb a.lk b.Text).getD 0) 0 [] d
def sn (self:Yi) (b:Int) (d:List pg):Nat→(List Ua)→Int→Int→Int→Int→(List UInt8)→(List ua)→Option (ua×List Ua×Int×Int)
  | 0,_,_,_,_,_,_,_=>none
  | n+1,a,i116,i117,i118,i119,e,f =>
    if (0:Int)<(a.length:Int) then
      (at_ d b).bind fun g =>
      (at_ a 0).bind fun h =>
      if ((vb g.lk h.Text).getD 0)=0 then
        kp a i116 i117 i118 i119 e f
      else
        (cut a 1 a.length).bind fun i =>
        (i64 (b+1)).bind fun i231 =>
        (self.ti i i116 i117 i231).bind fun c =>
        pv b d g h (sn self b d n) c.2.1 c.2.2.1 c.2.2.2 [(ua.mk i118 i119 e f),c.1]
    else
      kp a i116 i117 i118 i119 e f
def ti (fu:Nat) (self:Yi) (d:List Ua) (e:Int) (f:Int) (c:Int):Option (ua×List Ua×Int×Int) :=
  (Ct ).bind fun g =>
  if c=(g.length:Int) then
    (self.ui d e f).bind fun b =>
    some (b.1,b.2.1,b.2.2.1,b.2.2.2)
  else
    (i64 (c+1)).bind fun i33 =>
    (self.ti d e f i33).bind fun a =>
    sn self c g fu a.2.1 a.2.2.1 a.2.2.2 a.1.Kind a.1.N a.1.Name a.1.Kids
def ui (self:Yi) (j:List Ua) (k:Int) (l:Int):Option (ua×List Ua×Int×Int) :=
  (kf j k l [45]).bind fun a =>
  if a.1=true then
    (Qm a.2.1 a.2.2.1 a.2.2.2).bind fun f =>
    (self.ui f.1 f.2.1 f.2.2).bind fun c =>
    (Sm c.2.1 c.2.2.1 c.2.2.2).bind fun g =>
    some ((ua.mk 4 0 [] [c.1]),g.1,g.2.1,g.2.2)
  else
    (kf a.2.1 a.2.2.1 a.2.2.2 [110,111,116]).bind fun b =>
    if b.1=true then
      (Qm b.2.1 b.2.2.1 b.2.2.2).bind fun h =>
      (self.ui h.1 h.2.1 h.2.2).bind fun d =>
      (Sm d.2.1 d.2.2.1 d.2.2.2).bind fun i =>
      some ((ua.mk 5 0 [] [d.1]),i.1,i.2.1,i.2.2)
    else
      (self.Gg b.2.1 b.2.2.1 b.2.2.2).bind fun e =>
      some (e.1,e.2.1,e.2.2.1,e.2.2.2)
def Fh (fu:Nat) (self:Yi) (v:List Ua) (w:Int) (x:Int) (y:Bool):Option (ua×List Ua×Int×Int) :=
  if y=true then
    (Wr v w x).bind fun j =>
    some ((ua.mk 1 j.1 [] ([]:List ua)),j.2.1,j.2.2.1,j.2.2.2)
  else
    (kf v w x [116,114,117,101]).bind fun b =>
    if b.1=true then
      some ((ua.mk 2 1 [] ([]:List ua)),b.2.1,b.2.2.1,b.2.2.2)
    else
      (kf b.2.1 b.2.2.1 b.2.2.2 [102,97,108,115,101]).bind fun c =>
      if c.1=true then
        some ((ua.mk 2 0 [] ([]:List ua)),c.2.1,c.2.2.1,c.2.2.2)
      else
        (kf c.2.1 c.2.2.1 c.2.2.2 [40]).bind fun d =>
        if d.1=true then
          (self.ug d.2.1 d.2.2.1 d.2.2.2).bind fun k =>
          (Hi k.2.1 k.2.2.1 k.2.2.2 [[41]]).bind fun s =>
          some (k.1,s.1,s.2.1,s.2.2)
        else
          (kf d.2.1 d.2.2.1 d.2.2.2 [114,101,99,118]).bind fun e =>
          if e.1=true then
            (Hi e.2.1 e.2.2.1 e.2.2.2 [[40]]).bind fun t =>
            (jk fu t.1 t.2.1 t.2.2).bind fun l =>
            (Hi l.2.1 l.2.2.1 l.2.2.2 [[41]]).bind fun u =>
            some ((ua.mk 20 0 l.1 ([]:List ua)),u.1,u.2.1,u.2.2)
          else
            (kf e.2.1 e.2.2.1 e.2.2.2 [121,105,101,108,100]).bind fun f =>
            if f.1=true then
              (self.uj f.2.1 f.2.2.1 f.2.2.2 21 1).bind fun m =>
              some (m.1,m.2.1,m.2.2.1,m.2.2.2)
            else
              (kf f.2.1 f.2.2.1 f.2.2.2 [114,101,115,117,109,101]).bind fun g =>
              if g.1=true then
                (self.uj g.2.1 g.2.2.1 g.2.2.2 23 2).bind fun n =>
                some (n.1,n.2.1,n.2.2.1,n.2.2.2)
              else
                (kf g.2.1 g.2.2.1 g.2.2.2 [97,108,105,118,101]).bind fun h =>
                if h.1=true then
                  (self.uj h.2.1 h.2.2.1 h.2.2.2 24 1).bind fun o =>
                  some (o.1,o.2.1,o.2.2.1,o.2.2.2)
                else
                  (kf h.2.1 h.2.2.1 h.2.2.2 [115,116,97,114,116]).bind fun i =>
                  if i.1=true then
                    (jk fu i.2.1 i.2.2.1 i.2.2.2).bind fun p =>
                    (self.Ml p.2.1 p.2.2.1 p.2.2.2).bind fun q =>
                    some ((ua.mk 22 0 p.1 q.1),q.2.1,q.2.2.1,q.2.2.2)
                  else
                    (jk fu i.2.1 i.2.2.1 i.2.2.2).bind fun a =>
                    (jj a.2.1 a.2.2.1 a.2.2.2 [40]).bind fun z =>
                    if z=true then
                      (self.Ml a.2.1 a.2.2.1 a.2.2.2).bind fun r =>
                      some ((ua.mk 19 0 a.1 r.1),r.2.1,r.2.2.1,r.2.2.2)
                    else
                      some ((ua.mk 3 0 a.1 ([]:List ua)),a.2.1,a.2.2.1,a.2.2.2)
def Gg (fu:Nat) (self:Yi) (a:List Ua) (b:Int) (c:Int):Option (ua×List Ua×Int×Int) :=
  if (0:Int)<(a.length:Int) then
    (at_ a 0).bind fun d =>
    Fh fu self a b c (decide (d.Kind=2))
  else
    Fh fu self a b c false
def Mr (self:Yi) (b:List ua) (c:(List Ua)→Int→Int→(List ua)→Option (List ua×List Ua×Int×Int)) (d:List Ua) (i125:Int) (i126:Int):Option (List ua×List Ua×Int×Int) :=
  if (b.length:Int)=6 then
    none
  else
    (self.ug d i125 i126).bind fun a =>
    (app b [a.1]).bind fun e =>
    c a.2.1 a.2.2.1 a.2.2.2 e
def nm (self:Yi):Nat→(List Ua)→Int→Int→(List ua)→Option (List ua×List Ua×Int×Int)
  | 0,_,_,_,_=>none
  | n+1,d,i67,i68,b =>
    (kf d i67 i68 [41]).bind fun a =>
    if a.1=true then
      some (b,a.2.1,a.2.2.1,a.2.2.2)
    else
      if (0:Int)<(b.length:Int) then
        (Hi a.2.1 a.2.2.1 a.2.2.2 [[44]]).bind fun c =>
        Mr self b (nm self n) c.1 c.2.1 c.2.2
      else
        Mr self b (nm self n) a.2.1 a.2.2.1 a.2.2.2
def Ml (fu:Nat) (self:Yi) (b:List Ua) (c:Int) (d:Int):Option (List ua×List Ua×Int×Int) :=
  (Hi b c d [[40]]).bind fun a =>
  nm self fu a.1 a.2.1 a.2.2 []
def pt (i63:Int) (a:Int→(List Ua)→Int→Int→(List ua)→Option (ua×List Ua×Int×Int)) (b:List Ua) (i135:Int) (i136:Int) (c:List ua):Option (ua×List Ua×Int×Int) :=
  (i64 (i63+1)).bind fun i160 =>
  a i160 b i135 i136 c
def ur (self:Yi) (i63:Int) (b:List ua) (c:Int→(List Ua)→Int→Int→(List ua)→Option (ua×List Ua×Int×Int)) (d:List Ua) (i116:Int) (i117:Int):Option (ua×List Ua×Int×Int) :=
  (self.ug d i116 i117).bind fun a =>
  (app b [a.1]).bind fun e =>
  pt i63 c a.2.1 a.2.2.1 a.2.2.2 e
def Jm (self:Yi) (a:Int) (p_3:Int):Nat→Int→(List Ua)→Int→Int→(List ua)→Option (ua×List Ua×Int×Int)
  | 0,_,_,_,_,_=>none
  | n+1,i63,b,i68,i69,c =>
    if i63<p_3 then
      if (0:Int)<i63 then
        (Hi b i68 i69 [[44]]).bind fun d =>
        ur self i63 c (Jm self a p_3 n) d.1 d.2.1 d.2.2
      else
        ur self i63 c (Jm self a p_3 n) b i68 i69
    else
      (Hi b i68 i69 [[41]]).bind fun e =>
      some ((ua.mk a 0 [] c),e.1,e.2.1,e.2.2)
def uj (self:Yi) (b:List Ua) (c:Int) (d:Int) (e:Int) (p_3:Int):Option (ua×List Ua×Int×Int) :=
  (Hi b c d [[40]]).bind fun a =>
  Jm self e p_3 ((p_3 - 0).toNat+1) 0 a.1 a.2.1 a.2.2 []
def ae:Nat→Yi
  | 0=>⟨fun _ _ _=>none,fun _ _ _ _=>none,fun _ _ _=>none,fun _ _ _=>none,fun _ _ _=>none,fun _ _ _ _ _=>none⟩
  | n+1=>⟨ug (ae n),ti n (ae n),ui (ae n),Gg n (ae n),Ml n (ae n),uj (ae n)⟩
structure rq where
  vi:(List Ua)→Int→Int→Option (List Wa×List Ua×Int×Int)
  kj:(List Ua)→Int→Int→Option (Wa×List Ua×Int×Int)
def Zp (self:rq):Nat→(List Ua)→Int→Int→(List Wa)→Option (List Wa×List Ua×Int×Int)
  | 0,_,_,_,_=>none
  | n+1,e,i65,i66,c =>
    (kf e i65 i66 [125]).bind fun a =>
    if a.1=true then
      (Sm a.2.1 a.2.2.1 a.2.2.2).bind fun d =>
      some (c,d.1,d.2.1,d.2.2)
    else
      if (c.length:Int)=50 then
        none
      else
        (self.kj a.2.1 a.2.2.1 a.2.2.2).bind fun b =>
        (app c [b.1]).bind fun f =>
        Zp self n b.2.1 b.2.2.1 b.2.2.2 f
def vi (fu:Nat) (self:rq) (c:List Ua) (d:Int) (e:Int):Option (List Wa×List Ua×Int×Int) :=
  (Qm c d e).bind fun a =>
  (Hi a.1 a.2.1 a.2.2 [[123]]).bind fun b =>
  Zp self fu b.1 b.2.1 b.2.2 []
def om  (b:List Ua) (i28:Int) (i29:Int) (i30:Int) (c:List UInt8) (i33:Int) (i34:Int) (d:List UInt8) (e:List ua):Option (Wa×List Ua×Int×Int) :=
  (Hi b i28 i29 [[59]]).bind fun a =>
  some ((Wa.mk i30 c (ua.mk i33 i34 d e) ([]:List Wa) ([]:List Wa)),a.1,a.2.1,a.2.2)
def Nr (a:ua×List Ua×Int×Int) (b:List Wa×List Ua×Int×Int) (c:List Ua) (i75:Int) (i76:Int) (d:List Wa):Option (Wa×List Ua×Int×Int) :=
  some ((Wa.mk 3 [] (ua.mk a.1.Kind a.1.N a.1.Name a.1.Kids) b.1 d),c,i75,i76)
def kj (fu:Nat) (self:rq) (z:List Ua) (A:Int) (B:Int):Option (Wa×List Ua×Int×Int) :=
  (kf z A B [105,102]).bind fun a =>
  if a.1=true then
    ((ae fu).ug a.2.1 a.2.2.1 a.2.2.2).bind fun q =>
    (self.vi q.2.1 q.2.2.1 q.2.2.2).bind fun r =>
    (kf r.2.1 r.2.2.1 r.2.2.2 [101,108,115,101]).bind fun b =>
    if b.1=true then
      (self.vi b.2.1 b.2.2.1 b.2.2.2).bind fun s =>
      Nr q r s.2.1 s.2.2.1 s.2.2.2 s.1
    else
      Nr q r b.2.1 b.2.2.1 b.2.2.2 []
  else
    (kf a.2.1 a.2.2.1 a.2.2.2 [119,104,105,108,101]).bind fun c =>
    if c.1=true then
      ((ae fu).ug c.2.1 c.2.2.1 c.2.2.2).bind fun d =>
      (self.vi d.2.1 d.2.2.1 d.2.2.2).bind fun t =>
      some ((Wa.mk 4 [] (ua.mk d.1.Kind d.1.N d.1.Name d.1.Kids) t.1 ([]:List Wa)),t.2.1,t.2.2.1,t.2.2.2)
    else
      (kf c.2.1 c.2.2.1 c.2.2.2 [108,101,116]).bind fun e =>
      if e.1=true then
        (jk fu e.2.1 e.2.2.1 e.2.2.2).bind fun u =>
        (Hi u.2.1 u.2.2.1 u.2.2.2 [[61]]).bind fun x =>
        ((ae fu).ug x.1 x.2.1 x.2.2).bind fun f =>
        om f.2.1 f.2.2.1 f.2.2.2 1 u.1 f.1.Kind f.1.N f.1.Name f.1.Kids
      else
        (kf e.2.1 e.2.2.1 e.2.2.2 [114,101,116,117,114,110]).bind fun g =>
        if g.1=true then
          ((ae fu).ug g.2.1 g.2.2.1 g.2.2.2).bind fun h =>
          om h.2.1 h.2.2.1 h.2.2.2 5 [] h.1.Kind h.1.N h.1.Name h.1.Kids
        else
          (kf g.2.1 g.2.2.1 g.2.2.2 [115,116,111,112]).bind fun i =>
          if i.1=true then
            om i.2.1 i.2.2.1 i.2.2.2 6 [] 0 0 [] []
          else
            (kf i.2.1 i.2.2.1 i.2.2.2 [115,101,110,100]).bind fun j =>
            if j.1=true then
              (jk fu j.2.1 j.2.2.1 j.2.2.2).bind fun v =>
              ((ae fu).ug v.2.1 v.2.2.1 v.2.2.2).bind fun k =>
              om k.2.1 k.2.2.1 k.2.2.2 7 v.1 k.1.Kind k.1.N k.1.Name k.1.Kids
            else
              (kf j.2.1 j.2.2.1 j.2.2.2 [111,117,116]).bind fun l =>
              if l.1=true then
                ((ae fu).ug l.2.1 l.2.2.1 l.2.2.2).bind fun m =>
                om m.2.1 m.2.2.1 m.2.2.2 8 [] m.1.Kind m.1.N m.1.Name m.1.Kids
              else
                (kf l.2.1 l.2.2.1 l.2.2.2 [100,111]).bind fun n =>
                if n.1=true then
                  ((ae fu).ug n.2.1 n.2.2.1 n.2.2.2).bind fun o =>
                  om o.2.1 o.2.2.1 o.2.2.2 9 [] o.1.Kind o.1.N o.1.Name o.1.Kids
                else
                  (jk fu n.2.1 n.2.2.1 n.2.2.2).bind fun w =>
                  (Hi w.2.1 w.2.2.1 w.2.2.2 [[61]]).bind fun y =>
                  ((ae fu).ug y.1 y.2.1 y.2.2).bind fun p =>
                  om p.2.1 p.2.2.1 p.2.2.2 2 w.1 p.1.Kind p.1.N p.1.Name p.1.Kids
def tm:Nat→rq
  | 0=>⟨fun _ _ _=>none,fun _ _ _=>none⟩
  | n+1=>⟨vi n (tm n),kj n (tm n)⟩
def Yr (d:List UInt8×List Ua×Int×Int) (c:Ya×List Ua×Int×Int) (a:Int×List Ua×Int×Int) (e:Bool):Option (va×List Ua×Int×Int) :=
  if e=true then
    none
  else
    (Hi a.2.1 a.2.2.1 a.2.2.2 [[59]]).bind fun b =>
    some ((va.mk 1 d.1 (Ya.mk c.1.Kind c.1.Nb) (Ya.mk 0 []) a.1 ([]:List TParam) ([]:List Wa)),b.1,b.2.1,b.2.2)
def Ap (fu:Nat)  (u:List Ua) (v:Int) (w:Int):Option (va×List Ua×Int×Int) :=
  (Is u v w).bind fun x =>
  (kf u v w [98,111,120]).bind fun b =>
  if b.1=true then
    (jk fu b.2.1 b.2.2.1 b.2.2.2).bind fun e =>
    (Io fu e.2.1 e.2.2.1 e.2.2.2).bind fun a =>
    (Is a.2.1 a.2.2.1 a.2.2.2).bind fun y =>
    (Wr a.2.1 a.2.2.1 a.2.2.2).bind fun i =>
    if i.1<1 then
      Yr e a i true
    else
      Yr e a i (decide ((20:Int)<i.1))
  else
    (kf b.2.1 b.2.2.1 b.2.2.2 [102,110]).bind fun c =>
    if c.1=true then
      (jk fu c.2.1 c.2.2.1 c.2.2.2).bind fun j =>
      (Xr fu j.2.1 j.2.2.1 j.2.2.2).bind fun k =>
      (Io fu k.2.1 k.2.2.1 k.2.2.2).bind fun f =>
      ((tm fu).vi f.2.1 f.2.2.1 f.2.2.2).bind fun l =>
      some ((va.mk 2 j.1 (Ya.mk f.1.Kind f.1.Nb) (Ya.mk 0 []) 0 k.1 l.1),l.2.1,l.2.2.1,l.2.2.2)
    else
      (kf c.2.1 c.2.2.1 c.2.2.2 [103,101,110]).bind fun d =>
      if d.1=true then
        (jk fu d.2.1 d.2.2.1 d.2.2.2).bind fun m =>
        (Xr fu m.2.1 m.2.2.1 m.2.2.2).bind fun n =>
        (Hi n.2.1 n.2.2.1 n.2.2.2 [[116,97,107,101,115]]).bind fun s =>
        (Io fu s.1 s.2.1 s.2.2).bind fun g =>
        (Hi g.2.1 g.2.2.1 g.2.2.2 [[121,105,101,108,100,115]]).bind fun t =>
        (Io fu t.1 t.2.1 t.2.2).bind fun h =>
        ((tm fu).vi h.2.1 h.2.2.1 h.2.2.2).bind fun o =>
        some ((va.mk 3 m.1 (Ya.mk h.1.Kind h.1.Nb) (Ya.mk g.1.Kind g.1.Nb) 0 n.1 o.1),o.2.1,o.2.2.1,o.2.2.2)
      else
        (kf d.2.1 d.2.2.1 d.2.2.2 [116,97,115,107]).bind fun p =>
        if p.1=true then
          (jk fu p.2.1 p.2.2.1 p.2.2.2).bind fun q =>
          ((tm fu).vi q.2.1 q.2.2.1 q.2.2.2).bind fun r =>
          some ((va.mk 4 q.1 (Ya.mk 0 []) (Ya.mk 0 []) 0 ([]:List TParam) r.1),r.2.1,r.2.2.1,r.2.2.2)
        else
          none
end Go.Y
namespace Go.Y
open Go.bc Go.Dc
theorem UF {α:Type} {l:List Ua} {e d:Int} {k1 a:List UInt8} (i:¬ k1=a) {A B C:Bool×List Ua×Int×Int→Option α} {r:α}
    (h:(Option.bind (kf l e d k1) fun x=>if x.1=true then A x else Option.bind (kf x.2.1 x.2.2.1 x.2.2.2 a) fun y=>if y.1=true then B y else C y)=some r) :
    (Option.bind (kf l e d a) fun y=>if y.1=true then B y else Option.bind (kf y.2.1 y.2.2.1 y.2.2.2 k1) fun x=>if x.1=true then A x else C x)=some r:=by
  have key:∀ k,(jj l e d k=some false∧kf l e d k=some (false,l,e,d))∨(∃ t Ia,l=t::Ia∧t.Text=k∧kf l e d k=some (true,Ia,e,d)):=by
    intro k
    cases l with
    | nil=>first | (left; simp [jj,kf]; done) | (exfalso; simp [jj,kf] at h)
    | cons t Ia =>
      by_cases b:t.Text=k
      · right
        refine ⟨t,Ia,rfl,b,?_⟩
        have c:(0:Int)<((Ia.length+1:Nat):Int):=by omega
        have j:(1:Int)≤((Ia.length+1:Nat):Int):=by omega
        have m:cut (t::Ia) 1 ((t::Ia).length)=some Ia:=by
          unfold cut
          rw [if_pos ⟨by omega,by simpa using j,by simp⟩]
          simp
        have n:jj (t::Ia) e d k=some true:=by
          unfold jj
          rw [if_pos (by simp)]
          simp [at_,b]
        unfold kf
        rw [n,Option.bind_some]
        simp only [if_true]
        rw [m]
        rfl
      · left
        have c:(0:Int)<((Ia.length+1:Nat):Int):=by omega
        simp [kf,jj,at_,b,c]
  rcases key k1 with ⟨s1,i1⟩ | ⟨t,Ia,qa,f,i1⟩
  · rw [i1,Option.bind_some] at h
    simp only [Bool.false_eq_true,if_false] at h
    rcases key a with ⟨s2,i2⟩ | ⟨t,Ia,qa,f,i2⟩
    · rw [i2,Option.bind_some] at h ⊢
      simp only [Bool.false_eq_true,if_false] at h ⊢
      rw [i1,Option.bind_some]
      simpa using h
    · rw [i2,Option.bind_some] at h ⊢
      simp only [if_true] at h ⊢
      exact h
  · rw [i1,Option.bind_some] at h
    simp only [if_true] at h
    rcases key a with ⟨s2,i2⟩ | ⟨t2,p,g,o,i2⟩
    · rw [i2,Option.bind_some]
      simp only [Bool.false_eq_true,if_false]
      rw [i1,Option.bind_some]
      simpa using h
    · rw [qa] at g
      obtain ⟨rfl,rfl⟩:=List.cons.inj g
      exact absurd (f.symm.trans o) i
end Go.Y
namespace Go.Y
open Go.bc Go.Dc
def iw:Option Unit:=some ()
def Vw (a:List Ua×Vc) :Option (List va×Vc) :=
  some (([]:List va),a.2)
def Zu (a:(List Ua)→Int→Int→(List va)→Option (List va×Vc)) (b:List Ua) (i76:Int) (i77:Int) (c:List va):Option (List va×Vc) :=
  a b i76 i77 c
def Ww (a:Vc) :Option (List va×Vc) :=
  (iw ).bind fun b =>
  some (([]:List va),(Vc.mk a.Ue 0))
def av (a:List Ua×Vc) (b:List va) :Option (List va×Vc) :=
  (iw ).bind fun c =>
  some (b,a.2)
def fp (fu:Nat) (c:List Ua×Vc):Nat→(List Ua)→Int→Int→(List va)→Option (List va×Vc)
  | 0,_,_,_,_=>none
  | n+1,d,i42,i43,a =>
    if (0:Int)<(d.length:Int) then
      if (a.length:Int)=30 then
        none
      else
        (Ap fu d i42 i43).bind fun b =>
        (app a [b.1]).bind fun f =>
        Zu (fp fu c n) b.2.1 b.2.2.1 b.2.2.2 f
    else
      (Fj fu a).bind fun e =>
      if e.Ue≠0 then
        Ww e
      else
        av c a
def dq (fu:Nat)  (p_1:List UInt8):Option (List va×Vc) :=
  (nt fu p_1).bind fun a =>
  if a.2.Ue≠0 then
    Vw a
  else
    fp fu a fu a.1 (p_1.length:Int) 0 []
end Go.Y
namespace Go.Y
open Go.bc Go.Dc
def Km  (p_1:Ya):Option Bool :=
  some (decide (p_1.Kind≠3))
def qp  (p_1:Zb) (a:Int) (p_3:List UInt8):Option (Option va×Bool) :=
  if (vb p_1.named p_3).isSome=true then
    ((vb p_1.named p_3)).bind fun b =>
    some ((vb p_1.named p_3),decide (b.Kind=a))
  else
    some ((vb p_1.named p_3),false)
def Dt  (p_1:Zb) (a:Ya):Option Int :=
  (Km a).bind fun b =>
  if b=true then
    some 0
  else
    (qp p_1 3 a.Nb).bind fun c =>
    if c.2=true then
      some 0
    else
      some 7
def Su (p_1:Ya) (a:List UInt8):Option Ya :=
  some (Ya.mk p_1.Kind a)
def xn  (p_1:Ya):Option Ya :=
  (Km p_1).bind fun a =>
  if a=true then
    Su p_1 []
  else
    Su p_1 p_1.Nb
def fk  :Option Ya :=
  some (Ya.mk 1 [])
def Di  :Option Ya :=
  some (Ya.mk 2 [])
def Vo (a:List UInt8) (b:List (List (List UInt8×Ya))):Nat→Int→Option (Ya×Bool)
  | 0,_=>none
  | n+1,i48 =>
    if (0:Int)≤i48 then
      (at_ b i48).bind fun c =>
      if (vb c a).isSome=true then
        some (((vb c a).getD (Ya.mk 0 [])),true)
      else
        (i64 (i48 - 1)).bind fun i88 =>
        Vo a b n i88
    else
      some ((Ya.mk 0 []),false)
def xo (fu:Nat)  (c:Zb) (d:va) (a:List (List (List UInt8×Ya))) (b:List UInt8):Option (Ya×Bool) :=
  (i64 ((a.length:Int) - 1)).bind fun i27 =>
  Vo b a fu i27
structure Jj where
  Ng:Zb→va→(List (List (List UInt8×Ya)))→ua→Ya→Option Int
  dk:Zb→va→(List (List (List UInt8×Ya)))→ua→Int→Option (Option va×Int)
  Vk:Zb→va→(List (List (List UInt8×Ya)))→ua→Option (Ya×Int)
  ak:Zb→va→(List (List (List UInt8×Ya)))→ua→Option (Option va×Int)
  Gh:Zb→va→(List (List (List UInt8×Ya)))→ua→Option (Ya×Int)
def Ou  (i44:Int):Option Int :=
  some i44
def ct (a:Ya×Int) (b:Bool):Option Int :=
  if b=true then
    Ou 9
  else
    Ou a.2
def Ng (self:Jj) (c:Zb) (d:va) (e:List (List (List UInt8×Ya))) (f:ua) (p_3:Ya):Option Int :=
  (self.Gh c d e f).bind fun a =>
  if a.2=0 then
    (xn p_3).bind fun b =>
    ct a (!(Mi [(decide (a.1.Kind=b.Kind)),(decide (a.1.Nb=b.Nb))]))
  else
    ct a false
def Wo (self:Jj) (b:ua) (c:Zb) (d:va) (e:List (List (List UInt8×Ya))) (f:Option va×Bool) (a:va):Nat→Int→Option (Option va×Int)
  | 0,_=>none
  | n+1,i104 =>
    if i104<(a.Params.length:Int) then
      (at_ a.Params i104).bind fun h =>
      (at_ b.Kids i104).bind fun i =>
      (self.Ng c d e i h.zb).bind fun g =>
      if g≠0 then
        some (none,g)
      else
        (i64 (i104+1)).bind fun i158 =>
        Wo self b c d e f a n i158
    else
      some (f.1,0)
def et (self:Jj) (c:ua) (d:Zb) (e:va) (f:List (List (List UInt8×Ya))) (a:Option va×Bool) (g:Bool):Option (Option va×Int) :=
  if g=true then
    some (none,5)
  else
    (a.1).bind fun b =>
    Wo self c d e f a b (b.Params.length+1) 0
def dk (self:Jj) (c:Zb) (d:va) (e:List (List (List UInt8×Ya))) (a:ua) (p_3:Int):Option (Option va×Int) :=
  (qp c p_3 a.Name).bind fun b =>
  if b.2=true then
    (b.1).bind fun f =>
    et self a c d e b (decide ((f.Params.length:Int)≠(a.Kids.length:Int)))
  else
    some (none,7)
def Tu (a:Ya×Int) (i73:Int):Option (Ya×Int) :=
  some (a.1,i73)
def Xo (a:Ya×Int) (b:Ya×Int) (c:Bool):Option (Ya×Int) :=
  if c=true then
    Tu a 9
  else
    Tu a b.2
def Vk (self:Jj) (c:Zb) (d:va) (e:List (List (List UInt8×Ya))) (f:ua):Option (Ya×Int) :=
  (at_ f.Kids 0).bind fun g =>
  (self.Gh c d e g).bind fun a =>
  if a.2≠0 then
    some (a.1,a.2)
  else
    (at_ f.Kids 1).bind fun h =>
    (self.Gh c d e h).bind fun b =>
    if b.2=0 then
      if (Mi [(decide (a.1.Kind=b.1.Kind)),(decide (a.1.Nb=b.1.Nb))])=true then
        (Km a.1).bind fun i =>
        Xo a b (!i)
      else
        Xo a b true
    else
      Xo a b false
def ak (self:Jj) (b:Zb) (c:va) (d:List (List (List UInt8×Ya))) (e:ua):Option (Option va×Int) :=
  (self.Gh b c d e).bind fun a =>
  if a.2≠0 then
    some (none,a.2)
  else
    (Km a.1).bind fun f =>
    if f=true then
      some (none,9)
    else
      some ((vb b.named a.1.Nb),0)
def Pw  (i52:Int) (i53:Int) (a:List UInt8):Option (Ya×Int) :=
  some ((Ya.mk i53 a),i52)
def Qw  (i77:Int) (i78:Int) (a:List UInt8):Option (Ya×Int) :=
  some ((Ya.mk i78 a),i77)
def Rw  (i170:Int) (i171:Int) (a:List UInt8):Option (Ya×Int) :=
  some ((Ya.mk i171 a),i170)
def Sw  (i218:Int) (i219:Int) (a:List UInt8):Option (Ya×Int) :=
  some ((Ya.mk i219 a),i218)
def Yo (self:Jj) (a:ua) (e:Zb) (f:va) (g:List (List (List UInt8×Ya))) (h:Int) (i:List UInt8) (b:Int) (c:List UInt8):Nat→Int→Option (Ya×Int)
  | 0,_=>none
  | n+1,d =>
    if d<(a.Kids.length:Int) then
      (at_ a.Kids d).bind fun k =>
      (self.Ng e f g k (Ya.mk h i)).bind fun j =>
      if j≠0 then
        some ((Ya.mk b c),j)
      else
        (i64 (d+1)).bind fun l =>
        Yo self a e f g h i b c n l
    else
      some ((Ya.mk b c),0)
def Mp (self:Jj) (a:ua) (b:Zb) (c:va) (d:List (List (List UInt8×Ya))) (e:Int) (f:List UInt8) (g:Int) (h:List UInt8):Option (Ya×Int) :=
  Yo self a b c d e f g h (a.Kids.length+1) 0
def Zo (self:Jj) (a:ua) (c:Zb) (b:va) (d:List (List (List UInt8×Ya))) (p:Bool):Option (Ya×Int) :=
  if p=true then
    (self.Vk c b d a).bind fun q =>
    (Di ).bind fun r =>
    some (r,q.2)
  else
    if a.Kind=19 then
      (self.dk c b d a 2).bind fun f =>
      if f.2≠0 then
        (fk ).bind fun s =>
        some (s,f.2)
      else
        (f.1).bind fun t =>
        (xn t.zb).bind fun u =>
        some (u,0)
    else
      if a.Kind=20 then
        (qp c 1 a.Name).bind fun h =>
        if h.2=true then
          (h.1).bind fun v =>
          (xn v.zb).bind fun w =>
          some (w,0)
        else
          (fk ).bind fun x =>
          some (x,7)
      else
        if a.Kind=21 then
          if b.Kind≠3 then
            (fk ).bind fun y =>
            some (y,8)
          else
            (at_ a.Kids 0).bind fun z =>
            (xn b.Hc).bind fun i =>
            (self.Ng c b d z b.zb).bind fun A =>
            Rw A i.Kind i.Nb
        else
          if a.Kind=22 then
            (self.dk c b d a 3).bind fun B =>
            some ((Ya.mk 3 a.Name),B.2)
          else
            if a.Kind=23 then
              (at_ a.Kids 0).bind fun C =>
              (self.ak c b d C).bind fun g =>
              if g.2≠0 then
                (fk ).bind fun D =>
                some (D,g.2)
              else
                (g.1).bind fun j =>
                (at_ a.Kids 1).bind fun E =>
                (xn j.zb).bind fun k =>
                (self.Ng c b d E j.Hc).bind fun F =>
                Sw F k.Kind k.Nb
            else
              if a.Kind=24 then
                (at_ a.Kids 0).bind fun G =>
                (self.ak c b d G).bind fun H =>
                (Di ).bind fun K =>
                some (K,H.2)
              else
                (fk ).bind fun e =>
                (fk ).bind fun l =>
                if (17:Int)≤a.Kind then
                  (Di ).bind fun m =>
                  (Di ).bind fun n =>
                  Mp self a c b d m.Kind m.Nb n.Kind n.Nb
                else
                  if (13:Int)≤a.Kind then
                    (Di ).bind fun o =>
                    Mp self a c b d e.Kind e.Nb o.Kind o.Nb
                  else
                    Mp self a c b d e.Kind e.Nb l.Kind l.Nb
def Gh (fu:Nat) (self:Jj) (b:Zb) (c:va) (d:List (List (List UInt8×Ya))) (a:ua):Option (Ya×Int) :=
  if a.Kind=1 then
    (fk ).bind fun h =>
    some (h,0)
  else
    if a.Kind=2 then
      (Di ).bind fun i =>
      some (i,0)
    else
      if a.Kind=3 then
        (xo fu b c d a.Name).bind fun e =>
        if e.2=true then
          some (e.1,0)
        else
          (fk ).bind fun j =>
          some (j,7)
      else
        if a.Kind=4 then
          (at_ a.Kids 0).bind fun k =>
          (fk ).bind fun f =>
          (fk ).bind fun l =>
          (self.Ng b c d k l).bind fun m =>
          Pw m f.Kind f.Nb
        else
          if a.Kind=5 then
            (at_ a.Kids 0).bind fun n =>
            (Di ).bind fun g =>
            (Di ).bind fun o =>
            (self.Ng b c d n o).bind fun p =>
            Qw p g.Kind g.Nb
          else
            if a.Kind=11 then
              Zo self a b c d (decide (a.Kind=11))
            else
              Zo self a b c d (decide (a.Kind=12))
def Sf:Nat→Jj
  | 0=>⟨fun _ _ _ _ _=>none,fun _ _ _ _ _=>none,fun _ _ _ _=>none,fun _ _ _ _=>none,fun _ _ _ _=>none⟩
  | n+1=>⟨Ng (Sf n),dk (Sf n),Vk (Sf n),ak (Sf n),Gh n (Sf n)⟩
end Go.Y
namespace Go.Y
open Go.bc Go.Dc
def cv  (a:List (List (List UInt8×Ya))):Option (List (List (List UInt8×Ya))) :=
  some a
def tp  (c:Zb) (d:va) (a:List (List (List UInt8×Ya))):Option (List (List (List UInt8×Ya))) :=
  (i64 ((a.length:Int) - 1)).bind fun i33 =>
  (cut a 0 i33).bind fun b =>
  cv b
structure Ln where
  sj:Zb→va→(List (List (List UInt8×Ya)))→(List Wa)→Option (Int×List (List (List UInt8×Ya)))
  Wk:Zb→va→(List (List (List UInt8×Ya)))→Wa→Option (Int×List (List (List UInt8×Ya)))
def To (self:Ln) (d:List Wa) (a:Zb) (b:va):Nat→Int→(List (List (List UInt8×Ya)))→Option (Int×List (List (List UInt8×Ya)))
  | 0,_,_=>none
  | n+1,i74,e =>
    if i74<(d.length:Int) then
      (at_ d i74).bind fun f =>
      (self.Wk a b e f).bind fun c =>
      if c.1≠0 then
        (tp a b c.2).bind fun g =>
        some (c.1,g)
      else
        (i64 (i74+1)).bind fun i137 =>
        To self d a b n i137 c.2
    else
      (tp a b e).bind fun h =>
      some (0,h)
def dt (self:Ln) (a:List Wa) (b:Zb) (c:va) (d:List (List (List UInt8×Ya))):Option (Int×List (List (List UInt8×Ya))) :=
  To self a b c (a.length+1) 0 d
def sj (self:Ln) (a:Zb) (b:va) (c:List (List (List UInt8×Ya))) (d:List Wa):Option (Int×List (List (List UInt8×Ya))) :=
  (app c [[]]).bind fun e =>
  dt self d a b e
def Np  (a:List (List (List UInt8×Ya))):Option (Int×List (List (List UInt8×Ya))) :=
  some (0,a)
def Nq (self:Ln) (c:Wa) (d:Zb) (e:va) (a:Int×List (List (List UInt8×Ya))) (f:Bool):Option (Int×List (List (List UInt8×Ya))) :=
  if f=true then
    some (a.1,a.2)
  else
    (self.sj d e a.2 c.jd).bind fun b =>
    some (b.1,b.2)
def Uu (a:List (List (List UInt8×Ya))) (i153:Int):Option (Int×List (List (List UInt8×Ya))) :=
  some (i153,a)
def ft (a:List (List (List UInt8×Ya))) (b:Ya×Int) (c:Bool):Option (Int×List (List (List UInt8×Ya))) :=
  if c=true then
    Uu a 9
  else
    Uu a b.2
def bp (fu:Nat) (self:Ln) (b:Wa) (d:Zb) (c:va) (a:List (List (List UInt8×Ya))) (i:Bool):Option (Int×List (List (List UInt8×Ya))) :=
  if i=true then
    (Di ).bind fun j =>
    ((Sf fu).Ng d c a b.X j).bind fun g =>
    if g≠0 then
      some (g,a)
    else
      (self.sj d c a b.Body).bind fun f =>
      if f.1≠0 then
        Nq self b d c f true
      else
        Nq self b d c f (decide (b.Kind=4))
  else
    if b.Kind=5 then
      if c.Kind≠2 then
        some (8,a)
      else
        ((Sf fu).Ng d c a b.X c.zb).bind fun k =>
        some (k,a)
    else
      if b.Kind=6 then
        if c.Kind=2 then
          some (8,a)
        else
          Np a
      else
        if b.Kind=7 then
          (qp d 1 b.Name).bind fun h =>
          if h.2=true then
            (h.1).bind fun l =>
            ((Sf fu).Ng d c a b.X l.zb).bind fun m =>
            some (m,a)
          else
            some (7,a)
        else
          if b.Kind=8 then
            ((Sf fu).Gh d c a b.X).bind fun e =>
            if e.2=0 then
              (Km e.1).bind fun n =>
              ft a e (!n)
            else
              ft a e false
          else
            if b.Kind=9 then
              ((Sf fu).Gh d c a b.X).bind fun o =>
              some (o.2,a)
            else
              Np a
def Wk (fu:Nat) (self:Ln) (c:Zb) (d:va) (a:List (List (List UInt8×Ya))) (b:Wa):Option (Int×List (List (List UInt8×Ya))) :=
  if b.Kind=1 then
    ((Sf fu).Gh c d a b.X).bind fun e =>
    if e.2≠0 then
      some (e.2,a)
    else
      (xo fu c d a b.Name).bind fun g =>
      if g.2=true then
        some (7,a)
      else
        (i64 ((a.length:Int) - 1)).bind fun i57 =>
        (at_ a i57).bind fun h =>
        Np (a.set i57.toNat (cc h b.Name e.1))
  else
    if b.Kind=2 then
      (xo fu c d a b.Name).bind fun f =>
      if f.2=true then
        ((Sf fu).Ng c d a b.X f.1).bind fun i =>
        some (i,a)
      else
        some (7,a)
    else
      if b.Kind=3 then
        bp fu self b c d a (decide (b.Kind=3))
      else
        bp fu self b c d a (decide (b.Kind=4))
def ek:Nat→Ln
  | 0=>⟨fun _ _ _ _=>none,fun _ _ _ _=>none⟩
  | n+1=>⟨sj (ek n),Wk n (ek n)⟩
def cp  (a:Bool):Option Int :=
  if a=true then
    some 9
  else
    some 0
def Oq (a:va) :Option Int :=
  if a.Kind=3 then
    (Km a.Hc).bind fun b =>
    if b=true then
      if a.Kind≠4 then
        (Km a.zb).bind fun c =>
        cp (!c)
      else
        cp false
    else
      cp true
  else
    if a.Kind≠4 then
      (Km a.zb).bind fun d =>
      cp (!d)
    else
      cp false
def Pq (p_1:Zb) (b:va):Nat→Int→(List (List UInt8×Int))→Option Int
  | 0,_,_=>none
  | n+1,i48,c =>
    if i48<(b.Params.length:Int) then
      (at_ b.Params i48).bind fun a =>
      (i64 (((vb c a.Name).getD 0)+1)).bind fun i92 =>
      if (1:Int)<((vb (cc c a.Name i92) a.Name).getD 0) then
        some 7
      else
        (Dt p_1 a.zb).bind fun d =>
        if d≠0 then
          some d
        else
          (i64 (i48+1)).bind fun i104 =>
          Pq p_1 b n i104 (cc c a.Name i92)
    else
      Oq b
def Qq (p_1:Zb) (a:va) (b:Bool):Option Int :=
  if b=true then
    Pq p_1 a (a.Params.length+1) 0 ([]:List (List UInt8×Int))
  else
    Oq a
def Pr  (p_1:Zb) (a:va):Option Int :=
  if a.Kind=2 then
    Qq p_1 a true
  else
    Qq p_1 a (decide (a.Kind=3))
def dp (fu:Nat) (p_1:Zb) (a:va) (b:List (List (List UInt8×Ya))):Option Int :=
  ((ek fu).sj p_1 a b a.Body).bind fun c =>
  some c.1
def ht (i63:Int) (a:Int→(List (List (List UInt8×Ya)))→Option Int) (b:List (List (List UInt8×Ya))):Option Int :=
  (i64 (i63+1)).bind fun i135 =>
  a i135 b
def po (fu:Nat) (p_1:Zb) (a:va):Nat→Int→(List (List (List UInt8×Ya)))→Option Int
  | 0,_,_=>none
  | n+1,i63,b =>
    if i63<(a.Params.length:Int) then
      (at_ a.Params i63).bind fun c =>
      (at_ b 0).bind fun d =>
      (xn c.zb).bind fun e =>
      ht i63 (po fu p_1 a n) (b.set (0:Int).toNat (cc d c.Name e))
    else
      dp fu p_1 a b
def yo (fu:Nat)  (p_1:Zb) (a:va):Option Int :=
  if a.Kind=1 then
    some 0
  else
    if a.Kind≠4 then
      po fu p_1 a (a.Params.length+1) 0 [([]:List (List UInt8×Ya))]
    else
      dp fu p_1 a [([]:List (List UInt8×Ya))]
def lo (fu:Nat) (p_1:List va) (a:List (List UInt8×va)):Nat→Int→Option (Zb×Vc)
  | 0,_=>none
  | n+1,b =>
    if b<(p_1.length:Int) then
      (at_ p_1 b).bind fun d =>
      (yo fu (Zb.mk p_1 a) d).bind fun c =>
      if c≠0 then
        some ((Zb.mk p_1 a),(Vc.mk c b))
      else
        (i64 (b+1)).bind fun e =>
        lo fu p_1 a n e
    else
      some ((Zb.mk p_1 a),(Vc.mk 0 0))
def mo (fu:Nat) (p_1:List va) (a:List (List UInt8×va)):Nat→Int→Option (Zb×Vc)
  | 0,_=>none
  | n+1,b =>
    if b<(p_1.length:Int) then
      (at_ p_1 b).bind fun d =>
      (Pr (Zb.mk p_1 a) d).bind fun c =>
      if c≠0 then
        some ((Zb.mk p_1 a),(Vc.mk c b))
      else
        (i64 (b+1)).bind fun e =>
        mo fu p_1 a n e
    else
      lo fu p_1 a (p_1.length+1) 0
def oo (fu:Nat) (p_1:List va):Nat→Int→Int→(List (List UInt8×va))→Option (Zb×Vc)
  | 0,_,_,_=>none
  | n+1,i94,i95,a =>
    if i95<(p_1.length:Int) then
      (at_ p_1 i95).bind fun d =>
      if (vb a d.Name).isSome=true then
        some ((Zb.mk p_1 a),(Vc.mk 7 i95))
      else
        (at_ p_1 i95).bind fun b =>
        (at_ p_1 i95).bind fun c =>
        (at_ p_1 i95).bind fun e =>
        if e.Kind=4 then
          (i64 (i94+1)).bind fun i236 =>
          (i64 (i95+1)).bind fun i238 =>
          oo fu p_1 n i236 i238 (cc a b.Name c)
        else
          (i64 (i95+1)).bind fun i240 =>
          oo fu p_1 n i94 i240 (cc a b.Name c)
    else
      if i94=0 then
        some ((Zb.mk p_1 a),(Vc.mk 6 (p_1.length:Int)))
      else
        mo fu p_1 a (p_1.length+1) 0
def lp (fu:Nat)  (p_1:List va):Option (Zb×Vc) :=
  (Fj fu p_1).bind fun a =>
  if a.Ue≠0 then
    some ((Zb.mk p_1 ([]:List (List UInt8×va))),a)
  else
    oo fu p_1 (p_1.length+1) 0 0 ([]:List (List UInt8×va))
end Go.Y
namespace Go.Y
open Go.bc Go.Dc
structure Jo where
  Fl:(List (List UInt8))→(List (List UInt8))→(List (List UInt8))→ua→Option (List (List UInt8)×List (List UInt8)×List (List UInt8))
def Rq (self:Jo) (a:ua):Nat→Int→(List (List UInt8))→(List (List UInt8))→(List (List UInt8))→Option (List (List UInt8)×List (List UInt8)×List (List UInt8))
  | 0,_,_,_,_=>none
  | n+1,i96,c,d,e =>
    if i96<(a.Kids.length:Int) then
      (at_ a.Kids i96).bind fun f =>
      (self.Fl c d e f).bind fun b =>
      (i64 (i96+1)).bind fun i162 =>
      Rq self a n i162 b.1 b.2.1 b.2.2
    else
      some (c,d,e)
def Pp (self:Jo) (a:ua) (b:List (List UInt8)) (c:List (List UInt8)) (d:List (List UInt8)):Option (List (List UInt8)×List (List UInt8)×List (List UInt8)) :=
  Rq self a (a.Kids.length+1) 0 c b d
def Vu (self:Jo) (a:ua) (b:List (List UInt8)) (c:List (List UInt8)) (d:List (List UInt8)):Option (List (List UInt8)×List (List UInt8)×List (List UInt8)) :=
  Pp self a b d c
def Wu (self:Jo) (a:List (List UInt8)) (b:ua) (c:List (List UInt8)) (d:List (List UInt8)):Option (List (List UInt8)×List (List UInt8)×List (List UInt8)) :=
  Pp self b c a d
def Sq (self:Jo) (b:List (List UInt8)) (a:ua) (c:List (List UInt8)) (d:List (List UInt8)) (e:Bool):Option (List (List UInt8)×List (List UInt8)×List (List UInt8)) :=
  if e=true then
    (app b [a.Name]).bind fun f =>
    Vu self a c d f
  else
    if a.Kind=20 then
      (app d [a.Name]).bind fun g =>
      Wu self b a c g
    else
      Pp self a c b d
def Fl (self:Jo) (b:List (List UInt8)) (c:List (List UInt8)) (d:List (List UInt8)) (a:ua):Option (List (List UInt8)×List (List UInt8)×List (List UInt8)) :=
  if a.Kind=19 then
    Sq self b a c d (decide (a.Kind=19))
  else
    Sq self b a c d (decide (a.Kind=22))
def rp:Nat→Jo
  | 0=>⟨fun _ _ _ _=>none⟩
  | n+1=>⟨Fl (rp n)⟩
structure Mn where
  bk:(List (List UInt8))→(List (List UInt8))→(List (List UInt8))→(List Wa)→Option (List (List UInt8)×List (List UInt8)×List (List UInt8))
def Jq (self:Mn) (i130:Int) (b:Wa) (c:Int→(List (List UInt8))→(List (List UInt8))→(List (List UInt8))→Option (List (List UInt8)×List (List UInt8)×List (List UInt8))) (d:List (List UInt8)) (e:List (List UInt8)) (f:List (List UInt8)):Option (List (List UInt8)×List (List UInt8)×List (List UInt8)) :=
  if b.Kind=3 then
    (self.bk d e f b.jd).bind fun a =>
    (i64 (i130+1)).bind fun g =>
    c g a.1 a.2.1 a.2.2
  else
    (i64 (i130+1)).bind fun h =>
    c h d e f
def Kq (self:Mn) (i130:Int) (a:Wa) (c:List (List UInt8)) (d:List (List UInt8)) (e:List (List UInt8)) (f:Int→(List (List UInt8))→(List (List UInt8))→(List (List UInt8))→Option (List (List UInt8)×List (List UInt8)×List (List UInt8))) (g:Bool):Option (List (List UInt8)×List (List UInt8)×List (List UInt8)) :=
  if g=true then
    (self.bk c d e a.Body).bind fun b =>
    Jq self i130 a f b.1 b.2.1 b.2.2
  else
    Jq self i130 a f c d e
def Lq (self:Mn) (i130:Int) (a:Wa) (b:Int→(List (List UInt8))→(List (List UInt8))→(List (List UInt8))→Option (List (List UInt8)×List (List UInt8)×List (List UInt8))) (c:List (List UInt8)) (d:List (List UInt8)) (e:List (List UInt8)):Option (List (List UInt8)×List (List UInt8)×List (List UInt8)) :=
  if a.Kind=3 then
    Kq self i130 a c d e b true
  else
    Kq self i130 a c d e b (decide (a.Kind=4))
def Mq (fu:Nat) (self:Mn) (i130:Int) (c:List (List UInt8)) (d:List (List UInt8)) (a:Wa) (e:Int→(List (List UInt8))→(List (List UInt8))→(List (List UInt8))→Option (List (List UInt8)×List (List UInt8)×List (List UInt8))) (f:List (List UInt8)):Option (List (List UInt8)×List (List UInt8)×List (List UInt8)) :=
  if a.Kind≠6 then
    ((rp fu).Fl c f d a.X).bind fun b =>
    Lq self i130 a e b.1 b.2.1 b.2.2
  else
    Lq self i130 a e c f d
def Pu (fu:Nat) (self:Mn) (i130:Int) (a:List (List UInt8)) (b:List (List UInt8)) (c:Wa) (d:Int→(List (List UInt8))→(List (List UInt8))→(List (List UInt8))→Option (List (List UInt8)×List (List UInt8)×List (List UInt8))) (e:List (List UInt8)):Option (List (List UInt8)×List (List UInt8)×List (List UInt8)) :=
  Mq fu self i130 a b c d e
def Xj (fu:Nat) (self:Mn) (a:List Wa):Nat→Int→(List (List UInt8))→(List (List UInt8))→(List (List UInt8))→Option (List (List UInt8)×List (List UInt8)×List (List UInt8))
  | 0,_,_,_,_=>none
  | n+1,i130,c,d,e =>
    if i130<(a.length:Int) then
      (at_ a i130).bind fun b =>
      if b.Kind=7 then
        (app d [b.Name]).bind fun f =>
        Pu fu self i130 c e b (Xj fu self a n) f
      else
        Mq fu self i130 c e b (Xj fu self a n) d
    else
      some (c,d,e)
def bk (fu:Nat) (self:Mn) (b:List (List UInt8)) (c:List (List UInt8)) (d:List (List UInt8)) (a:List Wa):Option (List (List UInt8)×List (List UInt8)×List (List UInt8)) :=
  Xj fu self a (a.length+1) 0 b c d
def vk:Nat→Mn
  | 0=>⟨fun _ _ _ _=>none⟩
  | n+1=>⟨bk n (vk n)⟩
def Lp (p_1:Zb) (a:List (List UInt8)×List (List UInt8)×List (List UInt8)) (d:List (List UInt8)) (e:List (List UInt8)) (f:(List (List UInt8))→(List (Option va))→(List (List UInt8))→(List (List UInt8))→Option nf):Nat→Int→(List (List UInt8))→(List (Option va))→Option nf
  | 0,_,_,_=>none
  | n+1,b,c,g =>
    if b<(a.1.length:Int) then
      (at_ a.1 b).bind fun h =>
      if c.contains h=true then
        (i64 (b+1)).bind fun i =>
        Lp p_1 a d e f n i c g
      else
        (app c [h]).bind fun j =>
        (app g [(vb p_1.named h)]).bind fun k =>
        (i64 (b+1)).bind fun l =>
        Lp p_1 a d e f n l j k
    else
      f c g d e
def Qu (p_1:Zb) (b:List (List UInt8)) (c:List (Option va)) (a:List (List UInt8)×List (List UInt8)×List (List UInt8)) (d:(List (List UInt8))→(List (Option va))→(List (List UInt8))→(List (List UInt8))→Option nf) (g:List (List UInt8)) (h:List (List UInt8)) (e:List (List UInt8)) (f:List (List UInt8)):Option nf :=
  Lp p_1 a e f d (a.1.length+1) 0 b c
def Uo (fu:Nat) (p_1:Zb):Nat→(List (List UInt8))→(List (Option va))→(List (List UInt8))→(List (List UInt8))→Option nf
  | 0,_,_,_,_=>none
  | n+1,e,b,c,d =>
    if (0:Int)<(b.length:Int) then
      (at_ b 0).bind fun f =>
      (cut b 1 b.length).bind fun g =>
      (f).bind fun h =>
      ((vk fu).bk ([]:List (List UInt8)) ([]:List (List UInt8)) ([]:List (List UInt8)) h.Body).bind fun a =>
      (app c a.2.1).bind fun i =>
      (app d a.2.2).bind fun j =>
      Qu p_1 e g a (Uo fu p_1 n) a.2.1 a.2.2 i j
    else
      some (nf.mk ([]:List (List UInt8)) c d)
def qv (fu:Nat)  (p_1:Zb) (a:va):Option nf :=
  Uo fu p_1 fu ([]:List (List UInt8)) ([(some a)]:List (Option va)) [] []
def Lu (i88:Int) (a:Int→(List (List UInt8×nf))→Option (List hh×Vc)) (b:List (List UInt8×nf)):Option (List hh×Vc) :=
  (i64 (i88+1)).bind fun i223 =>
  a i223 b
def Gq (a:Int) (b:List UInt8) (c:Int→(List UInt8)→(List UInt8)→Option (List hh×Vc)) (d:List UInt8):Option (List hh×Vc) :=
  (i64 (a+1)).bind fun e =>
  c e b d
def Hq (f:List (List UInt8×nf)) (g:Int) (h:va) (a:Int) (b:List UInt8) (c:va) (d:Int→(List UInt8)→(List UInt8)→Option (List hh×Vc)) (e:List UInt8):Option (List hh×Vc) :=
  if (((vb f c.Name).getD (nf.mk ([]:List (List UInt8)) ([]:List (List UInt8)) ([]:List (List UInt8)))).Ak).contains h.Name=true then
    if b≠[] then
      some (([]:List hh),(Vc.mk 8 g))
    else
      Gq a e d c.Name
  else
    Gq a e d b
def Gm (p_1:List va) (c:List (List UInt8×nf)) (a:Int) (f:List hh) (b:va) (g:Int→(List hh)→Option (List hh×Vc)):Nat→Int→(List UInt8)→(List UInt8)→Option (List hh×Vc)
  | 0,_,_,_=>none
  | n+1,d,h,i =>
    if d<(p_1.length:Int) then
      (at_ p_1 d).bind fun e =>
      if e.Kind≠4 then
        (i64 (d+1)).bind fun j =>
        Gm p_1 c a f b g n j h i
      else
        if (((vb c e.Name).getD (nf.mk ([]:List (List UInt8)) ([]:List (List UInt8)) ([]:List (List UInt8)))).Ol).contains b.Name=true then
          if h≠[] then
            some (([]:List hh),(Vc.mk 8 a))
          else
            Hq c a b d i e (Gm p_1 c a f b g n) e.Name
        else
          Hq c a b d i e (Gm p_1 c a f b g n) h
    else
      (app f [(hh.mk b.Name h i)]).bind fun k =>
      (i64 (a+1)).bind fun l =>
      g l k
def pn (p_1:List va) (b:List (List UInt8×nf)):Nat→Int→(List hh)→Option (List hh×Vc)
  | 0,_,_=>none
  | n+1,a,c =>
    if a<(p_1.length:Int) then
      (at_ p_1 a).bind fun d =>
      if d.Kind≠1 then
        (i64 (a+1)).bind fun e =>
        pn p_1 b n e c
      else
        Gm p_1 b a c d (pn p_1 b n) (p_1.length+1) 0 [] []
    else
      some (c,(Vc.mk 0 0))
def Ro (fu:Nat) (p_1:List va) (a:Zb×Vc):Nat→Int→(List (List UInt8×nf))→Option (List hh×Vc)
  | 0,_,_=>none
  | n+1,i88,b =>
    if i88<(p_1.length:Int) then
      (at_ p_1 i88).bind fun c =>
      if c.Kind=4 then
        (at_ p_1 i88).bind fun d =>
        (at_ p_1 i88).bind fun e =>
        (qv fu a.1 e).bind fun f =>
        Lu i88 (Ro fu p_1 a n) (cc b d.Name f)
      else
        (i64 (i88+1)).bind fun i225 =>
        Ro fu p_1 a n i225 b
    else
      pn p_1 b (p_1.length+1) 0 []
def cr (fu:Nat)  (p_1:List va):Option (List hh×Vc) :=
  (lp fu p_1).bind fun a =>
  if a.2.Ue≠0 then
    some (([]:List hh),a.2)
  else
    Ro fu p_1 a (p_1.length+1) 0 ([]:List (List UInt8×nf))
def qt (fu:Nat)  (p_1:List va):Option Vc :=
  (cr fu p_1).bind fun a =>
  some a.2
end Go.Y
