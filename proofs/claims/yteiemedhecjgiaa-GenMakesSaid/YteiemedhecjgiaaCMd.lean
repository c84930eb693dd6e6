/- Texts of Md. -/
import Derived.Test.YteiemedhecjgiaaCXu
set_option linter.unusedSimpArgs false
set_option linter.unusedVariables false
set_option linter.unusedSectionVars false
namespace Go.Y
open Go.pc Go.nd
structure hb where
 Kind:Int
 N:Int
 Name:List UInt8
 Kids:List hb
 deriving Inhabited,Repr
structure cb where
 Kind:Int
 Name:List UInt8
 X:hb
 Body:List cb
 Qd:List cb
 deriving Inhabited,Repr
def Sl {α:Type}(sz:Nat) (μ:M) (a:Option Addr) (c:Nat) (xs:List α) (g:Nat→List Value):Prop :=
 xs.length≤c∧c≤maxLen∧(xs=[]∨∃ b o,a=some ⟨b,o,none⟩∧∀ (i:Nat) (y:α),xs[i]?=some y→xd μ b (o+i*sz) (g i))
inductive tp (μ:M):List Value→hb→Prop where
 | mk (x:hb) (a:Option Addr) (c:Nat) (g:Nat→List Value) (h:Sl 4 μ a c x.Kids g) (k:∀ (i:Nat) (y:hb),x.Kids[i]?=some y→tp μ (g i) y) :
  tp μ [.int .i64 x.Kind,.int .i64 x.N,S x.Name,.slice a x.Kids.length c] x
theorem Sl.tl {α:Type}{sz:Nat}{μ:M}{a:Option Addr}{c:Nat}{xs:List α}{g:Nat→List Value}{R:List Value→α→Prop}(h:Sl sz μ a c xs g) (k:∀ (i:Nat) (y:α),xs[i]?=some y→R (g i) y):vd sz R μ a c xs:=by
 refine ⟨h.1,h.2.1,?_⟩;rcases h.2.2 with h | ⟨b,o,e,f⟩
 · exact .inl h
 · exact .inr ⟨b,o,e,g,fun i x d=>⟨f i x d,k i x d⟩⟩
theorem Sl.of {α:Type}{sz:Nat}{μ:M}{a:Option Addr}{c:Nat}{xs:List α}{R:List Value→α→Prop}(h:vd sz R μ a c xs):∃ g,Sl sz μ a c xs g∧∀ (i:Nat) (y:α),xs[i]?=some y→R (g i) y:=by
 rcases h.el with e | ⟨b,o,j,g,f⟩
 · exact ⟨fun _=>[],⟨h.le,h.cap,.inl e⟩,fun i y d=>by simp [e] at d⟩
 · exact ⟨g,⟨h.le,h.cap,.inr ⟨b,o,j,fun i y d=>(f i y d).1⟩⟩,fun i y d=>(f i y d).2⟩
theorem Sl.up {α:Type}{sz:Nat}{μ xa:M}{a:Option Addr}{c:Nat}{xs:List α}{g:Nat→List Value}(h:Sl sz μ a c xs g) (l:ga μ xa):Sl sz xa a c xs g:=by
 refine ⟨h.1,h.2.1,?_⟩;rcases h.2.2 with h | ⟨b,o,d,e⟩
 · exact .inl h
 · exact .inr ⟨b,o,d,fun i y f=>(e i y f).up l⟩
theorem tp.up {μ xa:M}(l:ga μ xa){cs:List Value}{x:hb}(h:tp μ cs x):tp xa cs x:=by
 induction h with
 | mk x a c g h k b=>exact .mk x a c g (h.up l) b
instance:fb hb where
 sz:=4
 pos:=by decide
 cs:=tp
 ch h:=by cases h;rfl
 up l h:=tp.up l h
 Ui h:=by cases h;rfl
theorem hb.o {μ:M}{l:List Value}{x:hb}(h:fb.cs μ l x):∃ a c,l=[.int .i64 x.Kind,.int .i64 x.N,S x.Name,.slice a x.Kids.length c]∧Ua μ a c x.Kids:=by
 have b:tp μ l x:=h;cases b with
 | mk _ a c g d Qb=>exact ⟨a,c,rfl,d.tl Qb⟩
theorem hb.i {μ:M}{l:List Value}{x:hb}(h:∃ a c,l=[.int .i64 x.Kind,.int .i64 x.N,S x.Name,.slice a x.Kids.length c]∧Ua μ a c x.Kids):fb.cs μ l x:=by
 obtain ⟨a,c,rfl,h⟩:=h;obtain ⟨g,h,k⟩:=Sl.of h;exact tp.mk x a c g h k
inductive qo (μ:M):List Value→cb→Prop where
 | mk (x:cb) (Da:Option Addr) (a:Nat) (a2:Option Addr) (c2:Nat) (a3:Option Addr) (c3:Nat) (g2 g3:Nat→List Value) (b:Ua μ Da a x.X.Kids)
   (c:Sl 8 μ a2 c2 x.Body g2) (d:∀ (i:Nat) (y:cb),x.Body[i]?=some y→qo μ (g2 i) y)
   (e:Sl 8 μ a3 c3 x.Qd g3) (f:∀ (i:Nat) (y:cb),x.Qd[i]?=some y→qo μ (g3 i) y) :
  qo μ [.int .i64 x.Kind,S x.Name,.int .i64 x.X.Kind,.int .i64 x.X.N,S x.X.Name,.slice Da x.X.Kids.length a,.slice a2 x.Body.length c2,.slice a3 x.Qd.length c3] x
theorem qo.up {μ xa:M}(l:ga μ xa){cs:List Value}{x:cb}(h:qo μ cs x):qo xa cs x:=by
 induction h with
 | mk x Da a a2 c2 a3 c3 g2 g3 b c g d i e f=>exact .mk x Da a a2 c2 a3 c3 g2 g3 (b.up l) (c.up l) e (d.up l) f
instance:fb cb where
 sz:=8
 pos:=by decide
 cs:=qo
 ch h:=by cases h;rfl
 up l h:=qo.up l h
 Ui h:=by cases h;rfl
theorem cb.o {μ:M}{l:List Value}{x:cb}(h:fb.cs μ l x):∃ Da a a2 c2 a3 c3,l=[.int .i64 x.Kind,S x.Name,.int .i64 x.X.Kind,.int .i64 x.X.N,S x.X.Name,.slice Da x.X.Kids.length a,.slice a2 x.Body.length c2,.slice a3 x.Qd.length c3]∧Ua μ Da a x.X.Kids∧Ua μ a2 c2 x.Body∧Ua μ a3 c3 x.Qd:=by
 have b:qo μ l x:=h;cases b with
 | mk _ Da a a2 c2 a3 c3 g2 g3 c d e f g=>exact ⟨Da,a,a2,c2,a3,c3,rfl,c,d.tl e,f.tl g⟩
theorem cb.i {μ:M}{l:List Value}{x:cb}(h:∃ Da a a2 c2 a3 c3,l=[.int .i64 x.Kind,S x.Name,.int .i64 x.X.Kind,.int .i64 x.X.N,S x.X.Name,.slice Da x.X.Kids.length a,.slice a2 x.Body.length c2,.slice a3 x.Qd.length c3]∧Ua μ Da a x.X.Kids∧Ua μ a2 c2 x.Body∧Ua μ a3 c3 x.Qd):fb.cs μ l x:=by
 obtain ⟨Da,a,a2,c2,a3,c3,rfl,d,b,c⟩:=h;obtain ⟨g2,b,e⟩:=Sl.of b;obtain ⟨g3,c,f⟩:=Sl.of c;exact qo.mk x Da a a2 c2 a3 c3 g2 g3 d b e c f
structure Oc where
 gg:Int
 xd:Int
 deriving DecidableEq,Inhabited,Repr
structure pb where
 Kind:Int
 Pa:List UInt8
 deriving DecidableEq,Inhabited,Repr
instance:fb pb where
 sz:=2
 pos:=by decide
 cs μ l x:=l=[.int .i64 x.Kind,S x.Pa]
 ch h:=by obtain rfl:=h;rfl
 up le h:=by exact h
 Ui h:=by obtain rfl:=h;rfl
structure TParam where
 Name:List UInt8
 Ja:pb
 deriving DecidableEq,Inhabited,Repr
instance:fb TParam where
 sz:=3
 pos:=by decide
 cs μ l x:=l=[S x.Name,.int .i64 x.Ja.Kind,S x.Ja.Pa]
 ch h:=by obtain rfl:=h;rfl
 up le h:=by exact h
 Ui h:=by obtain rfl:=h;rfl
structure na where
 Kind:Int
 Name:List UInt8
 Ja:pb
 eb:pb
 oc:Int
 Params:List TParam
 Body:List cb
 deriving Inhabited,Repr
instance:fb na where
 sz:=9
 pos:=by decide
 cs μ l x:=∃ Da a a2 c2,l=[.int .i64 x.Kind,S x.Name,.int .i64 x.Ja.Kind,S x.Ja.Pa,.int .i64 x.eb.Kind,S x.eb.Pa,.int .i64 x.oc,.slice Da x.Params.length a,.slice a2 x.Body.length c2]∧Ua μ Da a x.Params∧Ua μ a2 c2 x.Body
 ch h:=by obtain ⟨Da,a,a2,c2,rfl,m1,m2⟩:=h;rfl
 up le h:=by obtain ⟨Da,a,a2,c2,rfl,m1,m2⟩:=h;exact ⟨Da,a,a2,c2,rfl,m1.up le,m2.up le⟩
 Ui h:=by obtain ⟨Da,a,a2,c2,rfl,m1,m2⟩:=h;rfl
structure pe where
 oD:List UInt8
 Writer:List UInt8
 Reader:List UInt8
 deriving DecidableEq,Inhabited,Repr
instance:fb pe where
 sz:=3
 pos:=by decide
 cs μ l x:=l=[S x.oD,S x.Writer,S x.Reader]
 ch h:=by obtain rfl:=h;rfl
 up le h:=by exact h
 Ui h:=by obtain rfl:=h;rfl
instance:Hh pb:=⟨Jr,Jr.up⟩
instance:Hh na:=⟨No,No.up⟩
structure Pb where
 defs:List na
 named:List (List UInt8×na)
 deriving Inhabited,Repr
structure uf where
 calls:List (List UInt8)
 Hj:List (List UInt8)
 hj:List (List UInt8)
 deriving DecidableEq,Inhabited,Repr
instance:fb uf where
 sz:=3
 pos:=by decide
 cs μ l x:=∃ Da a a2 c2 a3 c3,l=[.slice Da x.calls.length a,.slice a2 x.Hj.length c2,.slice a3 x.hj.length c3]∧Ua μ Da a x.calls∧Ua μ a2 c2 x.Hj∧Ua μ a3 c3 x.hj
 ch h:=by obtain ⟨Da,a,a2,c2,a3,c3,rfl,m1,m2,m3⟩:=h;rfl
 up le h:=by obtain ⟨Da,a,a2,c2,a3,c3,rfl,m1,m2,m3⟩:=h;exact ⟨Da,a,a2,c2,a3,c3,rfl,m1.up le,m2.up le,m3.up le⟩
 Ui h:=by obtain ⟨Da,a,a2,c2,a3,c3,rfl,m1,m2,m3⟩:=h;rfl
structure Jf where
 boxes:List (List UInt8×Int)
 ij:List (List UInt8×Int)
 defs:List (List UInt8×na)
 deriving Inhabited,Repr
instance:Hh uf:=⟨Jr,Jr.up⟩
structure bh where
 Ja:Int
 oc:Int
 deriving DecidableEq,Inhabited,Repr
instance:fb bh where
 sz:=2
 pos:=by decide
 cs μ l x:=l=[.int .i64 x.Ja,.int .i64 x.oc]
 ch h:=by obtain rfl:=h;rfl
 up le h:=by exact h
 Ui h:=by obtain rfl:=h;rfl
structure Oa where
 Op:Int
 A:Int
 N:Int
 deriving DecidableEq,Inhabited,Repr
instance:fb Oa where
 sz:=3
 pos:=by decide
 cs μ l x:=l=[.int .i64 x.Op,.int .i64 x.A,.int .i64 x.N]
 ch h:=by obtain rfl:=h;rfl
 up le h:=by exact h
 Ui h:=by obtain rfl:=h;rfl
structure Xf where
 Kind:Int
 Params:Int
 wi:List Int
 Result:Int
 eb:Int
 Code:List Oa
 deriving DecidableEq,Inhabited,Repr
instance:fb Xf where
 sz:=6
 pos:=by decide
 cs μ l x:=∃ Da a a2 c2,l=[.int .i64 x.Kind,.int .i64 x.Params,.slice Da x.wi.length a,.int .i64 x.Result,.int .i64 x.eb,.slice a2 x.Code.length c2]∧Ua μ Da a x.wi∧Ua μ a2 c2 x.Code
 ch h:=by obtain ⟨Da,a,a2,c2,rfl,m1,m2⟩:=h;rfl
 up le h:=by obtain ⟨Da,a,a2,c2,rfl,m1,m2⟩:=h;exact ⟨Da,a,a2,c2,rfl,m1.up le,m2.up le⟩
 Ui h:=by obtain ⟨Da,a,a2,c2,rfl,m1,m2⟩:=h;rfl
structure ug where
 Qg:List bh
 sg:List Xf
 deriving DecidableEq,Inhabited,Repr
end Go.Y
namespace Go.Y
open Go.pc Go.nd
def Am:List UInt8:=[32,98,111,120,32,102,110,32,103,101,110,32,116,97,115,107,32,116,97,107,101,115,32,121,105,101,108,100,115,32,108,101,116,32,105,102,32,101,108,115,101,32,119,104,105,108,101,32,114,101,116,117,114,110,32,115,116,111,112,32,115,101,110,100,32,111,117,116,32,100,111,32,114,101,99,118,32,121,105,101,108,100,32,115,116,97,114,116,32,114,101,115,117,109,101,32,97,108,105,118,101,32,110,117,109,32,98,111,111,108,32,116,114,117,101,32,102,97,108,115,101,32,97,110,100,32,111,114,32,110,111,116,32]
def hp  (p_1:UInt8):Option Bool :=
 if (97:Int)≤(p_1.toNat:Int) then
  if (p_1.toNat:Int)≤122 then
   some true
  else
   some (decide ((p_1.toNat:Int)=95))
 else
  some (decide ((p_1.toNat:Int)=95))
def gr  (p_1:UInt8):Option Bool :=
 if (48:Int)≤(p_1.toNat:Int) then
  some (decide ((p_1.toNat:Int)≤57))
 else
  some false
def Tn (i13:Int) (a:Int→Option Int) (b:Bool):Option Int :=
 if b=true then
  (i64 (i13+1)).bind fun i33 =>
  a i33
 else
  some i13
def Dk (p_1:List UInt8) (p_2:UInt8→Option Bool):Nat→Int→Option Int
 | 0,_=>none
 | n+1,i13 =>
  if i13<(p_1.length:Int) then
   (at_ p_1 i13).bind fun a =>
   (p_2 a).bind fun b =>
   Tn i13 (Dk p_1 p_2 n) b
  else
   Tn i13 (Dk p_1 p_2 n) false
def hr (fu:Nat)  (p_1:List UInt8) (p_2:UInt8→Option Bool):Option Int :=
 Dk p_1 p_2 fu 0
def ym  (p_1:UInt8):Option Bool :=
 (hp p_1).bind fun a =>
 if a=true then
  some true
 else
  (gr p_1).bind fun b =>
  some b
def Bk (fu:Nat) (p_1:List UInt8) (Aa:Bool):Option Bool :=
 if Aa=true then
  some false
 else
  (hr fu p_1 ym).bind fun a =>
  some (decide (a=(p_1.length:Int)))
def kh (fu:Nat)  (p_1:List UInt8):Option Bool :=
 if (p_1.length:Int)<1 then
  Bk fu p_1 true
 else
  if (12:Int)<(p_1.length:Int) then
   Bk fu p_1 true
  else
   (at_ p_1 0).bind fun a =>
   (hp a).bind fun b =>
   if b=true then
    (cat [32] p_1).bind fun c =>
    (cat c [32]).bind fun d =>
    (Zu Am d).bind fun e =>
    Bk fu p_1 e
   else
    Bk fu p_1 true
end Go.Y
namespace Go.Y
open Go.pc Go.nd
def Jv  (Ag:Bool):Option Int :=
 if Ag=true then
  some 2
 else
  some (-1)
def Cs (p_1:Int) (zf:Bool):Option Int :=
 if zf=true then
  some 1
 else
  if p_1≤18 then
   Jv true
  else
   Jv (decide (p_1=23))
def ou (p_1:Int) (Aa:Bool):Option Int :=
 if Aa=true then
  some 0
 else
  if p_1≤5 then
   Cs p_1 true
  else
   if p_1=21 then
    Cs p_1 true
   else
    Cs p_1 (decide (p_1=24))
def Hu  (p_1:Int):Option Int :=
 if p_1≤3 then
  ou p_1 true
 else
  ou p_1 (decide (p_1=20))
def Kv (i3:Int) (zf:Bool):Option (Int×Int):=
 if zf=true then
  some (4,i3)
 else
  some (0,i3)
def Vk  (a:Int) (p_2:Int):Option (Int×Int):=
 (i64 (a+1)).bind fun i3 =>
 if (2000:Int)<i3 then
  Kv i3 true
 else
  Kv i3 (decide ((40:Int)<p_2))
def wu  (Pd:Bool):Option Int :=
 if Pd=true then
  some 7
 else
  some 0
def cp (fu:Nat) (p_1:pb) (wb:Bool):Option Int :=
 if wb=true then
  some 1
 else
  if p_1.Kind=3 then
   (kh fu p_1.Pa).bind fun a =>
   wu (!a)
  else
   wu false
def cn (fu:Nat)  (p_1:pb):Option Int :=
 if p_1.Kind<1 then
  cp fu p_1 true
 else
  cp fu p_1 (decide ((3:Int)<p_1.Kind))
structure um where
 Qh:Int→hb→Int→Option (Int×Int)
def Cj (self:um) (p_2:hb) (p_3:Int):Nat→Int→Int→Option (Int×Int)
 | 0,_,_=>none
 | n+1,i72,i73 =>
  if i72<(p_2.Kids.length:Int) then
   (at_ p_2.Kids i72).bind fun b =>
   (i64 (p_3+1)).bind fun i105 =>
   (self.Qh i73 b i105).bind fun a =>
   if a.1≠0 then
    some (a.1,a.2)
   else
    (i64 (i72+1)).bind fun i111 =>
    Cj self p_2 p_3 n i111 a.2
  else
   some (0,i73)
def Lm (self:um) (p_2:hb) (p_3:Int) (a:Int×Int) (b:Bool):Option (Int×Int):=
 if b=true then
  some (5,a.2)
 else
  Cj self p_2 p_3 (p_2.Kids.length+1) 0 a.2
def Mm (self:um) (p_2:hb) (p_3:Int) (a:Int×Int) (c:Int) (b:Bool):Option (Int×Int):=
 if b=true then
  Lm self p_2 p_3 a b
 else
  if c<0 then
   Lm self p_2 p_3 a (decide ((6:Int)<(p_2.Kids.length:Int)))
  else
   Lm self p_2 p_3 a false
def zl (self:um) (p_2:hb) (p_3:Int) (b:Int×Int) (a:Int) (c:Bool):Option (Int×Int):=
 if c=true then
  some (7,b.2)
 else
  if (0:Int)≤a then
   Mm self p_2 p_3 b a (decide ((p_2.Kids.length:Int)≠a))
  else
   Mm self p_2 p_3 b a false
def nk (fu:Nat) (self:um) (p_2:hb) (p_3:Int) (a:Int×Int) (b:Int) (c:Bool):Option (Int×Int):=
 if c=true then
  some (3,a.2)
 else
  if p_2.Kind=3 then
   (kh fu p_2.Name).bind fun d =>
   zl self p_2 p_3 a b (!d)
  else
   if p_2.Kind=20 then
    (kh fu p_2.Name).bind fun e =>
    zl self p_2 p_3 a b (!e)
   else
    if b<0 then
     (kh fu p_2.Name).bind fun f =>
     zl self p_2 p_3 a b (!f)
    else
     zl self p_2 p_3 a b false
def Om (fu:Nat) (self:um) (p_2:hb) (p_3:Int) (a:Int×Int) (b:Int) (c:Bool):Option (Int×Int):=
 if c=true then
  nk fu self p_2 p_3 a b c
 else
  if p_2.Kind=2 then
   if p_2.N≠0 then
    nk fu self p_2 p_3 a b (decide (p_2.N≠1))
   else
    nk fu self p_2 p_3 a b false
  else
   nk fu self p_2 p_3 a b false
def Tk (fu:Nat) (self:um) (p_2:hb) (p_3:Int) (a:Int×Int) (Bg:Bool):Option (Int×Int):=
 if Bg=true then
  some (1,a.2)
 else
  (Hu p_2.Kind).bind fun b =>
  if p_2.Kind=1 then
   if p_2.N<0 then
    Om fu self p_2 p_3 a b true
   else
    Om fu self p_2 p_3 a b (decide ((999999999999999:Int)<p_2.N))
  else
   Om fu self p_2 p_3 a b false
def Qh (fu:Nat) (self:um) (b:Int) (p_2:hb) (p_3:Int):Option (Int×Int):=
 (Vk b p_3).bind fun a =>
 if a.1≠0 then
  some (a.1,a.2)
 else
  if p_2.Kind<1 then
   Tk fu self p_2 p_3 a true
  else
   Tk fu self p_2 p_3 a (decide ((24:Int)<p_2.Kind))
def Kg:Nat→um
 | 0=>⟨fun _ _ _=>none⟩
 | n+1=>⟨Qh n (Kg n)⟩
structure vm where
 tg:Int→(List cb)→Int→Option (Int×Int)
 ej:Int→cb→Int→Option (Int×Int)
def Nn (self:vm) (p_2:List cb) (p_3:Int):Nat→Int→Int→Option (Int×Int)
 | 0,_,_=>none
 | n+1,i29,i30 =>
  if i29<(p_2.length:Int) then
   (at_ p_2 i29).bind fun b =>
   (self.ej i30 b p_3).bind fun a =>
   if a.1≠0 then
    some (a.1,a.2)
   else
    (i64 (i29+1)).bind fun i76 =>
    Nn self p_2 p_3 n i76 a.2
  else
   some (0,i30)
def tg (self:vm) (a:Int) (p_2:List cb) (p_3:Int):Option (Int×Int):=
 if (50:Int)<(p_2.length:Int) then
  some (5,a)
 else
  Nn self p_2 p_3 (p_2.length+1) 0 a
def Un (self:vm) (p_2:cb) (p_3:Int) (i48:Int):Option (Int×Int):=
 if p_2.Kind=3 then
  (i64 (p_3+1)).bind fun i58 =>
  (self.tg i48 p_2.Qd i58).bind fun a =>
  some (a.1,a.2)
 else
  some (0,i48)
def Vn (self:vm) (p_2:cb) (p_3:Int) (b:Int×Int) (c:Bool):Option (Int×Int):=
 if c=true then
  (i64 (p_3+1)).bind fun i50 =>
  (self.tg b.2 p_2.Body i50).bind fun a =>
  if a.1≠0 then
   some (a.1,a.2)
  else
   Un self p_2 p_3 a.2
 else
  Un self p_2 p_3 b.2
def Al (fu:Nat) (self:vm) (p_2:cb) (p_3:Int) (b:Int×Int) (c:Bool):Option (Int×Int):=
 if c=true then
  some (7,b.2)
 else
  if p_2.Kind=6 then
   some (0,b.2)
  else
   (i64 (p_3+1)).bind fun i39 =>
   ((Kg fu).Qh b.2 p_2.X i39).bind fun a =>
   if a.1≠0 then
    some (a.1,a.2)
   else
    if p_2.Kind=3 then
     Vn self p_2 p_3 a true
    else
     Vn self p_2 p_3 a (decide (p_2.Kind=4))
def mm (fu:Nat) (self:vm) (p_2:cb) (p_3:Int) (a:Int×Int) (b:Bool):Option (Int×Int):=
 if b=true then
  some (1,a.2)
 else
  if p_2.Kind=1 then
   (kh fu p_2.Name).bind fun c =>
   Al fu self p_2 p_3 a (!c)
  else
   if p_2.Kind=2 then
    (kh fu p_2.Name).bind fun d =>
    Al fu self p_2 p_3 a (!d)
   else
    if p_2.Kind=7 then
     (kh fu p_2.Name).bind fun e =>
     Al fu self p_2 p_3 a (!e)
    else
     Al fu self p_2 p_3 a false
def ej (fu:Nat) (self:vm) (b:Int) (p_2:cb) (p_3:Int):Option (Int×Int):=
 (Vk b p_3).bind fun a =>
 if a.1≠0 then
  some (a.1,a.2)
 else
  if p_2.Kind<1 then
   mm fu self p_2 p_3 a true
  else
   mm fu self p_2 p_3 a (decide ((9:Int)<p_2.Kind))
def Xg:Nat→vm
 | 0=>⟨fun _ _ _=>none,fun _ _ _=>none⟩
 | n+1=>⟨tg (Xg n),ej n (Xg n)⟩
def Sq (df:Int×Int) (a:Bool):Option (Int×Int):=
 if a=true then
  some (3,df.2)
 else
  some (0,df.2)
def Yn (fu:Nat) (p_2:na) (df:Int×Int):Option (Int×Int):=
 if p_2.Kind≠1 then
  ((Xg fu).tg df.2 p_2.Body 2).bind fun a =>
  some (a.1,a.2)
 else
  if p_2.oc<1 then
   Sq df true
  else
   Sq df (decide ((20:Int)<p_2.oc))
def Zn (fu:Nat) (p_2:na) (df:Int×Int):Option (Int×Int):=
 if p_2.Kind≠4 then
  (cn fu p_2.Ja).bind fun a =>
  if a≠0 then
   some (a,df.2)
  else
   Yn fu p_2 df
 else
  Yn fu p_2 df
def om (fu:Nat) (p_2:na) (df:Int×Int):Option (Int×Int):=
 if p_2.Kind=3 then
  (cn fu p_2.eb).bind fun a =>
  if a≠0 then
   some (a,df.2)
  else
   Zn fu p_2 df
 else
  Zn fu p_2 df
def ao (fu:Nat) (p_2:na) (df:Int×Int):Nat→Int→Option (Int×Int)
 | 0,_=>none
 | n+1,i47 =>
  if i47<(p_2.Params.length:Int) then
   (at_ p_2.Params i47).bind fun a =>
   (kh fu a.Name).bind fun c =>
   if c=true then
    (cn fu a.Ja).bind fun b =>
    if b≠0 then
     some (b,df.2)
    else
     (i64 (i47+1)).bind fun i87 =>
     ao fu p_2 df n i87
   else
    some (7,df.2)
  else
   om fu p_2 df
def bo (fu:Nat) (p_2:na) (df:Int×Int) (a:Bool):Option (Int×Int):=
 if a=true then
  if (6:Int)<(p_2.Params.length:Int) then
   some (5,df.2)
  else
   ao fu p_2 df (p_2.Params.length+1) 0
 else
  om fu p_2 df
def qm (fu:Nat) (p_2:na) (df:Int×Int) (a:Bool):Option (Int×Int):=
 if a=true then
  some (1,df.2)
 else
  (kh fu p_2.Name).bind fun b =>
  if b=true then
   if p_2.Kind=2 then
    bo fu p_2 df true
   else
    bo fu p_2 df (decide (p_2.Kind=3))
  else
   some (7,df.2)
def np (fu:Nat)  (a:Int) (p_2:na):Option (Int×Int):=
 (Vk a 1).bind fun df =>
 if df.1≠0 then
  some (df.1,df.2)
 else
  if p_2.Kind<1 then
   qm fu p_2 df true
  else
   qm fu p_2 df (decide ((4:Int)<p_2.Kind))
def On (fu:Nat) (p_1:List na):Nat→Int→Int→Option Oc
 | 0,_,_=>none
 | n+1,i28,i29 =>
  if i28<(p_1.length:Int) then
   (at_ p_1 i28).bind fun b =>
   (np fu i29 b).bind fun a =>
   if a.1≠0 then
    some (Oc.mk a.1 i28)
   else
    (i64 (i28+1)).bind fun i69 =>
    On fu p_1 n i69 a.2
  else
   some (Oc.mk 0 0)
def kp (fu:Nat)  (p_1:List na):Option Oc :=
 if (30:Int)<(p_1.length:Int) then
  some (Oc.mk 5 0)
 else
  On fu p_1 (p_1.length+1) 0 0
end Go.Y
namespace Go.Y
open Go.pc Go.nd
def Tm  (p_1:pb):Option Bool :=
 some (decide (p_1.Kind≠3))
def hq  (p_1:Pb) (p_2:Int) (p_3:List UInt8):Option (Option na×Bool):=
 if (yb p_1.named p_3).isSome=true then
  ((yb p_1.named p_3)).bind fun a =>
  some ((yb p_1.named p_3),decide (a.Kind=p_2))
 else
  some ((yb p_1.named p_3),false)
def Dt  (p_1:Pb) (p_2:pb):Option Int :=
 (Tm p_2).bind fun a =>
 if a=true then
  some 0
 else
  (hq p_1 3 p_2.Pa).bind fun b =>
  if b.2=true then
   some 0
  else
   some 7
def Cv (p_1:pb) (a:List UInt8):Option pb :=
 some (pb.mk p_1.Kind a)
def ko  (p_1:pb):Option pb :=
 (Tm p_1).bind fun a =>
 if a=true then
  Cv p_1 []
 else
  Cv p_1 p_1.Pa
def Sj  :Option pb :=
 some (pb.mk 1 [])
def Gi  :Option pb :=
 some (pb.mk 2 [])
def Pn (p_2:List UInt8) (a:List (List (List UInt8×pb))):Nat→Int→Option (pb×Bool)
 | 0,_=>none
 | n+1,i48 =>
  if (0:Int)≤i48 then
   (at_ a i48).bind fun b =>
   if (yb b p_2).isSome=true then
    some (((yb b p_2).getD (pb.mk 0 [])),true)
   else
    (i64 (i48 - 1)).bind fun i88 =>
    Pn p_2 a n i88
  else
   some ((pb.mk 0 []),false)
def Wm (fu:Nat)  (b:Pb) (c:na) (a:List (List (List UInt8×pb))) (p_2:List UInt8):Option (pb×Bool):=
 (i64 ((a.length:Int) - 1)).bind fun i27 =>
 Pn p_2 a fu i27
structure Yj where
 ig:Pb→na→(List (List (List UInt8×pb)))→hb→pb→Option Int
 sj:Pb→na→(List (List (List UInt8×pb)))→hb→Int→Option (Option na×Int)
 qk:Pb→na→(List (List (List UInt8×pb)))→hb→Option (pb×Int)
 qj:Pb→na→(List (List (List UInt8×pb)))→hb→Option (Option na×Int)
 rh:Pb→na→(List (List (List UInt8×pb)))→hb→Option (pb×Int)
def yv  (i44:Int):Option Int :=
 some i44
def mu (a:pb×Int) (b:Bool):Option Int :=
 if b=true then
  yv 9
 else
  yv a.2
def ig (self:Yj) (c:Pb) (d:na) (e:List (List (List UInt8×pb))) (p_2:hb) (p_3:pb):Option Int :=
 (self.rh c d e p_2).bind fun a =>
 if a.2=0 then
  (ko p_3).bind fun b =>
  mu a (!(yi [(decide (a.1.Kind=b.Kind)),(decide (a.1.Pa=b.Pa))]))
 else
  mu a false
def Qn (self:Yj) (p_2:hb) (b:Pb) (c:na) (d:List (List (List UInt8×pb))) (e:Option na×Bool) (a:na):Nat→Int→Option (Option na×Int)
 | 0,_=>none
 | n+1,i104 =>
  if i104<(a.Params.length:Int) then
   (at_ a.Params i104).bind fun g =>
   (at_ p_2.Kids i104).bind fun h =>
   (self.ig b c d h g.Ja).bind fun f =>
   if f≠0 then
    some (none,f)
   else
    (i64 (i104+1)).bind fun i158 =>
    Qn self p_2 b c d e a n i158
  else
   some (e.1,0)
def Fq (self:Yj) (p_2:hb) (c:Pb) (d:na) (e:List (List (List UInt8×pb))) (a:Option na×Bool) (f:Bool):Option (Option na×Int):=
 if f=true then
  some (none,5)
 else
  (a.1).bind fun b =>
  Qn self p_2 c d e a b (b.Params.length+1) 0
def sj (self:Yj) (b:Pb) (c:na) (d:List (List (List UInt8×pb))) (p_2:hb) (p_3:Int):Option (Option na×Int):=
 (hq b p_3 p_2.Name).bind fun a =>
 if a.2=true then
  (a.1).bind fun e =>
  Fq self p_2 b c d a (decide ((e.Params.length:Int)≠(p_2.Kids.length:Int)))
 else
  some (none,7)
def Dv (a:pb×Int) (i73:Int):Option (pb×Int):=
 some (a.1,i73)
def Lp (a:pb×Int) (b:pb×Int) (c:Bool):Option (pb×Int):=
 if c=true then
  Dv a 9
 else
  Dv a b.2
def qk (self:Yj) (c:Pb) (d:na) (e:List (List (List UInt8×pb))) (p_2:hb):Option (pb×Int):=
 (at_ p_2.Kids 0).bind fun f =>
 (self.rh c d e f).bind fun a =>
 if a.2≠0 then
  some (a.1,a.2)
 else
  (at_ p_2.Kids 1).bind fun g =>
  (self.rh c d e g).bind fun b =>
  if b.2=0 then
   if (yi [(decide (a.1.Kind=b.1.Kind)),(decide (a.1.Pa=b.1.Pa))])=true then
    (Tm a.1).bind fun h =>
    Lp a b (!h)
   else
    Lp a b true
  else
   Lp a b false
def qj (self:Yj) (b:Pb) (c:na) (d:List (List (List UInt8×pb))) (p_2:hb):Option (Option na×Int):=
 (self.rh b c d p_2).bind fun a =>
 if a.2≠0 then
  some (none,a.2)
 else
  (Tm a.1).bind fun e =>
  if e=true then
   some (none,9)
  else
   some ((yb b.named a.1.Pa),0)
def Hx  (i52:Int) (i53:Int) (a:List UInt8):Option (pb×Int):=
 some ((pb.mk i53 a),i52)
def Ix  (i77:Int) (i78:Int) (a:List UInt8):Option (pb×Int):=
 some ((pb.mk i78 a),i77)
def Ev  (i170:Int) (i171:Int) (a:List UInt8):Option (pb×Int):=
 some ((pb.mk i171 a),i170)
def Fv  (i218:Int) (a:Int) (b:List UInt8):Option (pb×Int):=
 some ((pb.mk a b),i218)
def yl (self:Yj) (p_2:hb) (d:Pb) (e:na) (f:List (List (List UInt8×pb))) (g:Int) (h:List UInt8) (a:Int) (b:List UInt8):Nat→Int→Option (pb×Int)
 | 0,_=>none
 | n+1,c =>
  if c<(p_2.Kids.length:Int) then
   (at_ p_2.Kids c).bind fun j =>
   (self.ig d e f j (pb.mk g h)).bind fun i =>
   if i≠0 then
    some ((pb.mk a b),i)
   else
    (i64 (c+1)).bind fun k =>
    yl self p_2 d e f g h a b n k
  else
   some ((pb.mk a b),0)
def Qo (self:Yj) (p_2:hb) (a:Pb) (b:na) (c:List (List (List UInt8×pb))) (d:Int) (e:List UInt8) (f:Int) (g:List UInt8):Option (pb×Int):=
 yl self p_2 a b c d e f g (p_2.Kids.length+1) 0
def im (self:Yj) (p_2:hb) (b:Pb) (a:na) (c:List (List (List UInt8×pb))) (o:Bool):Option (pb×Int):=
 if o=true then
  (self.qk b a c p_2).bind fun p =>
  (Gi ).bind fun q =>
  some (q,p.2)
 else
  if p_2.Kind=19 then
   (self.sj b a c p_2 2).bind fun e =>
   if e.2≠0 then
    (Sj ).bind fun r =>
    some (r,e.2)
   else
    (e.1).bind fun s =>
    (ko s.Ja).bind fun t =>
    some (t,0)
  else
   if p_2.Kind=20 then
    (hq b 1 p_2.Name).bind fun g =>
    if g.2=true then
     (g.1).bind fun u =>
     (ko u.Ja).bind fun v =>
     some (v,0)
    else
     (Sj ).bind fun w =>
     some (w,7)
   else
    if p_2.Kind=21 then
     if a.Kind≠3 then
      (Sj ).bind fun x =>
      some (x,8)
     else
      (at_ p_2.Kids 0).bind fun y =>
      (ko a.eb).bind fun h =>
      (self.ig b a c y a.Ja).bind fun z =>
      Ev z h.Kind h.Pa
    else
     if p_2.Kind=22 then
      (self.sj b a c p_2 3).bind fun A =>
      some ((pb.mk 3 p_2.Name),A.2)
     else
      if p_2.Kind=23 then
       (at_ p_2.Kids 0).bind fun B =>
       (self.qj b a c B).bind fun f =>
       if f.2≠0 then
        (Sj ).bind fun C =>
        some (C,f.2)
       else
        (f.1).bind fun i =>
        (at_ p_2.Kids 1).bind fun D =>
        (ko i.Ja).bind fun j =>
        (self.ig b a c D i.eb).bind fun E =>
        Fv E j.Kind j.Pa
      else
       if p_2.Kind=24 then
        (at_ p_2.Kids 0).bind fun F =>
        (self.qj b a c F).bind fun G =>
        (Gi ).bind fun H =>
        some (H,G.2)
       else
        (Sj ).bind fun d =>
        (Sj ).bind fun k =>
        if (17:Int)≤p_2.Kind then
         (Gi ).bind fun l =>
         (Gi ).bind fun m =>
         Qo self p_2 b a c l.Kind l.Pa m.Kind m.Pa
        else
         if (13:Int)≤p_2.Kind then
          (Gi ).bind fun n =>
          Qo self p_2 b a c d.Kind d.Pa n.Kind n.Pa
         else
          Qo self p_2 b a c d.Kind d.Pa k.Kind k.Pa
def rh (fu:Nat) (self:Yj) (a:Pb) (b:na) (c:List (List (List UInt8×pb))) (p_2:hb):Option (pb×Int):=
 if p_2.Kind=1 then
  (Sj ).bind fun g =>
  some (g,0)
 else
  if p_2.Kind=2 then
   (Gi ).bind fun h =>
   some (h,0)
  else
   if p_2.Kind=3 then
    (Wm fu a b c p_2.Name).bind fun d =>
    if d.2=true then
     some (d.1,0)
    else
     (Sj ).bind fun i =>
     some (i,7)
   else
    if p_2.Kind=4 then
     (at_ p_2.Kids 0).bind fun j =>
     (Sj ).bind fun e =>
     (Sj ).bind fun k =>
     (self.ig a b c j k).bind fun l =>
     Hx l e.Kind e.Pa
    else
     if p_2.Kind=5 then
      (at_ p_2.Kids 0).bind fun m =>
      (Gi ).bind fun f =>
      (Gi ).bind fun n =>
      (self.ig a b c m n).bind fun o =>
      Ix o f.Kind f.Pa
     else
      if p_2.Kind=11 then
       im self p_2 a b c (decide (p_2.Kind=11))
      else
       im self p_2 a b c (decide (p_2.Kind=12))
def Ee:Nat→Yj
 | 0=>⟨fun _ _ _ _ _=>none,fun _ _ _ _ _=>none,fun _ _ _ _=>none,fun _ _ _ _=>none,fun _ _ _ _=>none⟩
 | n+1=>⟨ig (Ee n),sj (Ee n),qk (Ee n),qj (Ee n),rh n (Ee n)⟩
end Go.Y
namespace Go.Y
open Go.pc Go.nd
def Lv  (a:List (List (List UInt8×pb))):Option (List (List (List UInt8×pb))):=
 some a
def lp  (c:Pb) (d:na) (a:List (List (List UInt8×pb))):Option (List (List (List UInt8×pb))):=
 (i64 ((a.length:Int) - 1)).bind fun i33 =>
 (cut a 0 i33).bind fun b =>
 Lv b
structure so where
 ui:Pb→na→(List (List (List UInt8×pb)))→(List cb)→Option (Int×List (List (List UInt8×pb)))
 Qj:Pb→na→(List (List (List UInt8×pb)))→cb→Option (Int×List (List (List UInt8×pb)))
def Ln (self:so) (p_2:List cb) (a:Pb) (b:na):Nat→Int→(List (List (List UInt8×pb)))→Option (Int×List (List (List UInt8×pb)))
 | 0,_,_=>none
 | n+1,i74,d =>
  if i74<(p_2.length:Int) then
   (at_ p_2 i74).bind fun e =>
   (self.Qj a b d e).bind fun c =>
   if c.1≠0 then
    (lp a b c.2).bind fun f =>
    some (c.1,f)
   else
    (i64 (i74+1)).bind fun i137 =>
    Ln self p_2 a b n i137 c.2
  else
   (lp a b d).bind fun g =>
   some (0,g)
def Bq (self:so) (p_2:List cb) (a:Pb) (b:na) (c:List (List (List UInt8×pb))):Option (Int×List (List (List UInt8×pb))):=
 Ln self p_2 a b (p_2.length+1) 0 c
def ui (self:so) (a:Pb) (b:na) (c:List (List (List UInt8×pb))) (p_2:List cb):Option (Int×List (List (List UInt8×pb))):=
 (app c [[]]).bind fun d =>
 Bq self p_2 a b d
def Gq  (a:List (List (List UInt8×pb))):Option (Int×List (List (List UInt8×pb))):=
 some (0,a)
def Mp (self:so) (p_2:cb) (c:Pb) (d:na) (a:Int×List (List (List UInt8×pb))) (e:Bool):Option (Int×List (List (List UInt8×pb))):=
 if e=true then
  some (a.1,a.2)
 else
  (self.ui c d a.2 p_2.Qd).bind fun b =>
  some (b.1,b.2)
def Gv (a:List (List (List UInt8×pb))) (i153:Int):Option (Int×List (List (List UInt8×pb))):=
 some (i153,a)
def nu (a:List (List (List UInt8×pb))) (b:pb×Int) (c:Bool):Option (Int×List (List (List UInt8×pb))):=
 if c=true then
  Gv a 9
 else
  Gv a b.2
def jm (fu:Nat) (self:so) (p_2:cb) (c:Pb) (b:na) (a:List (List (List UInt8×pb))) (h:Bool):Option (Int×List (List (List UInt8×pb))):=
 if h=true then
  (Gi ).bind fun i =>
  ((Ee fu).ig c b a p_2.X i).bind fun f =>
  if f≠0 then
   some (f,a)
  else
   (self.ui c b a p_2.Body).bind fun e =>
   if e.1≠0 then
    Mp self p_2 c b e true
   else
    Mp self p_2 c b e (decide (p_2.Kind=4))
 else
  if p_2.Kind=5 then
   if b.Kind≠2 then
    some (8,a)
   else
    ((Ee fu).ig c b a p_2.X b.Ja).bind fun j =>
    some (j,a)
  else
   if p_2.Kind=6 then
    if b.Kind=2 then
     some (8,a)
    else
     Gq a
   else
    if p_2.Kind=7 then
     (hq c 1 p_2.Name).bind fun g =>
     if g.2=true then
      (g.1).bind fun k =>
      ((Ee fu).ig c b a p_2.X k.Ja).bind fun l =>
      some (l,a)
     else
      some (7,a)
    else
     if p_2.Kind=8 then
      ((Ee fu).rh c b a p_2.X).bind fun d =>
      if d.2=0 then
       (Tm d.1).bind fun m =>
       nu a d (!m)
      else
       nu a d false
     else
      if p_2.Kind=9 then
       ((Ee fu).rh c b a p_2.X).bind fun n =>
       some (n.2,a)
      else
       Gq a
def Qj (fu:Nat) (self:so) (b:Pb) (c:na) (a:List (List (List UInt8×pb))) (p_2:cb):Option (Int×List (List (List UInt8×pb))):=
 if p_2.Kind=1 then
  ((Ee fu).rh b c a p_2.X).bind fun d =>
  if d.2≠0 then
   some (d.2,a)
  else
   (Wm fu b c a p_2.Name).bind fun f =>
   if f.2=true then
    some (7,a)
   else
    (i64 ((a.length:Int) - 1)).bind fun i57 =>
    (at_ a i57).bind fun g =>
    Gq (a.set i57.toNat (Ue g p_2.Name d.1))
 else
  if p_2.Kind=2 then
   (Wm fu b c a p_2.Name).bind fun e =>
   if e.2=true then
    ((Ee fu).ig b c a p_2.X e.1).bind fun h =>
    some (h,a)
   else
    some (7,a)
  else
   if p_2.Kind=3 then
    jm fu self p_2 b c a (decide (p_2.Kind=3))
   else
    jm fu self p_2 b c a (decide (p_2.Kind=4))
def Xh:Nat→so
 | 0=>⟨fun _ _ _ _=>none,fun _ _ _ _=>none⟩
 | n+1=>⟨ui (Xh n),Qj n (Xh n)⟩
def Ro  (a:Bool):Option Int :=
 if a=true then
  some 9
 else
  some 0
def To (p_2:na):Option Int :=
 if p_2.Kind=3 then
  (Tm p_2.eb).bind fun a =>
  if a=true then
   if p_2.Kind≠4 then
    (Tm p_2.Ja).bind fun b =>
    Ro (!b)
   else
    Ro false
  else
   Ro true
 else
  if p_2.Kind≠4 then
   (Tm p_2.Ja).bind fun c =>
   Ro (!c)
  else
   Ro false
def Rn (p_1:Pb) (p_2:na):Nat→Int→(List (List UInt8×Int))→Option Int
 | 0,_,_=>none
 | n+1,i48,b =>
  if i48<(p_2.Params.length:Int) then
   (at_ p_2.Params i48).bind fun a =>
   (i64 (((yb b a.Name).getD 0)+1)).bind fun i92 =>
   if (1:Int)<((yb (Ue b a.Name i92) a.Name).getD 0) then
    some 7
   else
    (Dt p_1 a.Ja).bind fun c =>
    if c≠0 then
     some c
    else
     (i64 (i48+1)).bind fun i104 =>
     Rn p_1 p_2 n i104 (Ue b a.Name i92)
  else
   To p_2
def Uo (p_1:Pb) (p_2:na) (a:Bool):Option Int :=
 if a=true then
  Rn p_1 p_2 (p_2.Params.length+1) 0 ([]:List (List UInt8×Int))
 else
  To p_2
def Xm  (p_1:Pb) (p_2:na):Option Int :=
 if p_2.Kind=2 then
  Uo p_1 p_2 true
 else
  Uo p_1 p_2 (decide (p_2.Kind=3))
def Sn (fu:Nat) (p_1:Pb) (p_2:na) (a:List (List (List UInt8×pb))):Option Int :=
 ((Xh fu).ui p_1 p_2 a p_2.Body).bind fun b =>
 some b.1
def Wr (i63:Int) (a:Int→(List (List (List UInt8×pb)))→Option Int) (b:List (List (List UInt8×pb))):Option Int :=
 (i64 (i63+1)).bind fun i135 =>
 a i135 b
def Jm (fu:Nat) (p_1:Pb) (p_2:na):Nat→Int→(List (List (List UInt8×pb)))→Option Int
 | 0,_,_=>none
 | n+1,i63,a =>
  if i63<(p_2.Params.length:Int) then
   (at_ p_2.Params i63).bind fun b =>
   (at_ a 0).bind fun c =>
   (ko b.Ja).bind fun d =>
   Wr i63 (Jm fu p_1 p_2 n) (a.set (0:Int).toNat (Ue c b.Name d))
  else
   Sn fu p_1 p_2 a
def Ym (fu:Nat)  (p_1:Pb) (p_2:na):Option Int :=
 if p_2.Kind=1 then
  some 0
 else
  if p_2.Kind≠4 then
   Jm fu p_1 p_2 (p_2.Params.length+1) 0 [([]:List (List UInt8×pb))]
  else
   Sn fu p_1 p_2 [([]:List (List UInt8×pb))]
def fm (fu:Nat) (p_1:List na) (a:List (List UInt8×na)):Nat→Int→Option (Pb×Oc)
 | 0,_=>none
 | n+1,b =>
  if b<(p_1.length:Int) then
   (at_ p_1 b).bind fun d =>
   (Ym fu (Pb.mk p_1 a) d).bind fun c =>
   if c≠0 then
    some ((Pb.mk p_1 a),(Oc.mk c b))
   else
    (i64 (b+1)).bind fun e =>
    fm fu p_1 a n e
  else
   some ((Pb.mk p_1 a),(Oc.mk 0 0))
def gm (fu:Nat) (p_1:List na) (a:List (List UInt8×na)):Nat→Int→Option (Pb×Oc)
 | 0,_=>none
 | n+1,b =>
  if b<(p_1.length:Int) then
   (at_ p_1 b).bind fun d =>
   (Xm (Pb.mk p_1 a) d).bind fun c =>
   if c≠0 then
    some ((Pb.mk p_1 a),(Oc.mk c b))
   else
    (i64 (b+1)).bind fun e =>
    gm fu p_1 a n e
  else
   fm fu p_1 a (p_1.length+1) 0
def xl (fu:Nat) (p_1:List na):Nat→Int→Int→(List (List UInt8×na))→Option (Pb×Oc)
 | 0,_,_,_=>none
 | n+1,i94,i95,a =>
  if i95<(p_1.length:Int) then
   (at_ p_1 i95).bind fun d =>
   if (yb a d.Name).isSome=true then
    some ((Pb.mk p_1 a),(Oc.mk 7 i95))
   else
    (at_ p_1 i95).bind fun b =>
    (at_ p_1 i95).bind fun c =>
    (at_ p_1 i95).bind fun e =>
    if e.Kind=4 then
     (i64 (i94+1)).bind fun i236 =>
     (i64 (i95+1)).bind fun f =>
     xl fu p_1 n i236 f (Ue a b.Name c)
    else
     (i64 (i95+1)).bind fun g =>
     xl fu p_1 n i94 g (Ue a b.Name c)
  else
   if i94=0 then
    some ((Pb.mk p_1 a),(Oc.mk 6 (p_1.length:Int)))
   else
    gm fu p_1 a (p_1.length+1) 0
def Um (fu:Nat)  (p_1:List na):Option (Pb×Oc):=
 (kp fu p_1).bind fun a =>
 if a.gg≠0 then
  some ((Pb.mk p_1 ([]:List (List UInt8×na))),a)
 else
  xl fu p_1 (p_1.length+1) 0 0 ([]:List (List UInt8×na))
end Go.Y
namespace Go.Y
open Go.pc Go.nd
structure xp where
 Cl:(List (List UInt8))→(List (List UInt8))→(List (List UInt8))→hb→Option (List (List UInt8)×List (List UInt8)×List (List UInt8))
def Xr (self:xp) (p_2:hb):Nat→Int→(List (List UInt8))→(List (List UInt8))→(List (List UInt8))→Option (List (List UInt8)×List (List UInt8)×List (List UInt8))
 | 0,_,_,_,_=>none
 | n+1,i96,b,c,d =>
  if i96<(p_2.Kids.length:Int) then
   (at_ p_2.Kids i96).bind fun e =>
   (self.Cl b c d e).bind fun a =>
   (i64 (i96+1)).bind fun i162 =>
   Xr self p_2 n i162 a.1 a.2.1 a.2.2
  else
   some (b,c,d)
def Hq (self:xp) (p_2:hb) (a:List (List UInt8)) (b:List (List UInt8)) (c:List (List UInt8)):Option (List (List UInt8)×List (List UInt8)×List (List UInt8)):=
 Xr self p_2 (p_2.Kids.length+1) 0 b a c
def Hv (self:xp) (p_2:hb) (a:List (List UInt8)) (b:List (List UInt8)) (c:List (List UInt8)):Option (List (List UInt8)×List (List UInt8)×List (List UInt8)):=
 Hq self p_2 a c b
def Iv (self:xp) (a:List (List UInt8)) (p_2:hb) (b:List (List UInt8)) (c:List (List UInt8)):Option (List (List UInt8)×List (List UInt8)×List (List UInt8)):=
 Hq self p_2 b a c
def Yr (self:xp) (a:List (List UInt8)) (p_2:hb) (b:List (List UInt8)) (c:List (List UInt8)) (d:Bool):Option (List (List UInt8)×List (List UInt8)×List (List UInt8)):=
 if d=true then
  (app a [p_2.Name]).bind fun e =>
  Hv self p_2 b c e
 else
  if p_2.Kind=20 then
   (app c [p_2.Name]).bind fun f =>
   Iv self a p_2 b f
  else
   Hq self p_2 b a c
def Cl (self:xp) (a:List (List UInt8)) (b:List (List UInt8)) (c:List (List UInt8)) (p_2:hb):Option (List (List UInt8)×List (List UInt8)×List (List UInt8)):=
 if p_2.Kind=19 then
  Yr self a p_2 b c (decide (p_2.Kind=19))
 else
  Yr self a p_2 b c (decide (p_2.Kind=22))
def iq:Nat→xp
 | 0=>⟨fun _ _ _ _=>none⟩
 | n+1=>⟨Cl (iq n)⟩
structure uo where
 pk:(List (List UInt8))→(List (List UInt8))→(List (List UInt8))→(List cb)→Option (List (List UInt8)×List (List UInt8)×List (List UInt8))
def Sr (self:uo) (i130:Int) (b:cb) (c:Int→(List (List UInt8))→(List (List UInt8))→(List (List UInt8))→Option (List (List UInt8)×List (List UInt8)×List (List UInt8))) (d:List (List UInt8)) (e:List (List UInt8)) (f:List (List UInt8)):Option (List (List UInt8)×List (List UInt8)×List (List UInt8)):=
 if b.Kind=3 then
  (self.pk d e f b.Qd).bind fun a =>
  (i64 (i130+1)).bind fun g =>
  c g a.1 a.2.1 a.2.2
 else
  (i64 (i130+1)).bind fun h =>
  c h d e f
def Tr (self:uo) (i130:Int) (a:cb) (c:List (List UInt8)) (d:List (List UInt8)) (e:List (List UInt8)) (f:Int→(List (List UInt8))→(List (List UInt8))→(List (List UInt8))→Option (List (List UInt8)×List (List UInt8)×List (List UInt8))) (g:Bool):Option (List (List UInt8)×List (List UInt8)×List (List UInt8)):=
 if g=true then
  (self.pk c d e a.Body).bind fun b =>
  Sr self i130 a f b.1 b.2.1 b.2.2
 else
  Sr self i130 a f c d e
def Ur (self:uo) (i130:Int) (a:cb) (b:Int→(List (List UInt8))→(List (List UInt8))→(List (List UInt8))→Option (List (List UInt8)×List (List UInt8)×List (List UInt8))) (c:List (List UInt8)) (d:List (List UInt8)) (e:List (List UInt8)):Option (List (List UInt8)×List (List UInt8)×List (List UInt8)):=
 if a.Kind=3 then
  Tr self i130 a c d e b true
 else
  Tr self i130 a c d e b (decide (a.Kind=4))
def Vr (fu:Nat) (self:uo) (i130:Int) (c:List (List UInt8)) (d:List (List UInt8)) (a:cb) (e:Int→(List (List UInt8))→(List (List UInt8))→(List (List UInt8))→Option (List (List UInt8)×List (List UInt8)×List (List UInt8))) (f:List (List UInt8)):Option (List (List UInt8)×List (List UInt8)×List (List UInt8)):=
 if a.Kind≠6 then
  ((iq fu).Cl c f d a.X).bind fun b =>
  Ur self i130 a e b.1 b.2.1 b.2.2
 else
  Ur self i130 a e c f d
def zv (fu:Nat) (self:uo) (i130:Int) (a:List (List UInt8)) (b:List (List UInt8)) (c:cb) (d:Int→(List (List UInt8))→(List (List UInt8))→(List (List UInt8))→Option (List (List UInt8)×List (List UInt8)×List (List UInt8))) (e:List (List UInt8)):Option (List (List UInt8)×List (List UInt8)×List (List UInt8)):=
 Vr fu self i130 a b c d e
def ik (fu:Nat) (self:uo) (p_2:List cb):Nat→Int→(List (List UInt8))→(List (List UInt8))→(List (List UInt8))→Option (List (List UInt8)×List (List UInt8)×List (List UInt8))
 | 0,_,_,_,_=>none
 | n+1,i130,b,c,d =>
  if i130<(p_2.length:Int) then
   (at_ p_2 i130).bind fun a =>
   if a.Kind=7 then
    (app c [a.Name]).bind fun e =>
    zv fu self i130 b d a (ik fu self p_2 n) e
   else
    Vr fu self i130 b d a (ik fu self p_2 n) c
  else
   some (b,c,d)
def pk (fu:Nat) (self:uo) (a:List (List UInt8)) (b:List (List UInt8)) (c:List (List UInt8)) (p_2:List cb):Option (List (List UInt8)×List (List UInt8)×List (List UInt8)):=
 ik fu self p_2 (p_2.length+1) 0 a b c
def Ek:Nat→uo
 | 0=>⟨fun _ _ _ _=>none⟩
 | n+1=>⟨pk n (Ek n)⟩
def Cq (p_1:Pb) (a:List (List UInt8)×List (List UInt8)×List (List UInt8)) (d:List (List UInt8)) (e:List (List UInt8)) (f:(List (List UInt8))→(List (Option na))→(List (List UInt8))→(List (List UInt8))→Option uf):Nat→Int→(List (List UInt8))→(List (Option na))→Option uf
 | 0,_,_,_=>none
 | n+1,b,c,g =>
  if b<(a.1.length:Int) then
   (at_ a.1 b).bind fun h =>
   if c.contains h=true then
    (i64 (b+1)).bind fun i =>
    Cq p_1 a d e f n i c g
   else
    (app c [h]).bind fun j =>
    (app g [(yb p_1.named h)]).bind fun k =>
    (i64 (b+1)).bind fun l =>
    Cq p_1 a d e f n l j k
  else
   f c g d e
def Av (p_1:Pb) (b:List (List UInt8)) (c:List (Option na)) (a:List (List UInt8)×List (List UInt8)×List (List UInt8)) (d:(List (List UInt8))→(List (Option na))→(List (List UInt8))→(List (List UInt8))→Option uf) (g:List (List UInt8)) (h:List (List UInt8)) (e:List (List UInt8)) (f:List (List UInt8)):Option uf :=
 Cq p_1 a e f d (a.1.length+1) 0 b c
def Kp (fu:Nat) (p_1:Pb):Nat→(List (List UInt8))→(List (Option na))→(List (List UInt8))→(List (List UInt8))→Option uf
 | 0,_,_,_,_=>none
 | n+1,e,b,c,d =>
  if (0:Int)<(b.length:Int) then
   (at_ b 0).bind fun f =>
   (cut b 1 b.length).bind fun g =>
   (f).bind fun h =>
   ((Ek fu).pk ([]:List (List UInt8)) ([]:List (List UInt8)) ([]:List (List UInt8)) h.Body).bind fun a =>
   (app c a.2.1).bind fun i =>
   (app d a.2.2).bind fun j =>
   Av p_1 e g a (Kp fu p_1 n) a.2.1 a.2.2 i j
  else
   some (uf.mk ([]:List (List UInt8)) c d)
def Tv (fu:Nat)  (p_1:Pb) (p_2:na):Option uf :=
 Kp fu p_1 fu ([]:List (List UInt8)) ([(some p_2)]:List (Option na)) [] []
def xv (i88:Int) (a:Int→(List (List UInt8×uf))→Option (List pe×Oc)) (b:List (List UInt8×uf)):Option (List pe×Oc):=
 (i64 (i88+1)).bind fun c =>
 a c b
def Kr (a:Int) (b:List UInt8) (c:Int→(List UInt8)→(List UInt8)→Option (List pe×Oc)) (d:List UInt8):Option (List pe×Oc):=
 (i64 (a+1)).bind fun e =>
 c e b d
def Lr (f:List (List UInt8×uf)) (g:Int) (h:na) (a:Int) (b:List UInt8) (c:na) (d:Int→(List UInt8)→(List UInt8)→Option (List pe×Oc)) (e:List UInt8):Option (List pe×Oc):=
 if (((yb f c.Name).getD (uf.mk ([]:List (List UInt8)) ([]:List (List UInt8)) ([]:List (List UInt8)))).hj).contains h.Name=true then
  if b≠[] then
   some (([]:List pe),(Oc.mk 8 g))
  else
   Kr a e d c.Name
 else
  Kr a e d b
def Im (p_1:List na) (c:List (List UInt8×uf)) (a:Int) (f:List pe) (b:na) (g:Int→(List pe)→Option (List pe×Oc)):Nat→Int→(List UInt8)→(List UInt8)→Option (List pe×Oc)
 | 0,_,_,_=>none
 | n+1,d,h,i =>
  if d<(p_1.length:Int) then
   (at_ p_1 d).bind fun e =>
   if e.Kind≠4 then
    (i64 (d+1)).bind fun j =>
    Im p_1 c a f b g n j h i
   else
    if (((yb c e.Name).getD (uf.mk ([]:List (List UInt8)) ([]:List (List UInt8)) ([]:List (List UInt8)))).Hj).contains b.Name=true then
     if h≠[] then
      some (([]:List pe),(Oc.mk 8 a))
     else
      Lr c a b d i e (Im p_1 c a f b g n) e.Name
    else
     Lr c a b d i e (Im p_1 c a f b g n) h
  else
   (app f [(pe.mk b.Name h i)]).bind fun k =>
   (i64 (a+1)).bind fun l =>
   g l k
def Jn (p_1:List na) (b:List (List UInt8×uf)):Nat→Int→(List pe)→Option (List pe×Oc)
 | 0,_,_=>none
 | n+1,a,c =>
  if a<(p_1.length:Int) then
   (at_ p_1 a).bind fun d =>
   if d.Kind≠1 then
    (i64 (a+1)).bind fun e =>
    Jn p_1 b n e c
   else
    Im p_1 b a c d (Jn p_1 b n) (p_1.length+1) 0 [] []
  else
   some (c,(Oc.mk 0 0))
def Jp (fu:Nat) (p_1:List na) (a:Pb×Oc):Nat→Int→(List (List UInt8×uf))→Option (List pe×Oc)
 | 0,_,_=>none
 | n+1,i88,b =>
  if i88<(p_1.length:Int) then
   (at_ p_1 i88).bind fun c =>
   if c.Kind=4 then
    (at_ p_1 i88).bind fun d =>
    (at_ p_1 i88).bind fun e =>
    (Tv fu a.1 e).bind fun f =>
    xv i88 (Jp fu p_1 a n) (Ue b d.Name f)
   else
    (i64 (i88+1)).bind fun g =>
    Jp fu p_1 a n g b
  else
   Jn p_1 b (p_1.length+1) 0 []
def Xo (fu:Nat)  (p_1:List na):Option (List pe×Oc):=
 (Um fu p_1).bind fun a =>
 if a.2.gg≠0 then
  some (([]:List pe),a.2)
 else
  Jp fu p_1 a (p_1.length+1) 0 ([]:List (List UInt8×uf))
def Ss (fu:Nat)  (p_1:List na):Option Oc :=
 (Xo fu p_1).bind fun a =>
 some a.2
end Go.Y
