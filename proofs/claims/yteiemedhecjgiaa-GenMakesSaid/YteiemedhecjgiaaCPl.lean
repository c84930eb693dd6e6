/- Texts of GenMakes Pl. -/
import Derived.Test.YteiemedhecjgiaaCXu
import Derived.Test.YteiemedhecjgiaaCMd
import Derived.KernelRfl
import Derived.Lib.ItoaNum
set_option linter.unusedSimpArgs false
set_option linter.unusedVariables false
set_option linter.unusedSectionVars false
namespace Go.Y
open Go.pc Go.nd
structure yp where
 Dl:hb→Option hb
def Nv (i56:Int) (a:Int→(List hb)→Option hb) (b:List hb):Option hb :=
 (i64 (i56+1)).bind fun i124 =>
 a i124 b
def Mq (self:yp) (p_1:hb) (i16:Int) (a:List UInt8):Nat→Int→(List hb)→Option hb
 | 0,_,_=>none
 | n+1,i56,b =>
  if i56<(p_1.Kids.length:Int) then
   (at_ p_1.Kids i56).bind fun c =>
   (self.Dl c).bind fun d =>
   (Ao 2513169434916 b [d]).bind fun e =>
   Nv i56 (Mq self p_1 i16 a n) e
  else
   some (hb.mk p_1.Kind i16 a b)
def Es (self:yp) (p_1:hb) (i16:Int) (a:List UInt8):Option hb :=
 Mq self p_1 i16 a (p_1.Kids.length+1) 0 []
def Pp (self:yp) (p_1:hb) (i16:Int) (a:Bool):Option hb :=
 if a=true then
  Es self p_1 i16 p_1.Name
 else
  Es self p_1 i16 []
def Fs (self:yp) (p_1:hb) (i16:Int):Option hb :=
 if p_1.Kind=3 then
  Pp self p_1 i16 true
 else
  if p_1.Kind=20 then
   Pp self p_1 i16 true
  else
   if p_1.Kind=19 then
    Pp self p_1 i16 true
   else
    Pp self p_1 i16 (decide (p_1.Kind=22))
def Gs (self:yp) (p_1:hb) (Bg:Bool):Option hb :=
 if Bg=true then
  Fs self p_1 p_1.N
 else
  Fs self p_1 0
def Dl (self:yp) (p_1:hb):Option hb :=
 if p_1.Kind=1 then
  Gs self p_1 true
 else
  Gs self p_1 (decide (p_1.Kind=2))
def lo:Nat→yp
 | 0=>⟨fun _=>none⟩
 | n+1=>⟨Dl (lo n)⟩
structure xo where
 Fk:(List cb)→Option (List cb)
def Zr (i77:Int) (a:List cb) (b:cb) (c:List UInt8) (i182:Int) (i183:Int) (d:List UInt8) (e:List hb) (f:List cb) (g:Int→(List cb)→Option (List cb)) (h:List cb):Option (List cb):=
 (Ao 1099511627776 a [(cb.mk b.Kind c (hb.mk i182 i183 d e) f h)]).bind fun i =>
 (i64 (i77+1)).bind fun i234 =>
 g i234 i
def bs (self:xo) (i77:Int) (b:List cb) (a:cb) (c:List UInt8) (i182:Int) (i183:Int) (d:List UInt8) (e:List hb) (f:Int→(List cb)→Option (List cb)) (g:List cb):Option (List cb):=
 if a.Kind=3 then
  (self.Fk a.Qd).bind fun h =>
  Zr i77 b a c i182 i183 d e g f h
 else
  Zr i77 b a c i182 i183 d e g f []
def fs (self:xo) (i77:Int) (b:List cb) (a:cb) (c:List UInt8) (i182:Int) (i183:Int) (d:List UInt8) (e:List hb) (f:Int→(List cb)→Option (List cb)) (g:Bool):Option (List cb):=
 if g=true then
  (self.Fk a.Body).bind fun h =>
  bs self i77 b a c i182 i183 d e f h
 else
  bs self i77 b a c i182 i183 d e f []
def hs (self:xo) (i77:Int) (b:List cb) (a:cb) (c:List UInt8) (d:Int→(List cb)→Option (List cb)) (i182:Int) (i183:Int) (e:List UInt8) (f:List hb):Option (List cb):=
 if a.Kind=3 then
  fs self i77 b a c i182 i183 e f d true
 else
  fs self i77 b a c i182 i183 e f d (decide (a.Kind=4))
def js (fu:Nat) (self:xo) (i77:Int) (c:List cb) (a:cb) (d:Int→(List cb)→Option (List cb)) (e:List UInt8):Option (List cb):=
 if a.Kind≠6 then
  ((lo fu).Dl a.X).bind fun b =>
  hs self i77 c a e d b.Kind b.N b.Name b.Kids
 else
  hs self i77 c a e d 0 0 [] []
def Iq (fu:Nat) (self:xo) (i77:Int) (b:List cb) (a:cb) (c:Int→(List cb)→Option (List cb)) (d:Bool):Option (List cb):=
 if d=true then
  js fu self i77 b a c a.Name
 else
  js fu self i77 b a c []
def cj (fu:Nat) (self:xo) (p_1:List cb):Nat→Int→(List cb)→Option (List cb)
 | 0,_,_=>none
 | n+1,i77,b =>
  if i77<(p_1.length:Int) then
   (at_ p_1 i77).bind fun a =>
   if a.Kind=1 then
    Iq fu self i77 b a (cj fu self p_1 n) true
   else
    if a.Kind=2 then
     Iq fu self i77 b a (cj fu self p_1 n) true
    else
     Iq fu self i77 b a (cj fu self p_1 n) (decide (a.Kind=7))
  else
   some b
def Fk (fu:Nat) (self:xo) (p_1:List cb):Option (List cb):=
 cj fu self p_1 (p_1.length+1) 0 []
def Rj:Nat→xo
 | 0=>⟨fun _=>none⟩
 | n+1=>⟨Fk n (Rj n)⟩
end Go.Y
namespace Go.Y
open Go.pc Go.nd
def Nq (p_1:UInt8) (Wc:Bool):Option Int :=
 if Wc=true then
  some 3
 else
  if (p_1.toNat:Int)=35 then
   some 4
  else
   some 5
def Hs (p_1:UInt8) (Lf:Bool):Option Int :=
 if Lf=true then
  some 2
 else
  if (p_1.toNat:Int)=32 then
   Nq p_1 true
  else
   if (p_1.toNat:Int)=9 then
    Nq p_1 true
   else
    Nq p_1 (decide ((p_1.toNat:Int)=10))
def Is (p_1:UInt8) (a:Bool):Option Int :=
 if a=true then
  some 1
 else
  if (48:Int)≤(p_1.toNat:Int) then
   Hs p_1 (decide ((p_1.toNat:Int)≤57))
  else
   Hs p_1 false
def Js (p_1:UInt8) (Aa:Bool):Option Int :=
 if Aa=true then
  Is p_1 Aa
 else
  Is p_1 (decide ((p_1.toNat:Int)=95))
def Iu  (p_1:UInt8):Option Int :=
 if (97:Int)≤(p_1.toNat:Int) then
  Js p_1 (decide ((p_1.toNat:Int)≤122))
 else
  Js p_1 false
def qt (p_1:List UInt8):Nat→Int→Option Bool
 | 0,_=>none
 | n+1,i15 =>
  if i15<27 then
   (at_ [[98,111,120],[102,110],[103,101,110],[116,97,115,107],[116,97,107,101,115],[121,105,101,108,100,115],[108,101,116],[105,102],[101,108,115,101],[119,104,105,108,101],[114,101,116,117,114,110],[115,116,111,112],[115,101,110,100],[111,117,116],[100,111],[114,101,99,118],[121,105,101,108,100],[115,116,97,114,116],[114,101,115,117,109,101],[97,108,105,118,101],[110,117,109],[98,111,111,108],[116,114,117,101],[102,97,108,115,101],[97,110,100],[111,114],[110,111,116]] i15).bind fun a =>
   if a=p_1 then
    some true
   else
    (i64 (i15+1)).bind fun i37 =>
    qt p_1 n i37
  else
   some false
def Vu  (p_1:List UInt8):Option Bool :=
 qt p_1 28 0
def Qp (p_1:List UInt8) (a:Nat) (b:Nat→Option Bool) (c:Bool):Option Bool :=
 if c=true then
  some false
 else
  b (a+wd p_1 a)
def Pm (p_1:List UInt8):Nat→Nat→Option Bool
 | 0,_=>none
 | n+1,a =>
  if a<p_1.length then
   (at_ p_1 ((a:Nat):Int)).bind fun c =>
   (Iu c).bind fun b =>
   if b≠1 then
    if b≠2 then
     Qp p_1 a (Pm p_1 n) true
    else
     Qp p_1 a (Pm p_1 n) (decide (((a:Nat):Int)=0))
   else
    Qp p_1 a (Pm p_1 n) false
  else
   if (0:Int)<(p_1.length:Int) then
    if (p_1.length:Int)≤12 then
     (Vu p_1).bind fun d =>
     some (!d)
    else
     some false
   else
    some false
def Wk  (p_1:List UInt8):Option Bool :=
 Pm p_1 (p_1.length+1) 0
def en  (a:Int) (p_2:Int):Option (Bool×Int):=
 (i64 (a+1)).bind fun i3 =>
 if i3≤2000 then
  some (decide (p_2≤40),i3)
 else
  some (false,i3)
def Uv  (Pd:Bool):Option Int :=
 if Pd=true then
  some 7
 else
  some 0
def Us (p_1:pb) (wb:Bool):Option Int :=
 if wb=true then
  some 1
 else
  if p_1.Kind=3 then
   (Wk p_1.Pa).bind fun a =>
   Uv (!a)
  else
   Uv false
def kr  (p_1:pb):Option Int :=
 if p_1.Kind<1 then
  Us p_1 true
 else
  Us p_1 (decide ((3:Int)<p_1.Kind))
def Cw  (p_1:Int):Option Int :=
 (at_ [0,0,0,0,1,1,2,2,2,2,2,2,2,2,2,2,2,2,2,(-1),0,1,(-1),2,1] p_1).bind fun a =>
 some a
structure Fp where
 Gl:Int→hb→Int→Option (Int×Int)
def Vs (self:Fp) (p_2:hb) (p_3:Int):Nat→Int→Int→Option (Int×Int)
 | 0,_,_=>none
 | n+1,i73,i74 =>
  if i73<(p_2.Kids.length:Int) then
   (at_ p_2.Kids i73).bind fun b =>
   (i64 (p_3+1)).bind fun i110 =>
   (self.Gl i74 b i110).bind fun a =>
   if a.1≠0 then
    some (a.1,a.2)
   else
    (i64 (i73+1)).bind fun i116 =>
    Vs self p_2 p_3 n i116 a.2
  else
   some (0,i74)
def Tq (self:Fp) (p_2:hb) (p_3:Int) (a:Bool×Int) (b:Bool):Option (Int×Int):=
 if b=true then
  some (5,a.2)
 else
  Vs self p_2 p_3 (p_2.Kids.length+1) 0 a.2
def dp (self:Fp) (p_2:hb) (p_3:Int) (a:Bool×Int) (c:Bool):Option (Int×Int):=
 if c=true then
  some (7,a.2)
 else
  (Cw p_2.Kind).bind fun b =>
  if (0:Int)≤b then
   if (p_2.Kids.length:Int)≠b then
    Tq self p_2 p_3 a true
   else
    Tq self p_2 p_3 a (decide ((6:Int)<(p_2.Kids.length:Int)))
  else
   Tq self p_2 p_3 a (decide ((6:Int)<(p_2.Kids.length:Int)))
def Bl (self:Fp) (p_2:hb) (p_3:Int) (a:Bool×Int) (b:Bool):Option (Int×Int):=
 if b=true then
  some (3,a.2)
 else
  if p_2.Kind=3 then
   (Wk p_2.Name).bind fun c =>
   dp self p_2 p_3 a (!c)
  else
   if p_2.Kind=20 then
    (Wk p_2.Name).bind fun d =>
    dp self p_2 p_3 a (!d)
   else
    if p_2.Kind=19 then
     (Wk p_2.Name).bind fun e =>
     dp self p_2 p_3 a (!e)
    else
     if p_2.Kind=22 then
      (Wk p_2.Name).bind fun f =>
      dp self p_2 p_3 a (!f)
     else
      dp self p_2 p_3 a false
def Ws (self:Fp) (p_2:hb) (p_3:Int) (a:Bool×Int) (Wc:Bool):Option (Int×Int):=
 if Wc=true then
  some (1,a.2)
 else
  if p_2.Kind=1 then
   if p_2.N<0 then
    Bl self p_2 p_3 a true
   else
    if (999999999999999:Int)<p_2.N then
     Bl self p_2 p_3 a true
    else
     if p_2.Kind=2 then
      if p_2.N<0 then
       Bl self p_2 p_3 a true
      else
       Bl self p_2 p_3 a (decide ((1:Int)<p_2.N))
     else
      Bl self p_2 p_3 a false
  else
   if p_2.Kind=2 then
    if p_2.N<0 then
     Bl self p_2 p_3 a true
    else
     Bl self p_2 p_3 a (decide ((1:Int)<p_2.N))
   else
    Bl self p_2 p_3 a false
def Gl (self:Fp) (b:Int) (p_2:hb) (p_3:Int):Option (Int×Int):=
 (en b p_3).bind fun a =>
 if a.1=true then
  if p_2.Kind<1 then
   Ws self p_2 p_3 a true
  else
   Ws self p_2 p_3 a (decide ((24:Int)<p_2.Kind))
 else
  some (4,a.2)
def gn:Nat→Fp
 | 0=>⟨fun _ _ _=>none⟩
 | n+1=>⟨Gl (gn n)⟩
structure Gp where
 Gk:Int→(List cb)→Int→Option (Int×Int)
def Ks (self:Gp) (p_3:Int) (i65:Int) (b:cb) (c:Int→Int→Option (Int×Int)) (i181:Int):Option (Int×Int):=
 if b.Kind=3 then
  (i64 (p_3+1)).bind fun i191 =>
  (self.Gk i181 b.Qd i191).bind fun a =>
  if a.1≠0 then
   some (a.1,a.2)
  else
   (i64 (i65+1)).bind fun i197 =>
   c i197 a.2
 else
  (i64 (i65+1)).bind fun i199 =>
  c i199 i181
def Ls (self:Gp) (p_3:Int) (i65:Int) (b:cb) (c:Int×Int) (d:Int→Int→Option (Int×Int)) (e:Bool):Option (Int×Int):=
 if e=true then
  (i64 (p_3+1)).bind fun i183 =>
  (self.Gk c.2 b.Body i183).bind fun a =>
  if a.1≠0 then
   some (a.1,a.2)
  else
   Ks self p_3 i65 b d a.2
 else
  Ks self p_3 i65 b d c.2
def Rp (fu:Nat) (self:Gp) (p_3:Int) (i65:Int) (a:cb) (c:Bool×Int) (d:Int→Int→Option (Int×Int)) (e:Bool):Option (Int×Int):=
 if e=true then
  some (7,c.2)
 else
  if a.Kind=6 then
   (i64 (i65+1)).bind fun i170 =>
   d i170 c.2
  else
   (i64 (p_3+1)).bind fun i172 =>
   ((gn fu).Gl c.2 a.X i172).bind fun b =>
   if b.1≠0 then
    some (b.1,b.2)
   else
    if a.Kind=3 then
     Ls self p_3 i65 a b d true
    else
     Ls self p_3 i65 a b d (decide (a.Kind=4))
def Sp (fu:Nat) (self:Gp) (p_3:Int) (i65:Int) (a:cb) (b:Bool×Int) (c:Int→Int→Option (Int×Int)) (d:Bool):Option (Int×Int):=
 if d=true then
  some (1,b.2)
 else
  if a.Kind=1 then
   (Wk a.Name).bind fun e =>
   Rp fu self p_3 i65 a b c (!e)
  else
   if a.Kind=2 then
    (Wk a.Name).bind fun f =>
    Rp fu self p_3 i65 a b c (!f)
   else
    if a.Kind=7 then
     (Wk a.Name).bind fun g =>
     Rp fu self p_3 i65 a b c (!g)
    else
     Rp fu self p_3 i65 a b c false
def Qm (fu:Nat) (self:Gp) (p_2:List cb) (p_3:Int):Nat→Int→Int→Option (Int×Int)
 | 0,_,_=>none
 | n+1,i65,i66 =>
  if i65<(p_2.length:Int) then
   (at_ p_2 i65).bind fun a =>
   (en i66 p_3).bind fun b =>
   if b.1=true then
    if a.Kind<1 then
     Sp fu self p_3 i65 a b (Qm fu self p_2 p_3 n) true
    else
     Sp fu self p_3 i65 a b (Qm fu self p_2 p_3 n) (decide ((9:Int)<a.Kind))
   else
    some (4,b.2)
  else
   some (0,i66)
def Gk (fu:Nat) (self:Gp) (a:Int) (p_2:List cb) (p_3:Int):Option (Int×Int):=
 if (50:Int)<(p_2.length:Int) then
  some (5,a)
 else
  Qm fu self p_2 p_3 (p_2.length+1) 0 a
def wm:Nat→Gp
 | 0=>⟨fun _ _ _=>none⟩
 | n+1=>⟨Gk n (wm n)⟩
def jq (fu:Nat) (p_2:na) (a:Bool×Int) (c:Bool):Option (Int×Int):=
 if c=true then
  some (3,a.2)
 else
  if p_2.Kind=1 then
   some (0,a.2)
  else
   ((wm fu).Gk a.2 p_2.Body 2).bind fun b =>
   some (b.1,b.2)
def tt (fu:Nat) (p_2:na) (a:Bool×Int):Option (Int×Int):=
 if p_2.Kind=1 then
  if p_2.oc<1 then
   jq fu p_2 a true
  else
   jq fu p_2 a (decide ((20:Int)<p_2.oc))
 else
  jq fu p_2 a false
def vt (fu:Nat) (p_2:na) (a:Bool×Int):Option (Int×Int):=
 if p_2.Kind<4 then
  (kr p_2.Ja).bind fun b =>
  if b≠0 then
   some (b,a.2)
  else
   tt fu p_2 a
 else
  tt fu p_2 a
def xt (fu:Nat) (p_2:na) (a:Bool×Int):Option (Int×Int):=
 if p_2.Kind=3 then
  (kr p_2.eb).bind fun b =>
  if b≠0 then
   some (b,a.2)
  else
   vt fu p_2 a
 else
  vt fu p_2 a
def yt (fu:Nat) (p_2:na) (a:Bool×Int):Nat→Int→Option (Int×Int)
 | 0,_=>none
 | n+1,i46 =>
  if i46<(p_2.Params.length:Int) then
   (at_ p_2.Params i46).bind fun b =>
   (Wk b.Name).bind fun d =>
   if d=true then
    (kr b.Ja).bind fun c =>
    if c≠0 then
     some (c,a.2)
    else
     (i64 (i46+1)).bind fun i85 =>
     yt fu p_2 a n i85
   else
    some (7,a.2)
  else
   xt fu p_2 a
def zt (fu:Nat) (p_2:na) (a:Bool×Int) (b:Bool):Option (Int×Int):=
 if b=true then
  if (6:Int)<(p_2.Params.length:Int) then
   some (5,a.2)
  else
   yt fu p_2 a (p_2.Params.length+1) 0
 else
  xt fu p_2 a
def At (fu:Nat) (p_2:na) (a:Bool×Int) (b:Bool):Option (Int×Int):=
 if b=true then
  some (1,a.2)
 else
  (Wk p_2.Name).bind fun c =>
  if c=true then
   if p_2.Kind=2 then
    zt fu p_2 a true
   else
    zt fu p_2 a (decide (p_2.Kind=3))
  else
   some (7,a.2)
def Wu (fu:Nat)  (b:Int) (p_2:na):Option (Int×Int):=
 (en b 1).bind fun a =>
 if a.1=true then
  if p_2.Kind<1 then
   At fu p_2 a true
  else
   At fu p_2 a (decide ((4:Int)<p_2.Kind))
 else
  some (4,a.2)
def Ms (fu:Nat) (p_1:List na):Nat→Int→Int→Option Oc
 | 0,_,_=>none
 | n+1,i28,i29 =>
  if i28<(p_1.length:Int) then
   (at_ p_1 i28).bind fun b =>
   (Wu fu i29 b).bind fun a =>
   if a.1≠0 then
    some (Oc.mk a.1 i28)
   else
    (i64 (i28+1)).bind fun i69 =>
    Ms fu p_1 n i69 a.2
  else
   some (Oc.mk 0 0)
def Ju (fu:Nat)  (p_1:List na):Option Oc :=
 if (30:Int)<(p_1.length:Int) then
  some (Oc.mk 5 0)
 else
  Ms fu p_1 (p_1.length+1) 0 0
end Go.Y
namespace Go.Y
open Go.pc Go.nd
structure Vb where
 Name:List UInt8
 Word:List UInt8
 deriving DecidableEq,Inhabited,Repr
instance:fb Vb where
 sz:=2
 pos:=by decide
 cs μ l x:=l=[S x.Name,S x.Word]
 ch h:=by obtain rfl:=h;rfl
 up le h:=by exact h
 Ui h:=by obtain rfl:=h;rfl
def rk  (p_1:pb):Option (List UInt8):=
 if p_1.Kind=1 then
  some [110,117,109]
 else
  if p_1.Kind=2 then
   some [98,111,111,108]
  else
   (cat [61] p_1.Pa).bind fun a =>
   some a
def Xs (i33:Int) (a:na) (b:Int→Option (na×Bool)) (c:Bool):Option (na×Bool):=
 if c=true then
  some (a,true)
 else
  (i64 (i33+1)).bind fun i76 =>
  b i76
def ep (p_1:List na) (p_2:Int) (p_3:List UInt8):Nat→Int→Option (na×Bool)
 | 0,_=>none
 | n+1,i33 =>
  if i33<(p_1.length:Int) then
   (at_ p_1 i33).bind fun a =>
   if a.Kind=p_2 then
    Xs i33 a (ep p_1 p_2 p_3 n) (decide (a.Name=p_3))
   else
    Xs i33 a (ep p_1 p_2 p_3 n) false
  else
   some ((na.mk 0 [] (pb.mk 0 []) (pb.mk 0 []) 0 ([]:List TParam) ([]:List cb)),false)
def hn  (p_1:List na) (p_2:Int) (p_3:List UInt8):Option (na×Bool):=
 ep p_1 p_2 p_3 (p_1.length+1) 0
def Ys (p_1:List Vb) (p_2:List UInt8):Nat→Int→Option (List UInt8×Bool)
 | 0,_=>none
 | n+1,i24 =>
  if (0:Int)≤i24 then
   (at_ p_1 i24).bind fun a =>
   if a.Name=p_2 then
    (at_ p_1 i24).bind fun b =>
    some (b.Word,true)
   else
    (i64 (i24 - 1)).bind fun i62 =>
    Ys p_1 p_2 n i62
  else
   some ([],false)
def lr (fu:Nat)  (p_1:List Vb) (p_2:List UInt8):Option (List UInt8×Bool):=
 (i64 ((p_1.length:Int) - 1)).bind fun i4 =>
 Ys p_1 p_2 fu i4
structure Mj where
 Xj:(List na)→na→(List Vb)→hb→Option (List UInt8×Int)
 xi:Int→(List na)→na→(List Vb)→hb→Option (List UInt8×Int)
 sh:Int→(List UInt8)→(List na)→na→(List Vb)→hb→Option Int
 El:Int→(List na)→hb→(List na)→na→(List Vb)→hb→Option (na×Int)
def xu  (a:Bool):Option (List UInt8×Int):=
 if a=true then
  some ([],9)
 else
  some ([98,111,111,108],0)
def Vv  (a:List UInt8) (i122:Int):Option (List UInt8×Int):=
 some (a,i122)
def Wv  (a:List UInt8) (i187:Int):Option (List UInt8×Int):=
 some (a,i187)
def Xv (self:Mj) (p_1:List na) (p_2:na) (p_3:List Vb) (a:hb) (i146:Int) (g:List UInt8) (i148:Int) (b:List UInt8) (i150:Int) (c:List UInt8) (i152:Int) (h:List TParam) (i:List cb):Option (List UInt8×Int):=
 (rk (pb.mk i148 b)).bind fun d =>
 (rk (pb.mk i150 c)).bind fun e =>
 (self.sh 1 e p_1 p_2 p_3 a).bind fun f =>
 Wv d f
def Oq (self:Mj) (p_1:List na) (p_2:na) (p_3:List Vb) (a:hb) (b:List UInt8) (d:List UInt8):Option (List UInt8×Int):=
 (self.sh 0 b p_1 p_2 p_3 a).bind fun c =>
 if c≠0 then
  some ([],c)
 else
  (self.sh 1 b p_1 p_2 p_3 a).bind fun e =>
  some (d,e)
def Zs (self:Mj) (p_1:List na) (p_2:na) (p_3:List Vb) (a:hb) (b:List UInt8) (c:List UInt8) (d:Bool):Option (List UInt8×Int):=
 if d=true then
  Oq self p_1 p_2 p_3 a b [98,111,111,108]
 else
  Oq self p_1 p_2 p_3 a b c
def bt (self:Mj) (p_1:List na) (p_2:na) (p_3:List Vb) (a:hb) (b:List UInt8) (c:List UInt8):Option (List UInt8×Int):=
 if (13:Int)≤a.Kind then
  Zs self p_1 p_2 p_3 a b c (decide (a.Kind≤16))
 else
  Zs self p_1 p_2 p_3 a b c false
def Zp (self:Mj) (p_1:List na) (p_2:na) (p_3:List Vb) (a:hb) (b:Bool):Option (List UInt8×Int):=
 if b=true then
  bt self p_1 p_2 p_3 a [98,111,111,108] [98,111,111,108]
 else
  bt self p_1 p_2 p_3 a [110,117,109] [110,117,109]
def aq (self:Mj) (p_1:List na) (p_2:na) (p_3:List Vb) (b:hb) (d:Bool):Option (List UInt8×Int):=
 if d=true then
  (self.xi 0 p_1 p_2 p_3 b).bind fun c =>
  if c.2≠0 then
   some ([],c.2)
  else
   (at_ c.1 0).bind fun e =>
   if (e.toNat:Int)≠61 then
    some ([],9)
   else
    if b.Kind=24 then
     some ([98,111,111,108],0)
    else
     (cut c.1 1 c.1.length).bind fun f =>
     (hn p_1 3 f).bind fun a =>
     Xv self p_1 p_2 p_3 b a.1.Kind a.1.Name a.1.Ja.Kind a.1.Ja.Pa a.1.eb.Kind a.1.eb.Pa a.1.oc a.1.Params a.1.Body
 else
  if b.Kind=17 then
   Zp self p_1 p_2 p_3 b true
  else
   Zp self p_1 p_2 p_3 b (decide (b.Kind=18))
def bq (self:Mj) (p_1:List na) (p_2:na) (p_3:List Vb) (a:hb) (f:Bool):Option (List UInt8×Int):=
 if f=true then
  (self.xi 0 p_1 p_2 p_3 a).bind fun b =>
  if b.2≠0 then
   some ([],b.2)
  else
   (self.xi 1 p_1 p_2 p_3 a).bind fun c =>
   if c.2≠0 then
    some ([],c.2)
   else
    if b.1≠c.1 then
     xu true
    else
     (at_ b.1 0).bind fun g =>
     xu (decide ((g.toNat:Int)=61))
 else
  if a.Kind=19 then
   (self.El 2 p_1 a p_1 p_2 p_3 a).bind fun d =>
   if d.2≠0 then
    some ([],d.2)
   else
    (rk d.1.Ja).bind fun h =>
    some (h,0)
  else
   if a.Kind=22 then
    (self.El 3 p_1 a p_1 p_2 p_3 a).bind fun i =>
    (cat [61] a.Name).bind fun j =>
    some (j,i.2)
   else
    if a.Kind=20 then
     (hn p_1 1 a.Name).bind fun e =>
     if e.2=true then
      (rk e.1.Ja).bind fun k =>
      some (k,0)
     else
      some ([],7)
    else
     if a.Kind=21 then
      if p_2.Kind≠3 then
       some ([],8)
      else
       (rk p_2.eb).bind fun l =>
       (rk p_2.Ja).bind fun m =>
       (self.sh 0 m p_1 p_2 p_3 a).bind fun n =>
       Vv l n
     else
      if a.Kind=23 then
       aq self p_1 p_2 p_3 a (decide (a.Kind=23))
      else
       aq self p_1 p_2 p_3 a (decide (a.Kind=24))
def Xj (fu:Nat) (self:Mj) (p_1:List na) (p_2:na) (p_3:List Vb) (a:hb):Option (List UInt8×Int):=
 if a.Kind=1 then
  some ([110,117,109],0)
 else
  if a.Kind=2 then
   some ([98,111,111,108],0)
  else
   if a.Kind=3 then
    (lr fu p_3 a.Name).bind fun b =>
    if b.2=true then
     some (b.1,0)
    else
     some ([],7)
   else
    if a.Kind=4 then
     (self.sh 0 [110,117,109] p_1 p_2 p_3 a).bind fun c =>
     some ([110,117,109],c)
    else
     if a.Kind=5 then
      (self.sh 0 [98,111,111,108] p_1 p_2 p_3 a).bind fun d =>
      some ([98,111,111,108],d)
     else
      if a.Kind=11 then
       bq self p_1 p_2 p_3 a (decide (a.Kind=11))
      else
       bq self p_1 p_2 p_3 a (decide (a.Kind=12))
def xi (self:Mj) (p_1:Int) (p_2:List na) (p_3:na) (b:List Vb) (c:hb):Option (List UInt8×Int):=
 (at_ c.Kids p_1).bind fun d =>
 (self.Xj p_2 p_3 b d).bind fun a =>
 some (a.1,a.2)
def ct (a:List UInt8×Int) (b:Bool):Option Int :=
 if b=true then
  some 9
 else
  some a.2
def sh (self:Mj) (p_1:Int) (p_2:List UInt8) (b:List na) (c:na) (d:List Vb) (e:hb):Option Int :=
 (self.xi p_1 b c d e).bind fun a =>
 if a.2=0 then
  ct a (decide (a.1≠p_2))
 else
  ct a false
def Ov (a:na×Bool) (i85:Int) (b:Int→Option (na×Int)) (i116:Int):Option (na×Int):=
 if i116≠0 then
  some (a.1,i116)
 else
  (i64 (i85+1)).bind fun i125 =>
  b i125
def Pq (self:Mj) (b:List na) (c:na) (d:List Vb) (e:hb) (a:na×Bool):Nat→Int→Option (na×Int)
 | 0,_=>none
 | n+1,i85 =>
  if i85<(a.1.Params.length:Int) then
   (at_ a.1.Params i85).bind fun f =>
   (rk f.Ja).bind fun g =>
   (self.sh i85 g b c d e).bind fun h =>
   Ov a i85 (Pq self b c d e a n) h
  else
   some (a.1,0)
def El (self:Mj) (p_1:Int) (p_2:List na) (p_3:hb) (b:List na) (c:na) (d:List Vb) (e:hb):Option (na×Int):=
 (hn p_2 p_1 p_3.Name).bind fun a =>
 if a.2=true then
  if (a.1.Params.length:Int)≠(p_3.Kids.length:Int) then
   some (a.1,5)
  else
   Pq self b c d e a (a.1.Params.length+1) 0
 else
  some (a.1,7)
def mg:Nat→Mj
 | 0=>⟨fun _ _ _ _=>none,fun _ _ _ _ _=>none,fun _ _ _ _ _ _=>none,fun _ _ _ _ _ _ _=>none⟩
 | n+1=>⟨Xj n (mg n),xi (mg n),sh (mg n),El (mg n)⟩
end Go.Y
namespace Go.Y
open Go.pc Go.nd
def Et (a:List UInt8×Int) (b:Bool):Option Int :=
 if b=true then
  some 9
 else
  some a.2
def zp (fu:Nat)  (p_1:List na) (p_2:na) (p_3:List Vb) (b:hb) (c:List UInt8):Option Int :=
 ((mg fu).Xj p_1 p_2 p_3 b).bind fun a =>
 if a.2=0 then
  Et a (decide (a.1≠c))
 else
  Et a false
structure du where
 Tj:(List na)→na→(List Vb)→(List cb)→Option Int
def Pv (i174:Int) (b:List Vb) (c:Int→(List Vb)→Option Int) (a:Int):Option Int :=
 if a≠0 then
  some a
 else
  (i64 (i174+1)).bind fun d =>
  c d b
def Qv (i174:Int) (b:List Vb) (c:Int→(List Vb)→Option Int) (a:Int):Option Int :=
 if a≠0 then
  some a
 else
  (i64 (i174+1)).bind fun d =>
  c d b
def Ns (i174:Int) (a:List Vb) (b:Int→(List Vb)→Option Int) (c:Bool):Option Int :=
 if c=true then
  some 9
 else
  (i64 (i174+1)).bind fun d =>
  b d a
def Tp (fu:Nat) (self:du) (p_1:List na) (p_2:na) (i174:Int) (a:List Vb) (b:cb) (c:Int→(List Vb)→Option Int) (h:Bool):Option Int :=
 if h=true then
  (zp fu p_1 p_2 a b.X [98,111,111,108]).bind fun e =>
  if e≠0 then
   some e
  else
   (self.Tj p_1 p_2 a b.Body).bind fun f =>
   if f≠0 then
    some f
   else
    if b.Kind=3 then
     (self.Tj p_1 p_2 a b.Qd).bind fun r431 =>
     if r431≠0 then
      some r431
     else
      (i64 (i174+1)).bind fun i =>
      c i a
    else
     (i64 (i174+1)).bind fun j =>
     c j a
 else
  if b.Kind=5 then
   if p_2.Kind≠2 then
    some 8
   else
    (rk p_2.Ja).bind fun k =>
    (zp fu p_1 p_2 a b.X k).bind fun l =>
    Pv i174 a c l
  else
   if b.Kind=6 then
    if p_2.Kind=2 then
     some 8
    else
     (i64 (i174+1)).bind fun m =>
     c m a
   else
    if b.Kind=7 then
     (hn p_1 1 b.Name).bind fun g =>
     if g.2=true then
      (rk g.1.Ja).bind fun n =>
      (zp fu p_1 p_2 a b.X n).bind fun o =>
      Qv i174 a c o
     else
      some 7
    else
     ((mg fu).Xj p_1 p_2 a b.X).bind fun d =>
     if d.2≠0 then
      some d.2
     else
      if b.Kind=8 then
       (at_ d.1 0).bind fun p =>
       Ns i174 a c (decide ((p.toNat:Int)=61))
      else
       Ns i174 a c false
def gi (fu:Nat) (self:du) (p_1:List na) (p_2:na) (c:List cb):Nat→Int→(List Vb)→Option Int
 | 0,_,_=>none
 | n+1,i174,b =>
  if i174<(c.length:Int) then
   (at_ c i174).bind fun a =>
   if a.Kind=1 then
    ((mg fu).Xj p_1 p_2 b a.X).bind fun d =>
    if d.2≠0 then
     some d.2
    else
     (lr fu b a.Name).bind fun g =>
     if g.2=true then
      some 7
     else
      (app b [(Vb.mk a.Name d.1)]).bind fun h =>
      (i64 (i174+1)).bind fun i =>
      gi fu self p_1 p_2 c n i h
   else
    if a.Kind=2 then
     (lr fu b a.Name).bind fun e =>
     if e.2=true then
      (zp fu p_1 p_2 b a.X e.1).bind fun f =>
      if f≠0 then
       some f
      else
       (i64 (i174+1)).bind fun j =>
       gi fu self p_1 p_2 c n j b
     else
      some 7
    else
     if a.Kind=3 then
      Tp fu self p_1 p_2 i174 b a (gi fu self p_1 p_2 c n) (decide (a.Kind=3))
     else
      Tp fu self p_1 p_2 i174 b a (gi fu self p_1 p_2 c n) (decide (a.Kind=4))
  else
   some 0
def Tj (fu:Nat) (self:du) (p_1:List na) (p_2:na) (p_3:List Vb) (a:List cb):Option Int :=
 (app ([]:List Vb) p_3).bind fun b =>
 gi fu self p_1 p_2 a (a.length+1) 0 b
def gj:Nat→du
 | 0=>⟨fun _ _ _ _=>none⟩
 | n+1=>⟨Tj n (gj n)⟩
def cq  (a:Bool):Option Int :=
 if a=true then
  some 9
 else
  some 0
def Uq (p_2:na):Option Int :=
 if p_2.Kind=3 then
  if p_2.eb.Kind=3 then
   cq true
  else
   if p_2.Kind≠4 then
    cq (decide (p_2.Ja.Kind=3))
   else
    cq false
 else
  if p_2.Kind≠4 then
   cq (decide (p_2.Ja.Kind=3))
  else
   cq false
def dt (p_1:List na) (i80:Int) (a:TParam) (b:List TParam) (c:Int→Option Int):Nat→Int→Option Int
 | 0,_=>none
 | n+1,i183 =>
  if i183<(b.length:Int) then
   (at_ b i183).bind fun d =>
   if d.Name=a.Name then
    some 7
   else
    (i64 (i183+1)).bind fun i209 =>
    dt p_1 i80 a b c n i209
  else
   if a.Ja.Kind=3 then
    (hn p_1 3 a.Ja.Pa).bind fun e =>
    if e.2=true then
     (i64 (i80+1)).bind fun f =>
     c f
    else
     some 7
   else
    (i64 (i80+1)).bind fun i226 =>
    c i226
def fp (p_1:List na) (p_2:na) (i80:Int) (b:TParam) (c:Int→Option Int) (d:Bool):Option Int :=
 if d=true then
  Uq p_2
 else
  (cut p_2.Params 0 i80).bind fun a =>
  dt p_1 i80 b a c (a.length+1) 0
def Uk (p_1:List na) (p_2:na):Nat→Int→Option Int
 | 0,_=>none
 | n+1,i80 =>
  if i80<(p_2.Params.length:Int) then
   (at_ p_2.Params i80).bind fun a =>
   if p_2.Kind≠2 then
    fp p_1 p_2 i80 a (Uk p_1 p_2 n) (decide (p_2.Kind≠3))
   else
    fp p_1 p_2 i80 a (Uk p_1 p_2 n) false
  else
   Uq p_2
def mr  (p_1:List na) (p_2:na):Option Int :=
 Uk p_1 p_2 (p_2.Params.length+1) 0
def et (fu:Nat) (p_1:List na) (p_2:na) (a:List Vb):Option Int :=
 ((gj fu).Tj p_1 p_2 a p_2.Body).bind fun b =>
 some b
def Yv (i41:Int) (a:Int→(List Vb)→Option Int) (b:List Vb):Option Int :=
 (i64 (i41+1)).bind fun i97 =>
 a i97 b
def Vq (fu:Nat) (p_1:List na) (p_2:na):Nat→Int→(List Vb)→Option Int
 | 0,_,_=>none
 | n+1,i41,a =>
  if i41<(p_2.Params.length:Int) then
   (at_ p_2.Params i41).bind fun b =>
   (rk b.Ja).bind fun c =>
   (app a [(Vb.mk b.Name c)]).bind fun d =>
   Yv i41 (Vq fu p_1 p_2 n) d
  else
   et fu p_1 p_2 a
def Nu (fu:Nat)  (p_1:List na) (p_2:na):Option Int :=
 if p_2.Kind=1 then
  some 0
 else
  if p_2.Kind≠4 then
   Vq fu p_1 p_2 (p_2.Params.length+1) 0 []
  else
   et fu p_1 p_2 []
end Go.Y
namespace Go.Y
open Go.pc Go.nd
structure eu where
 dj:hb→Int→(List UInt8)→Option Bool
def ks (self:eu) (p_1:hb) (p_2:Int) (p_3:List UInt8):Nat→Int→Option Bool
 | 0,_=>none
 | n+1,i28 =>
  if i28<(p_1.Kids.length:Int) then
   (at_ p_1.Kids i28).bind fun a =>
   (self.dj a p_2 p_3).bind fun b =>
   if b=true then
    some true
   else
    (i64 (i28+1)).bind fun i66 =>
    ks self p_1 p_2 p_3 n i66
  else
   some false
def ns (self:eu) (p_1:hb) (p_2:Int) (p_3:List UInt8) (Vg:Bool):Option Bool :=
 if Vg=true then
  some true
 else
  ks self p_1 p_2 p_3 (p_1.Kids.length+1) 0
def dj (self:eu) (p_1:hb) (p_2:Int) (p_3:List UInt8):Option Bool :=
 if p_1.Kind=p_2 then
  ns self p_1 p_2 p_3 (decide (p_1.Name=p_3))
 else
  ns self p_1 p_2 p_3 false
def jn:Nat→eu
 | 0=>⟨fun _ _ _=>none⟩
 | n+1=>⟨dj (jn n)⟩
structure rv where
 Ff:(List cb)→Int→(List UInt8)→Option Bool
def vi (i92:Int) (a:Int→Option Bool) (b:Bool):Option Bool :=
 if b=true then
  some true
 else
  (i64 (i92+1)).bind fun c =>
  a c
def Ph (fu:Nat) (self:rv) (p_2:Int) (p_3:List UInt8) (a:List cb):Nat→Int→Option Bool
 | 0,_=>none
 | n+1,i92 =>
  if i92<(a.length:Int) then
   (at_ a i92).bind fun b =>
   if p_2=0 then
    if b.Kind=7 then
     if b.Name=p_3 then
      vi i92 (Ph fu self p_2 p_3 a n) true
     else
      if (0:Int)<p_2 then
       ((jn fu).dj b.X p_2 p_3).bind fun c =>
       if c=true then
        vi i92 (Ph fu self p_2 p_3 a n) true
       else
        (self.Ff b.Body p_2 p_3).bind fun d =>
        if d=true then
         vi i92 (Ph fu self p_2 p_3 a n) true
        else
         (self.Ff b.Qd p_2 p_3).bind fun e =>
         vi i92 (Ph fu self p_2 p_3 a n) e
      else
       (self.Ff b.Body p_2 p_3).bind fun f =>
       if f=true then
        vi i92 (Ph fu self p_2 p_3 a n) true
       else
        (self.Ff b.Qd p_2 p_3).bind fun g =>
        vi i92 (Ph fu self p_2 p_3 a n) g
    else
     if (0:Int)<p_2 then
      ((jn fu).dj b.X p_2 p_3).bind fun h =>
      if h=true then
       vi i92 (Ph fu self p_2 p_3 a n) true
      else
       (self.Ff b.Body p_2 p_3).bind fun i =>
       if i=true then
        vi i92 (Ph fu self p_2 p_3 a n) true
       else
        (self.Ff b.Qd p_2 p_3).bind fun j =>
        vi i92 (Ph fu self p_2 p_3 a n) j
     else
      (self.Ff b.Body p_2 p_3).bind fun k =>
      if k=true then
       vi i92 (Ph fu self p_2 p_3 a n) true
      else
       (self.Ff b.Qd p_2 p_3).bind fun l =>
       vi i92 (Ph fu self p_2 p_3 a n) l
   else
    if (0:Int)<p_2 then
     ((jn fu).dj b.X p_2 p_3).bind fun m =>
     if m=true then
      vi i92 (Ph fu self p_2 p_3 a n) true
     else
      (self.Ff b.Body p_2 p_3).bind fun o =>
      if o=true then
       vi i92 (Ph fu self p_2 p_3 a n) true
      else
       (self.Ff b.Qd p_2 p_3).bind fun p =>
       vi i92 (Ph fu self p_2 p_3 a n) p
    else
     (self.Ff b.Body p_2 p_3).bind fun q =>
     if q=true then
      vi i92 (Ph fu self p_2 p_3 a n) true
     else
      (self.Ff b.Qd p_2 p_3).bind fun r =>
      vi i92 (Ph fu self p_2 p_3 a n) r
  else
   some false
def Ff (fu:Nat) (self:rv) (p_1:List cb) (p_2:Int) (p_3:List UInt8):Option Bool :=
 ((Rj fu).Fk p_1).bind fun a =>
 Ph fu self p_2 p_3 a (a.length+1) 0
def Wi:Nat→rv
 | 0=>⟨fun _ _ _=>none⟩
 | n+1=>⟨Ff n (Wi n)⟩
def Dq (b:Int) (a:List na) (c:na) (d:Int→(List na)→Option (List na)):Nat→Bool→Int→Option (List na)
 | 0,_,_=>none
 | n+1,f,e =>
  if e<(a.length:Int) then
   (at_ a e).bind fun g =>
   if f=true then
    (i64 (e+1)).bind fun h =>
    Dq b a c d n true h
   else
    (i64 (e+1)).bind fun i =>
    Dq b a c d n (decide (g.Name=c.Name)) i
  else
   if f=true then
    (i64 (b+1)).bind fun j =>
    d j a
   else
    (app a [c]).bind fun k =>
    (i64 (b+1)).bind fun l =>
    d l k
def Po (b:Int) (a:List na) (d:na) (c:Int→(List na)→Option (List na)) (e:Bool):Option (List na):=
 if e=true then
  (i64 (b+1)).bind fun f =>
  c f a
 else
  Dq b a d c (a.length+1) false 0
def jk (fu:Nat) (p_1:List na) (b:Int) (e:Int→(List na)→Option (List na)):Nat→Int→(List na)→Option (List na)
 | 0,_,_=>none
 | n+1,c,d =>
  if c<(p_1.length:Int) then
   (at_ p_1 c).bind fun a =>
   if ((yb (Ue (Ue ([]:List (Int×Int)) 2 19) 3 22) a.Kind).getD 0)=0 then
    Po c d a (jk fu p_1 b e n) true
   else
    (at_ d b).bind fun f =>
    ((Wi fu).Ff f.Body ((yb (Ue (Ue ([]:List (Int×Int)) 2 19) 3 22) a.Kind).getD 0) a.Name).bind fun g =>
    Po c d a (jk fu p_1 b e n) (!g)
  else
   (i64 (b+1)).bind fun h =>
   e h d
def Mn (fu:Nat) (p_1:List na):Nat→Int→(List na)→Option (List na)
 | 0,_,_=>none
 | n+1,b,a =>
  if b<(a.length:Int) then
   jk fu p_1 b (Mn fu p_1 n) (p_1.length+1) 0 a
  else
   some a
def yu (fu:Nat)  (p_1:List na) (p_2:List UInt8):Option (List na):=
 (hn p_1 4 p_2).bind fun a =>
 Mn fu p_1 fu 0 ([a.1]:List na)
def ps (p_1:List na) (i125:Int) (i126:Int) (a:Int→Int→Option (List pe×Oc)):Nat→Int→Option (List pe×Oc)
 | 0,_=>none
 | n+1,b =>
  if b<i126 then
   (at_ p_1 b).bind fun c =>
   (at_ p_1 i126).bind fun d =>
   if c.Name=d.Name then
    some (([]:List pe),(Oc.mk 7 i126))
   else
    (i64 (b+1)).bind fun e =>
    ps p_1 i125 i126 a n e
  else
   (at_ p_1 i126).bind fun f =>
   if f.Kind=4 then
    (i64 (i125+1)).bind fun g =>
    (i64 (i126+1)).bind fun h =>
    a g h
   else
    (i64 (i126+1)).bind fun i =>
    a i125 i
def qs (a:Int) (b:na) (c:Int) (d:List UInt8) (e:Int→(List UInt8)→(List UInt8)→Option (List pe×Oc)) (f:Bool):Option (List pe×Oc):=
 if f=true then
  some (([]:List pe),(Oc.mk 8 a))
 else
  (i64 (c+1)).bind fun g =>
  e g d b.Name
def Jq (fu:Nat) (f:Int) (g:na) (a:na) (b:Int) (c:List UInt8) (h:na) (d:Int→(List UInt8)→(List UInt8)→Option (List pe×Oc)) (e:List UInt8):Option (List pe×Oc):=
 ((Wi fu).Ff h.Body 20 g.Name).bind fun i =>
 if i=true then
  if c≠[] then
   qs f a b e d (decide (c≠a.Name))
  else
   qs f a b e d false
 else
  (i64 (b+1)).bind fun j =>
  d j e c
def ss (fu:Nat) (a:Int) (c:na) (b:na) (d:Int) (e:List UInt8) (f:na) (g:Int→(List UInt8)→(List UInt8)→Option (List pe×Oc)) (h:Bool):Option (List pe×Oc):=
 if h=true then
  some (([]:List pe),(Oc.mk 8 a))
 else
  Jq fu a c b d e f g b.Name
def lk (fu:Nat) (c:Int) (a:na) (f:Int) (b:na) (d:List na) (g:Int→(List UInt8)→(List UInt8)→Option (List pe×Oc)):Nat→Int→(List UInt8)→(List UInt8)→Option (List pe×Oc)
 | 0,_,_,_=>none
 | n+1,e,h,i =>
  if e<(d.length:Int) then
   (at_ d e).bind fun j =>
   ((Wi fu).Ff j.Body 0 a.Name).bind fun k =>
   if k=true then
    if h≠[] then
     ss fu c a b e i j (lk fu c a f b d g n) (decide (h≠b.Name))
    else
     ss fu c a b e i j (lk fu c a f b d g n) false
   else
    Jq fu c a b e i j (lk fu c a f b d g n) h
  else
   (i64 (f+1)).bind fun l =>
   g l h i
def km (fu:Nat) (p_1:List na) (a:Int) (d:List pe) (b:na) (e:Int→(List pe)→Option (List pe×Oc)):Nat→Int→(List UInt8)→(List UInt8)→Option (List pe×Oc)
 | 0,_,_,_=>none
 | n+1,c,f,g =>
  if c<(p_1.length:Int) then
   (at_ p_1 c).bind fun h =>
   if h.Kind≠4 then
    (i64 (c+1)).bind fun j =>
    km fu p_1 a d b e n j f g
   else
    (yu fu p_1 h.Name).bind fun i =>
    lk fu a b c h i (km fu p_1 a d b e n) (i.length+1) 0 f g
  else
   (app d [(pe.mk b.Name f g)]).bind fun k =>
   (i64 (a+1)).bind fun l =>
   e l k
def Ck (fu:Nat) (p_1:List na):Nat→Int→(List pe)→Option (List pe×Oc)
 | 0,_,_=>none
 | n+1,a,b =>
  if a<(p_1.length:Int) then
   (at_ p_1 a).bind fun c =>
   if c.Kind≠1 then
    (i64 (a+1)).bind fun d =>
    Ck fu p_1 n d b
   else
    km fu p_1 a b c (Ck fu p_1 n) (p_1.length+1) 0 [] []
  else
   some (b,(Oc.mk 0 0))
def Kq (fu:Nat) (p_1:List na):Nat→Int→Option (List pe×Oc)
 | 0,_=>none
 | n+1,a =>
  if a<(p_1.length:Int) then
   (at_ p_1 a).bind fun c =>
   (Nu fu p_1 c).bind fun b =>
   if b≠0 then
    some (([]:List pe),(Oc.mk b a))
   else
    (i64 (a+1)).bind fun d =>
    Kq fu p_1 n d
  else
   Ck fu p_1 (p_1.length+1) 0 []
def Lq (fu:Nat) (p_1:List na):Nat→Int→Option (List pe×Oc)
 | 0,_=>none
 | n+1,a =>
  if a<(p_1.length:Int) then
   (at_ p_1 a).bind fun c =>
   (mr p_1 c).bind fun b =>
   if b≠0 then
    some (([]:List pe),(Oc.mk b a))
   else
    (i64 (a+1)).bind fun d =>
    Lq fu p_1 n d
  else
   Kq fu p_1 (p_1.length+1) 0
def Vo (fu:Nat) (p_1:List na):Nat→Int→Int→Option (List pe×Oc)
 | 0,_,_=>none
 | n+1,i125,i126 =>
  if i126<(p_1.length:Int) then
   ps p_1 i125 i126 (Vo fu p_1 n) fu 0
  else
   if i125=0 then
    some (([]:List pe),(Oc.mk 6 (p_1.length:Int)))
   else
    Lq fu p_1 (p_1.length+1) 0
def Zq (fu:Nat)  (p_1:List na):Option (List pe×Oc):=
 (Ju fu p_1).bind fun a =>
 if a.gg≠0 then
  some (([]:List pe),a)
 else
  Vo fu p_1 (p_1.length+1) 0 0
end Go.Y
namespace Go.Y
open Go.pc Go.nd
def bl  (p_1:Jf) (p_2:pb):Option Int :=
 if p_2.Kind=3 then
  (i64 (10+((yb p_1.ij p_2.Pa).getD 0))).bind fun i19 =>
  some i19
 else
  some p_2.Kind
def Ku  (b:List (List UInt8×Int)) (a:List (List UInt8×Int)) (c:List (List UInt8×na)) (p_2:pb):Option Int :=
 if p_2.Kind=3 then
  (i64 (10+((yb a p_2.Pa).getD 0))).bind fun i22 =>
  some i22
 else
  some p_2.Kind
def mh  (j:Jf) (b:Int) (c:Int) (d:List Int) (e:Int) (f:Int) (g:List Oa) (h:List (List (List UInt8×Int))) (p_2:Int) (p_3:Int) (i:Int):Option (Int×Int×Int×List Int×Int×Int×List Oa×List (List (List UInt8×Int))):=
 (app g [(Oa.mk p_2 p_3 i)]).bind fun a =>
 (i64 ((a.length:Int) - 1)).bind fun i44 =>
 some (i44,b,c,d,e,f,a,h)
def Xk  (b:Jf) (c:Int) (d:Int) (e:List Int) (f:Int) (g:Int) (a:List Oa) (h:List (List (List UInt8×Int))):Option Int :=
 some (a.length:Int)
def kq  (j:Jf) (c:Int) (d:Int) (e:List Int) (f:Int) (g:Int) (h:List Oa) (a:List (List (List UInt8×Int))) (p_2:List UInt8) (p_3:Int):Option (Int×Int×Int×List Int×Int×Int×List Oa×List (List (List UInt8×Int))):=
 (app e [p_3]).bind fun b =>
 (i64 ((b.length:Int) - 1)).bind fun i44 =>
 (i64 ((a.length:Int) - 1)).bind fun i46 =>
 (at_ a i46).bind fun i =>
 some (i44,c,d,b,f,g,h,(a.set i46.toNat (Ue i p_2 i44)))
def Zo (p_2:List UInt8) (a:List (List (List UInt8×Int))):Nat→Int→Option Int
 | 0,_=>none
 | n+1,i45 =>
  if (0:Int)≤i45 then
   (at_ a i45).bind fun b =>
   if (yb b p_2).isSome=true then
    some ((yb b p_2).getD 0)
   else
    (i64 (i45 - 1)).bind fun i77 =>
    Zo p_2 a n i77
  else
   some 0
def mq (fu:Nat)  (b:Jf) (c:Int) (d:Int) (e:List Int) (f:Int) (g:Int) (h:List Oa) (a:List (List (List UInt8×Int))) (p_2:List UInt8):Option Int :=
 (i64 ((a.length:Int) - 1)).bind fun i28 =>
 Zo p_2 a fu i28
structure cu where
 Hi:Jf→Int→Int→(List Int)→Int→Int→(List Oa)→(List (List (List UInt8×Int)))→hb→Option (Int×Int×Int×List Int×Int×Int×List Oa×List (List (List UInt8×Int)))
def Nx (a:Int×Int×Int×List Int×Int×Int×List Oa×List (List (List UInt8×Int))) (b:Int):Option (Int×Int×Int×List Int×Int×Int×List Oa×List (List (List UInt8×Int))):=
 some (b,a.2.1,a.2.2.1,a.2.2.2.1,a.2.2.2.2.1,a.2.2.2.2.2.1,a.2.2.2.2.2.2.1,a.2.2.2.2.2.2.2)
def Ox (a:Int×Int×Int×List Int×Int×Int×List Oa×List (List (List UInt8×Int))) (b:Int):Option (Int×Int×Int×List Int×Int×Int×List Oa×List (List (List UInt8×Int))):=
 some (b,a.2.1,a.2.2.1,a.2.2.2.1,a.2.2.2.2.1,a.2.2.2.2.2.1,a.2.2.2.2.2.2.1,a.2.2.2.2.2.2.2)
def Px (a:Int×Int×Int×List Int×Int×Int×List Oa×List (List (List UInt8×Int))) (b:Int):Option (Int×Int×Int×List Int×Int×Int×List Oa×List (List (List UInt8×Int))):=
 some (b,a.2.1,a.2.2.1,a.2.2.2.1,a.2.2.2.2.1,a.2.2.2.2.2.1,a.2.2.2.2.2.2.1,a.2.2.2.2.2.2.2)
def Qq (p_2:hb) (a:Jf) (i77:Int) (i78:Int) (i79:Int) (i80:Int) (e:List Int) (f:List Oa) (g:List (List (List UInt8×Int))) (k:List Int) (l:Bool):Option (Int×Int×Int×List Int×Int×Int×List Oa×List (List (List UInt8×Int))):=
 if l=true then
  (i64 (8+p_2.Kind)).bind fun m =>
  (i64 (m - 6)).bind fun n =>
  (mh a i77 i78 e i79 i80 f g n 0 0).bind fun b =>
  if p_2.Kind≤10 then
   some (1,b.2.1,b.2.2.1,b.2.2.2.1,b.2.2.2.2.1,b.2.2.2.2.2.1,b.2.2.2.2.2.2.1,b.2.2.2.2.2.2.2)
  else
   some (2,b.2.1,b.2.2.1,b.2.2.2.1,b.2.2.2.2.1,b.2.2.2.2.2.1,b.2.2.2.2.2.2.1,b.2.2.2.2.2.2.2)
 else
  if p_2.Kind=19 then
   (mh a i77 i78 e i79 i80 f g 23 ((yb a.ij p_2.Name).getD 0) 0).bind fun o =>
   ((yb a.defs p_2.Name)).bind fun p =>
   (bl a p.Ja).bind fun q =>
   Nx o q
  else
   if p_2.Kind=20 then
    (mh a i77 i78 e i79 i80 f g 27 ((yb a.boxes p_2.Name).getD 0) 0).bind fun r =>
    ((yb a.defs p_2.Name)).bind fun s =>
    (bl a s.Ja).bind fun t =>
    Ox r t
   else
    if p_2.Kind=22 then
     (mh a i77 i78 e i79 i80 f g 29 ((yb a.ij p_2.Name).getD 0) 0).bind fun h =>
     (i64 (10+((yb a.ij p_2.Name).getD 0))).bind fun u =>
     some (u,h.2.1,h.2.2.1,h.2.2.2.1,h.2.2.2.2.1,h.2.2.2.2.2.1,h.2.2.2.2.2.2.1,h.2.2.2.2.2.2.2)
    else
     if p_2.Kind=21 then
      (mh a i77 i78 e i79 i80 f g 31 0 0).bind fun c =>
      some (c.2.2.2.2.2.1,c.2.1,c.2.2.1,c.2.2.2.1,c.2.2.2.2.1,c.2.2.2.2.2.1,c.2.2.2.2.2.2.1,c.2.2.2.2.2.2.2)
     else
      if p_2.Kind=24 then
       (mh a i77 i78 e i79 i80 f g 32 0 0).bind fun i =>
       some (2,i.2.1,i.2.2.1,i.2.2.2.1,i.2.2.2.2.1,i.2.2.2.2.2.1,i.2.2.2.2.2.2.1,i.2.2.2.2.2.2.2)
      else
       (mh a i77 i78 e i79 i80 f g 30 0 0).bind fun d =>
       (at_ k 0).bind fun v =>
       (i64 (v - 10)).bind fun w =>
       (pn a.ij w).bind fun j =>
       if j.isSome=true then
        ((yb a.defs ((j.getD ([],0)).1))).bind fun x =>
        (bl a x.Ja).bind fun y =>
        Px d y
       else
        some (0,d.2.1,d.2.2.1,d.2.2.2.1,d.2.2.2.2.1,d.2.2.2.2.2.1,d.2.2.2.2.2.2.1,d.2.2.2.2.2.2.2)
def Rm (fu:Nat) (self:cu) (p_2:hb) (a:Jf):Nat→Int→Int→Int→Int→Int→(List Int)→(List Oa)→(List (List (List UInt8×Int)))→(List Int)→Option (Int×Int×Int×List Int×Int×Int×List Oa×List (List (List UInt8×Int)))
 | 0,_,_,_,_,_,_,_,_,_=>none
 | n+1,i76,i77,i78,i79,i80,b,c,d,k =>
  if i76<(p_2.Kids.length:Int) then
   (at_ p_2.Kids i76).bind fun m =>
   (self.Hi a i77 i78 b i79 i80 c d m).bind fun e =>
   (app k [e.1]).bind fun o =>
   (i64 (i76+1)).bind fun i165 =>
   Rm fu self p_2 a n i165 e.2.1 e.2.2.1 e.2.2.2.2.1 e.2.2.2.2.2.1 e.2.2.2.1 e.2.2.2.2.2.2.1 e.2.2.2.2.2.2.2 o
  else
   if p_2.Kind=1 then
    (mh a i77 i78 b i79 i80 c d 1 0 p_2.N).bind fun g =>
    some (1,g.2.1,g.2.2.1,g.2.2.2.1,g.2.2.2.2.1,g.2.2.2.2.2.1,g.2.2.2.2.2.2.1,g.2.2.2.2.2.2.2)
   else
    if p_2.Kind=2 then
     (mh a i77 i78 b i79 i80 c d 2 p_2.N 0).bind fun h =>
     some (2,h.2.1,h.2.2.1,h.2.2.2.1,h.2.2.2.2.1,h.2.2.2.2.2.1,h.2.2.2.2.2.2.1,h.2.2.2.2.2.2.2)
    else
     if p_2.Kind=3 then
      (mq fu a i77 i78 b i79 i80 c d p_2.Name).bind fun l =>
      (mh a i77 i78 b i79 i80 c d 3 l 0).bind fun f =>
      (at_ f.2.2.2.1 l).bind fun p =>
      some (p,f.2.1,f.2.2.1,f.2.2.2.1,f.2.2.2.2.1,f.2.2.2.2.2.1,f.2.2.2.2.2.2.1,f.2.2.2.2.2.2.2)
     else
      if p_2.Kind=4 then
       (mh a i77 i78 b i79 i80 c d 6 0 0).bind fun i =>
       some (1,i.2.1,i.2.2.1,i.2.2.2.1,i.2.2.2.2.1,i.2.2.2.2.2.1,i.2.2.2.2.2.2.1,i.2.2.2.2.2.2.2)
      else
       if p_2.Kind=5 then
        (mh a i77 i78 b i79 i80 c d 7 0 0).bind fun j =>
        some (2,j.2.1,j.2.2.1,j.2.2.2.1,j.2.2.2.2.1,j.2.2.2.2.2.1,j.2.2.2.2.2.2.1,j.2.2.2.2.2.2.2)
       else
        if (6:Int)≤p_2.Kind then
         Qq p_2 a i77 i78 i79 i80 b c d k (decide (p_2.Kind≤18))
        else
         Qq p_2 a i77 i78 i79 i80 b c d k false
def Hi (fu:Nat) (self:cu) (a:Jf) (b:Int) (c:Int) (d:List Int) (e:Int) (f:Int) (g:List Oa) (h:List (List (List UInt8×Int))) (p_2:hb):Option (Int×Int×Int×List Int×Int×Int×List Oa×List (List (List UInt8×Int))):=
 Rm fu self p_2 a (p_2.Kids.length+1) 0 b c e f d g h []
def Hk:Nat→cu
 | 0=>⟨fun _ _ _ _ _ _ _ _ _=>none⟩
 | n+1=>⟨Hi n (Hk n)⟩
structure uq where
 fj:Jf→Int→Int→(List Int)→Int→Int→(List Oa)→(List (List (List UInt8×Int)))→(List cb)→Option (Int×Int×List Int×Int×Int×List Oa×List (List (List UInt8×Int)))
 Yk:Jf→Int→Int→(List Int)→Int→Int→(List Oa)→(List (List (List UInt8×Int)))→cb→Option (Int×Int×List Int×Int×Int×List Oa×List (List (List UInt8×Int)))
def Up (self:uq) (p_2:List cb) (c:Jf):Nat→Int→Int→Int→Int→Int→(List Int)→(List Oa)→(List (List (List UInt8×Int)))→Option (Int×Int×List Int×Int×Int×List Oa×List (List (List UInt8×Int)))
 | 0,_,_,_,_,_,_,_,_=>none
 | n+1,i81,i82,i83,i84,i85,d,e,b =>
  if i81<(p_2.length:Int) then
   (at_ p_2 i81).bind fun f =>
   (self.Yk c i82 i83 d i84 i85 e b f).bind fun a =>
   (i64 (i81+1)).bind fun i163 =>
   Up self p_2 c n i163 a.1 a.2.1 a.2.2.2.1 a.2.2.2.2.1 a.2.2.1 a.2.2.2.2.2.1 a.2.2.2.2.2.2
  else
   (i64 ((b.length:Int) - 1)).bind fun i165 =>
   (cut b 0 i165).bind fun g =>
   some (i82,i83,d,i84,i85,e,g)
def fj (self:uq) (a:Jf) (b:Int) (c:Int) (d:List Int) (e:Int) (f:Int) (g:List Oa) (h:List (List (List UInt8×Int))) (p_2:List cb):Option (Int×Int×List Int×Int×Int×List Oa×List (List (List UInt8×Int))):=
 (app h [[]]).bind fun i =>
 Up self p_2 a (p_2.length+1) 0 b c e f d g i
def qu (a:Int×Int×List Int×Int×Int×List Oa×List (List (List UInt8×Int))) (b:List Oa):Option (Int×Int×List Int×Int×Int×List Oa×List (List (List UInt8×Int))):=
 some (a.1,a.2.1,a.2.2.1,a.2.2.2.1,a.2.2.2.2.1,b,a.2.2.2.2.2.2)
def ru (self:uq) (p_2:cb) (c:Jf) (b:Int×Int×Int×List Int×Int×Int×List Oa×List (List (List UInt8×Int))) (e:List Oa):Option (Int×Int×List Int×Int×Int×List Oa×List (List (List UInt8×Int))):=
 (self.fj c b.2.1 b.2.2.1 b.2.2.2.1 b.2.2.2.2.1 b.2.2.2.2.2.1 e b.2.2.2.2.2.2.2 p_2.Qd).bind fun a =>
 (Xk c a.1 a.2.1 a.2.2.1 a.2.2.2.1 a.2.2.2.2.1 a.2.2.2.2.2.1 a.2.2.2.2.2.2).bind fun f =>
 (at_ a.2.2.2.2.2.1 b.1).bind fun d =>
 qu a (a.2.2.2.2.2.1.set b.1.toNat (Oa.mk d.Op f d.N))
def su (a:Int×Int×Int×List Int×Int×Int×List Oa×List (List (List UInt8×Int))) (b:List Oa):Option (Int×Int×List Int×Int×Int×List Oa×List (List (List UInt8×Int))):=
 some (a.2.1,a.2.2.1,a.2.2.2.1,a.2.2.2.2.1,a.2.2.2.2.2.1,b,a.2.2.2.2.2.2.2)
def Yk (fu:Nat) (self:uq) (b:Jf) (s:Int) (t:Int) (u:List Int) (v:Int) (w:Int) (x:List Oa) (y:List (List (List UInt8×Int))) (p_2:cb):Option (Int×Int×List Int×Int×Int×List Oa×List (List (List UInt8×Int))):=
 if p_2.Kind=3 then
  ((Hk fu).Hi b s t u v w x y p_2.X).bind fun h =>
  (mh b h.2.1 h.2.2.1 h.2.2.2.1 h.2.2.2.2.1 h.2.2.2.2.2.1 h.2.2.2.2.2.2.1 h.2.2.2.2.2.2.2 22 0 0).bind fun e =>
  (self.fj b e.2.1 e.2.2.1 e.2.2.2.1 e.2.2.2.2.1 e.2.2.2.2.2.1 e.2.2.2.2.2.2.1 e.2.2.2.2.2.2.2 p_2.Body).bind fun i =>
  (mh b i.1 i.2.1 i.2.2.1 i.2.2.2.1 i.2.2.2.2.1 i.2.2.2.2.2.1 i.2.2.2.2.2.2 21 0 0).bind fun c =>
  (Xk b c.2.1 c.2.2.1 c.2.2.2.1 c.2.2.2.2.1 c.2.2.2.2.2.1 c.2.2.2.2.2.2.1 c.2.2.2.2.2.2.2).bind fun B =>
  (at_ c.2.2.2.2.2.2.1 e.1).bind fun z =>
  ru self p_2 b c (c.2.2.2.2.2.2.1.set e.1.toNat (Oa.mk z.Op B z.N))
 else
  if p_2.Kind=4 then
   (Xk b s t u v w x y).bind fun C =>
   ((Hk fu).Hi b s t u v w x y p_2.X).bind fun j =>
   (mh b j.2.1 j.2.2.1 j.2.2.2.1 j.2.2.2.2.1 j.2.2.2.2.2.1 j.2.2.2.2.2.2.1 j.2.2.2.2.2.2.2 22 0 0).bind fun f =>
   (self.fj b f.2.1 f.2.2.1 f.2.2.2.1 f.2.2.2.2.1 f.2.2.2.2.2.1 f.2.2.2.2.2.2.1 f.2.2.2.2.2.2.2 p_2.Body).bind fun k =>
   (mh b k.1 k.2.1 k.2.2.1 k.2.2.2.1 k.2.2.2.2.1 k.2.2.2.2.2.1 k.2.2.2.2.2.2 21 C 0).bind fun d =>
   (Xk b d.2.1 d.2.2.1 d.2.2.2.1 d.2.2.2.2.1 d.2.2.2.2.2.1 d.2.2.2.2.2.2.1 d.2.2.2.2.2.2.2).bind fun D =>
   (at_ d.2.2.2.2.2.2.1 f.1).bind fun A =>
   su d (d.2.2.2.2.2.2.1.set f.1.toNat (Oa.mk A.Op D A.N))
  else
   if p_2.Kind=6 then
    (mh b s t u v w x y 25 0 0).bind fun l =>
    some (l.2.1,l.2.2.1,l.2.2.2.1,l.2.2.2.2.1,l.2.2.2.2.2.1,l.2.2.2.2.2.2.1,l.2.2.2.2.2.2.2)
   else
    ((Hk fu).Hi b s t u v w x y p_2.X).bind fun a =>
    if p_2.Kind=1 then
     (kq b a.2.1 a.2.2.1 a.2.2.2.1 a.2.2.2.2.1 a.2.2.2.2.2.1 a.2.2.2.2.2.2.1 a.2.2.2.2.2.2.2 p_2.Name a.1).bind fun g =>
     (mh b g.2.1 g.2.2.1 g.2.2.2.1 g.2.2.2.2.1 g.2.2.2.2.2.1 g.2.2.2.2.2.2.1 g.2.2.2.2.2.2.2 4 g.1 0).bind fun m =>
     some (m.2.1,m.2.2.1,m.2.2.2.1,m.2.2.2.2.1,m.2.2.2.2.2.1,m.2.2.2.2.2.2.1,m.2.2.2.2.2.2.2)
    else
     if p_2.Kind=2 then
      (mq fu b a.2.1 a.2.2.1 a.2.2.2.1 a.2.2.2.2.1 a.2.2.2.2.2.1 a.2.2.2.2.2.2.1 a.2.2.2.2.2.2.2 p_2.Name).bind fun E =>
      (mh b a.2.1 a.2.2.1 a.2.2.2.1 a.2.2.2.2.1 a.2.2.2.2.2.1 a.2.2.2.2.2.2.1 a.2.2.2.2.2.2.2 4 E 0).bind fun n =>
      some (n.2.1,n.2.2.1,n.2.2.2.1,n.2.2.2.2.1,n.2.2.2.2.2.1,n.2.2.2.2.2.2.1,n.2.2.2.2.2.2.2)
     else
      if p_2.Kind=5 then
       (mh b a.2.1 a.2.2.1 a.2.2.2.1 a.2.2.2.2.1 a.2.2.2.2.2.1 a.2.2.2.2.2.2.1 a.2.2.2.2.2.2.2 24 0 0).bind fun o =>
       some (o.2.1,o.2.2.1,o.2.2.2.1,o.2.2.2.2.1,o.2.2.2.2.2.1,o.2.2.2.2.2.2.1,o.2.2.2.2.2.2.2)
      else
       if p_2.Kind=7 then
        (mh b a.2.1 a.2.2.1 a.2.2.2.1 a.2.2.2.2.1 a.2.2.2.2.2.1 a.2.2.2.2.2.2.1 a.2.2.2.2.2.2.2 26 ((yb b.boxes p_2.Name).getD 0) 0).bind fun p =>
        some (p.2.1,p.2.2.1,p.2.2.2.1,p.2.2.2.2.1,p.2.2.2.2.2.1,p.2.2.2.2.2.2.1,p.2.2.2.2.2.2.2)
       else
        if p_2.Kind=8 then
         (mh b a.2.1 a.2.2.1 a.2.2.2.1 a.2.2.2.2.1 a.2.2.2.2.2.1 a.2.2.2.2.2.2.1 a.2.2.2.2.2.2.2 28 0 0).bind fun q =>
         some (q.2.1,q.2.2.1,q.2.2.2.1,q.2.2.2.2.1,q.2.2.2.2.2.1,q.2.2.2.2.2.2.1,q.2.2.2.2.2.2.2)
        else
         if p_2.Kind=9 then
          (mh b a.2.1 a.2.2.1 a.2.2.2.1 a.2.2.2.2.1 a.2.2.2.2.2.1 a.2.2.2.2.2.2.1 a.2.2.2.2.2.2.2 5 0 0).bind fun r =>
          some (r.2.1,r.2.2.1,r.2.2.2.1,r.2.2.2.2.1,r.2.2.2.2.2.1,r.2.2.2.2.2.2.1,r.2.2.2.2.2.2.2)
         else
          some (a.2.1,a.2.2.1,a.2.2.2.1,a.2.2.2.2.1,a.2.2.2.2.2.1,a.2.2.2.2.2.2.1,a.2.2.2.2.2.2.2)
def Zk:Nat→uq
 | 0=>⟨fun _ _ _ _ _ _ _ _ _=>none,fun _ _ _ _ _ _ _ _ _=>none⟩
 | n+1=>⟨fj (Zk n),Yk n (Zk n)⟩
def Vp (p_1:Jf) (b:List (List (List UInt8×Int))) (i232:Int) (i233:Int) (i234:Int) (c:Int) (d:List Int) (e:List Oa):Option Xf :=
 (mh p_1 i232 i233 d i234 c e b 24 0 0).bind fun a =>
 some (Xf.mk a.2.1 a.2.2.1 a.2.2.2.1 a.2.2.2.2.1 a.2.2.2.2.2.1 a.2.2.2.2.2.2.1)
def Wp (fu:Nat) (p_1:Jf) (p_2:na) (e:List (List (List UInt8×Int))) (i40:Int) (i41:Int) (i42:Int) (f:List Int) (g:List Oa) (i187:Int):Option Xf :=
 ((Zk fu).fj p_1 i40 i41 f i42 i187 g e p_2.Body).bind fun a =>
 if p_2.Kind≠2 then
  (mh p_1 a.1 a.2.1 a.2.2.1 a.2.2.2.1 a.2.2.2.2.1 a.2.2.2.2.2.1 a.2.2.2.2.2.2 25 0 0).bind fun d =>
  some (Xf.mk d.2.1 d.2.2.1 d.2.2.2.1 d.2.2.2.2.1 d.2.2.2.2.2.1 d.2.2.2.2.2.2.1)
 else
  if a.2.2.2.1=2 then
   (mh p_1 a.1 a.2.1 a.2.2.1 a.2.2.2.1 a.2.2.2.2.1 a.2.2.2.2.2.1 a.2.2.2.2.2.2 2 0 0).bind fun b =>
   Vp p_1 b.2.2.2.2.2.2.2 b.2.1 b.2.2.1 b.2.2.2.2.1 b.2.2.2.2.2.1 b.2.2.2.1 b.2.2.2.2.2.2.1
  else
   (mh p_1 a.1 a.2.1 a.2.2.1 a.2.2.2.1 a.2.2.2.2.1 a.2.2.2.2.2.1 a.2.2.2.2.2.2 1 0 0).bind fun c =>
   Vp p_1 c.2.2.2.2.2.2.2 c.2.1 c.2.2.1 c.2.2.2.2.1 c.2.2.2.2.2.1 c.2.2.2.1 c.2.2.2.2.2.2.1
def Xp (fu:Nat) (p_1:Jf) (p_2:na) (a:List (List (List UInt8×Int))) (i40:Int) (i41:Int) (i42:Int) (i43:Int) (b:List Int) (c:List Oa):Option Xf :=
 if p_2.Kind=3 then
  (bl p_1 p_2.eb).bind fun d =>
  Wp fu p_1 p_2 a i40 i41 i42 b c d
 else
  Wp fu p_1 p_2 a i40 i41 i42 b c i43
def tu (i87:Int) (a:Int→(List (List (List UInt8×Int)))→Int→Int→Int→Int→(List Int)→(List Oa)→Option Xf) (b:List (List (List UInt8×Int))) (i150:Int) (i151:Int) (i152:Int) (i153:Int) (c:List Int) (d:List Oa):Option Xf :=
 (i64 (i87+1)).bind fun i181 =>
 a i181 b i150 i151 i152 i153 c d
def bp (fu:Nat) (p_1:Jf) (p_2:na):Nat→Int→(List (List (List UInt8×Int)))→Int→Int→Int→Int→(List Int)→(List Oa)→Option Xf
 | 0,_,_,_,_,_,_,_,_=>none
 | n+1,i87,b,i92,i93,i94,i95,c,d =>
  if i87<(p_2.Params.length:Int) then
   (at_ p_2.Params i87).bind fun e =>
   (bl p_1 e.Ja).bind fun f =>
   (kq p_1 i92 i93 c i94 i95 d b e.Name f).bind fun a =>
   tu i87 (bp fu p_1 p_2 n) a.2.2.2.2.2.2.2 a.2.1 a.2.2.1 a.2.2.2.2.1 a.2.2.2.2.2.1 a.2.2.2.1 a.2.2.2.2.2.2.1
  else
   Xp fu p_1 p_2 b i92 i93 i94 i95 c d
def uu (fu:Nat) (p_1:Jf) (p_2:na) (i53:Int):Option Xf :=
 bp fu p_1 p_2 (p_2.Params.length+1) 0 [([]:List (List UInt8×Int))] p_2.Kind (p_2.Params.length:Int) i53 0 [] []
def ir (fu:Nat)  (p_1:Jf) (p_2:na):Option Xf :=
 if p_2.Kind≠4 then
  (bl p_1 p_2.Ja).bind fun a =>
  uu fu p_1 p_2 a
 else
  Xp fu p_1 p_2 [([]:List (List UInt8×Int))] p_2.Kind 0 0 0 [] []
def Mr (a:Oc):Option (ug×Oc):=
 some ((ug.mk ([]:List bh) ([]:List Xf)),a)
def Nr (i163:Int) (a:List (List UInt8×Int)) (b:List (List UInt8×na)) (c:na) (d:na) (e:List (List UInt8×Int)) (f:Int→(List (List UInt8×Int))→(List (List UInt8×Int))→(List (List UInt8×na))→(List bh)→Option (ug×Oc)) (g:List bh):Option (ug×Oc):=
 (i64 (i163+1)).bind fun h =>
 f h e a (Ue b c.Name d) g
def Pr (p_1:List na) (i163:Int) (a:List (List UInt8×Int)) (b:List (List UInt8×na)) (f:List bh) (c:na) (d:na) (g:Int→(List (List UInt8×Int))→(List (List UInt8×Int))→(List (List UInt8×na))→(List bh)→Option (ug×Oc)) (e:List (List UInt8×Int)):Option (ug×Oc):=
 (at_ p_1 i163).bind fun h =>
 (at_ p_1 i163).bind fun i =>
 (Ku e a (Ue b c.Name d) h.Ja).bind fun j =>
 (app f [(bh.mk j i.oc)]).bind fun k =>
 Nr i163 a b c d e g k
def Qr (i163:Int) (a:List (List UInt8×Int)) (b:List (List UInt8×na)) (c:List bh) (d:na) (e:na) (f:Int→(List (List UInt8×Int))→(List (List UInt8×Int))→(List (List UInt8×na))→(List bh)→Option (ug×Oc)) (g:List (List UInt8×Int)):Option (ug×Oc):=
 (i64 (i163+1)).bind fun h =>
 f h a g (Ue b d.Name e) c
def Kn (a:Int) (b:List Xf) (c:Xf) (d:Int→(List Xf)→Option (ug×Oc)) (e:Bool):Option (ug×Oc):=
 if e=true then
  some ((ug.mk ([]:List bh) ([]:List Xf)),(Oc.mk 5 a))
 else
  (app b [c]).bind fun f =>
  (i64 (a+1)).bind fun g =>
  d g f
def Pj (fu:Nat) (p_1:List na) (b:List (List UInt8×Int)) (c:List (List UInt8×Int)) (d:List (List UInt8×na)) (e:List bh):Nat→Int→(List Xf)→Option (ug×Oc)
 | 0,_,_=>none
 | n+1,a,f =>
  if a<(p_1.length:Int) then
   (at_ p_1 a).bind fun h =>
   if h.Kind=1 then
    (i64 (a+1)).bind fun i =>
    Pj fu p_1 b c d e n i f
   else
    (at_ p_1 a).bind fun j =>
    (ir fu (Jf.mk b c d) j).bind fun g =>
    if (200:Int)<(g.wi.length:Int) then
     Kn a f g (Pj fu p_1 b c d e n) true
    else
     Kn a f g (Pj fu p_1 b c d e n) (decide ((4000:Int)<(g.Code.length:Int)))
  else
   some ((ug.mk e f),(Oc.mk 0 0))
def Sk (fu:Nat) (p_1:List na):Nat→Int→(List (List UInt8×Int))→(List (List UInt8×Int))→(List (List UInt8×na))→(List bh)→Option (ug×Oc)
 | 0,_,_,_,_,_=>none
 | n+1,i163,a,b,c,d =>
  if i163<(p_1.length:Int) then
   (at_ p_1 i163).bind fun e =>
   (at_ p_1 i163).bind fun f =>
   (at_ p_1 i163).bind fun g =>
   if g.Kind=1 then
    (at_ p_1 i163).bind fun h =>
    Pr p_1 i163 b c d e f (Sk fu p_1 n) (Ue a h.Name (a.length:Int))
   else
    (at_ p_1 i163).bind fun i =>
    Qr i163 a c d e f (Sk fu p_1 n) (Ue b i.Name (b.length:Int))
  else
   Pj fu p_1 a b c d (p_1.length+1) 0 []
def Wn (fu:Nat)  (p_1:List na):Option (ug×Oc):=
 (Ss fu p_1).bind fun a =>
 if a.gg≠0 then
  Mr a
 else
  Sk fu p_1 (p_1.length+1) 0 ([]:List (List UInt8×Int)) ([]:List (List UInt8×Int)) ([]:List (List UInt8×na)) []
end Go.Y
namespace Go.Y
open Go.pc Go.nd
def ts (p_2:List UInt8) (i60:Int) (i61:Int) (i62:Int) (a:na) (b:Int→Int→Int→Option Int) (c:Bool):Option Int :=
 if c=true then
  some i60
 else
  if a.Name=p_2 then
   some i61
  else
   if a.Kind=1 then
    (i64 (i60+1)).bind fun i113 =>
    (i64 (i62+1)).bind fun i115 =>
    b i113 i61 i115
   else
    (i64 (i61+1)).bind fun i117 =>
    (i64 (i62+1)).bind fun i119 =>
    b i60 i117 i119
def Wo (a:List na) (p_2:List UInt8):Nat→Int→Int→Int→Option Int
 | 0,_,_,_=>none
 | n+1,i60,i61,i62 =>
  if i62<(a.length:Int) then
   (at_ a i62).bind fun b =>
   if b.Name=p_2 then
    ts p_2 i60 i61 i62 b (Wo a p_2 n) (decide (b.Kind=1))
   else
    ts p_2 i60 i61 i62 b (Wo a p_2 n) false
  else
   some 0
def rm  (a:List na) (b:Bool) (c:Int) (d:List UInt8) (e:Int) (f:List UInt8) (g:Int) (h:List UInt8) (i:Int) (j:List TParam) (k:List cb) (l:List Int) (m:List Vb) (n:List Int) (p_2:List UInt8):Option Int :=
 Wo a p_2 (a.length+1) 0 0 0
def sk  (a:List na) (b:Bool) (c:Int) (d:List UInt8) (e:Int) (f:List UInt8) (g:Int) (h:List UInt8) (i:Int) (j:List TParam) (k:List cb) (l:List Int) (m:List Vb) (n:List Int) (p_2:pb):Option Int :=
 if p_2.Kind=3 then
  (rm a b c d e f g h i j k l m n p_2.Pa).bind fun o =>
  (i64 (10+o)).bind fun i40 =>
  some i40
 else
  some p_2.Kind
def lq (a:List na) (p_2:List UInt8):Nat→Int→Option na
 | 0,_=>none
 | n+1,i60 =>
  if i60<(a.length:Int) then
   (at_ a i60).bind fun b =>
   if b.Name=p_2 then
    some b
   else
    (i64 (i60+1)).bind fun i98 =>
    lq a p_2 n i98
  else
   some (na.mk 0 [] (pb.mk 0 []) (pb.mk 0 []) 0 ([]:List TParam) ([]:List cb))
def Rt  (a:List na) (b:Bool) (c:Int) (d:List UInt8) (e:Int) (f:List UInt8) (g:Int) (h:List UInt8) (i:Int) (j:List TParam) (k:List cb) (l:List Int) (m:List Vb) (n:List Int) (p_2:List UInt8):Option na :=
 lq a p_2 (a.length+1) 0
def Wq (p_2:List UInt8) (b:List Vb) (a:List Int):Nat→Int→Option Int
 | 0,_=>none
 | n+1,i80 =>
  if (0:Int)≤i80 then
   (at_ a i80).bind fun c =>
   (at_ b c).bind fun d =>
   if d.Name=p_2 then
    (at_ a i80).bind fun e =>
    some e
   else
    (i64 (i80 - 1)).bind fun i170 =>
    Wq p_2 b a n i170
  else
   some 0
def It (fu:Nat)  (c:List na) (d:Bool) (e:Int) (f:List UInt8) (g:Int) (h:List UInt8) (i:Int) (j:List UInt8) (k:Int) (l:List TParam) (m:List cb) (n:List Int) (b:List Vb) (a:List Int) (p_2:List UInt8):Option Int :=
 (i64 ((a.length:Int) - 1)).bind fun i34 =>
 Wq p_2 b a fu i34
def St  (g:List na) (h:Bool) (i:Int) (j:List UInt8) (k:Int) (l:List UInt8) (m:Int) (n:List UInt8) (o:Int) (p:List TParam) (q:List cb) (b:List Int) (c:List Vb) (d:List Int) (p_2:List UInt8) (p_3:Int):Option (Int×List Int×List Vb×List Int):=
 (app b [p_3]).bind fun a =>
 (app c [(Vb.mk p_2 [])]).bind fun e =>
 (i64 ((a.length:Int) - 1)).bind fun i57 =>
 (app d [i57]).bind fun f =>
 some (i57,a,e,f)
def zs (i45:Int) (b:List Oa) (a:Oa) (c:Int→(List Oa)→Option (List Oa)) (i91:Int):Option (List Oa):=
 (app b [(Oa.mk a.Op i91 a.N)]).bind fun d =>
 (i64 (i45+1)).bind fun i103 =>
 c i103 d
def As (p_1:List Oa) (i45:Int) (b:List Oa) (a:Oa) (c:Int→(List Oa)→Option (List Oa)) (d:Bool):Option (List Oa):=
 if d=true then
  (i64 (a.A+(p_1.length:Int))).bind fun i93 =>
  zs i45 b a c i93
 else
  zs i45 b a c a.A
def Km (p_1:List Oa) (p_2:List Oa):Nat→Int→(List Oa)→Option (List Oa)
 | 0,_,_=>none
 | n+1,i45,b =>
  if i45<(p_2.length:Int) then
   (at_ p_2 i45).bind fun a =>
   if a.Op=21 then
    As p_1 i45 b a (Km p_1 p_2 n) true
   else
    As p_1 i45 b a (Km p_1 p_2 n) (decide (a.Op=22))
  else
   some b
def Zm  (p_1:List Oa) (p_2:List Oa):Option (List Oa):=
 (app ([]:List Oa) p_1).bind fun a =>
 Km p_1 p_2 (p_2.length+1) 0 a
def Lg  (p_1:Int) (p_2:Int):Option Oa :=
 some (Oa.mk p_1 p_2 0)
def Ft  (b:List na) (a:Bool) (c:Int) (d:List UInt8) (e:Int) (f:List UInt8) (g:Int) (h:List UInt8) (i:Int) (j:List TParam) (k:List cb) (l:List Int) (m:List Vb) (n:List Int):Option (List Oa):=
 if a=true then
  some ([(Oa.mk 99 0 0)]:List Oa)
 else
  some ([]:List Oa)
def ow (p_3:Int) (a:List Oa):Option (List Oa×Int):=
 some (a,p_3)
def Jk  (p_1:Int) (p_2:Int) (p_3:Int) (z2:List Oa):Option (List Oa×Int):=
 (Lg p_1 p_2).bind fun a =>
 (app z2 [a]).bind fun b =>
 ow p_3 b
structure gu where
 cl:(List na)→Bool→Int→(List UInt8)→Int→(List UInt8)→Int→(List UInt8)→Int→(List TParam)→(List cb)→(List Int)→(List Vb)→(List Int)→hb→Option (List Oa×Int)
def Vx  (i229:Int) (a:List Oa):Option (List Oa×Int):=
 some (a,i229)
def Wx  (a:Int) (b:List Oa):Option (List Oa×Int):=
 some (b,a)
def Xx  (a:Int) (b:List Oa):Option (List Oa×Int):=
 some (b,a)
def ft (p_2:hb) (b:List Oa) (c:Int):Option (List Oa×Int):=
 (i64 (p_2.Kind - 6)).bind fun d =>
 (i64 (d+8)).bind fun e =>
 (Jk e 0 c b).bind fun a =>
 some (a.1,a.2)
def ht (c:List na) (d:Bool) (e:Int) (f:List UInt8) (g:Int) (h:List UInt8) (i:Int) (j:List UInt8) (k:Int) (l:List TParam) (m:List cb) (n:List Int) (o:List Vb) (p:List Int) (q:Int) (a:Int) (r:na) (b:Int→Int→Option (List Oa×Int)) (s:Bool):Option (List Oa×Int):=
 if s=true then
  (sk c d e f g h i j k l m n o p r.Ja).bind fun r413 =>
  (i64 (a+1)).bind fun t =>
  b r413 t
 else
  (i64 (a+1)).bind fun u =>
  b q u
def dq (a:List na) (b:Bool) (c:Int) (d:List UInt8) (e:Int) (f:List UInt8) (g:Int) (h:List UInt8) (i:Int) (j:List TParam) (k:List cb) (l:List Int) (m:List Vb) (o:List Int) (i88:Int) (r:List Oa):Nat→Int→Int→Option (List Oa×Int)
 | 0,_,_=>none
 | n+1,s,p =>
  if p<(a.length:Int) then
   (at_ a p).bind fun q =>
   if q.Kind=3 then
    (rm a b c d e f g h i j k l m o q.Name).bind fun u =>
    (i64 (10+u)).bind fun v =>
    ht a b c d e f g h i j k l m o s p q (dq a b c d e f g h i j k l m o i88 r n) (decide (v=i88))
   else
    ht a b c d e f g h i j k l m o s p q (dq a b c d e f g h i j k l m o i88 r n) false
  else
   (Jk 30 0 s r).bind fun t =>
   some (t.1,t.2)
def fo (fu:Nat) (self:gu) (a:List na) (p_2:hb) (e:Bool) (f:Int) (g:List UInt8) (h:Int) (i:List UInt8) (b:Int) (c:List UInt8) (j:Int) (k:List TParam) (l:List cb) (d:List Int) (m:List Vb) (o:List Int):Nat→Int→Int→(List Oa)→Option (List Oa×Int)
 | 0,_,_,_=>none
 | n+1,i88,i89,p =>
  if i89<(p_2.Kids.length:Int) then
   (at_ p_2.Kids i89).bind fun C =>
   (self.cl a e f g h i b c j k l d m o C).bind fun q =>
   (Zm p q.1).bind fun r =>
   if i89=0 then
    (i64 (i89+1)).bind fun i171 =>
    fo fu self a p_2 e f g h i b c j k l d m o n q.2 i171 r
   else
    (i64 (i89+1)).bind fun i173 =>
    fo fu self a p_2 e f g h i b c j k l d m o n i88 i173 r
  else
   if p_2.Kind=1 then
    (app p [(Oa.mk 1 0 p_2.N)]).bind fun D =>
    some (D,1)
   else
    if p_2.Kind=2 then
     (Jk 2 p_2.N 2 p).bind fun s =>
     some (s.1,s.2)
    else
     if p_2.Kind=3 then
      (It fu a e f g h i b c j k l d m o p_2.Name).bind fun t =>
      (at_ d t).bind fun E =>
      (Jk 3 t E p).bind fun u =>
      some (u.1,u.2)
     else
      if p_2.Kind=4 then
       (Jk 6 0 1 p).bind fun v =>
       some (v.1,v.2)
      else
       if p_2.Kind=5 then
        (Jk 7 0 2 p).bind fun w =>
        some (w.1,w.2)
       else
        if p_2.Kind=19 then
         (rm a e f g h i b c j k l d m o p_2.Name).bind fun F =>
         (Rt a e f g h i b c j k l d m o p_2.Name).bind fun G =>
         (sk a e f g h i b c j k l d m o G.Ja).bind fun H =>
         (Jk 23 F H p).bind fun x =>
         Vx x.2 x.1
        else
         if p_2.Kind=20 then
          (rm a e f g h i b c j k l d m o p_2.Name).bind fun K =>
          (Rt a e f g h i b c j k l d m o p_2.Name).bind fun L =>
          (sk a e f g h i b c j k l d m o L.Ja).bind fun M =>
          (Jk 27 K M p).bind fun y =>
          Wx y.2 y.1
         else
          if p_2.Kind=21 then
           (sk a e f g h i b c j k l d m o (pb.mk b c)).bind fun O =>
           (Jk 31 0 O p).bind fun z =>
           some (z.1,z.2)
          else
           if p_2.Kind=22 then
            (rm a e f g h i b c j k l d m o p_2.Name).bind fun P =>
            (rm a e f g h i b c j k l d m o p_2.Name).bind fun Q =>
            (i64 (10+Q)).bind fun R =>
            (Jk 29 P R p).bind fun A =>
            Xx A.2 A.1
           else
            if p_2.Kind=24 then
             (Jk 32 0 2 p).bind fun B =>
             some (B.1,B.2)
            else
             if p_2.Kind=23 then
              dq a e f g h i b c j k l d m o i88 p (a.length+1) 0 0
             else
              if p_2.Kind≤10 then
               ft p_2 p 1
              else
               ft p_2 p 2
def cl (fu:Nat) (self:gu) (a:List na) (b:Bool) (c:Int) (d:List UInt8) (e:Int) (f:List UInt8) (g:Int) (h:List UInt8) (i:Int) (j:List TParam) (k:List cb) (l:List Int) (m:List Vb) (n:List Int) (p_2:hb):Option (List Oa×Int):=
 (Ft a b c d e f g h i j k l m n).bind fun o =>
 fo fu self a p_2 b c d e f g h i j k l m n (p_2.Kids.length+1) 0 0 o
def qp:Nat→gu
 | 0=>⟨fun _ _ _ _ _ _ _ _ _ _ _ _ _ _ _=>none⟩
 | n+1=>⟨cl n (qp n)⟩
structure Dr where
 Uj:(List na)→Bool→Int→(List UInt8)→Int→(List UInt8)→Int→(List UInt8)→Int→(List TParam)→(List cb)→(List Int)→(List Vb)→(List Int)→(List cb)→Option (List Oa×List Int×List Vb×List Int)
 kn:(List na)→Bool→Int→(List UInt8)→Int→(List UInt8)→Int→(List UInt8)→Int→(List TParam)→(List cb)→(List Int)→(List Vb)→(List Int)→cb→Option (List Oa×List Int×List Vb×List Int)
def Ps (self:Dr) (b:List na) (p_2:List cb) (c:Bool) (d:Int) (e:List UInt8) (f:Int) (g:List UInt8) (h:Int) (i:List UInt8) (j:Int) (k:List TParam) (l:List cb) (m:List Int):Nat→Int→(List Int)→(List Vb)→(List Int)→(List Oa)→Option (List Oa×List Int×List Vb×List Int)
 | 0,_,_,_,_,_=>none
 | n+1,i96,o,p,q,r =>
  if i96<(p_2.length:Int) then
   (at_ p_2 i96).bind fun s =>
   (self.kn b c d e f g h i j k l o p q s).bind fun a =>
   (Zm r a.1).bind fun t =>
   (i64 (i96+1)).bind fun u =>
   Ps self b p_2 c d e f g h i j k l m n u a.2.1 a.2.2.1 a.2.2.2 t
  else
   (cut q 0 (m.length:Int)).bind fun v =>
   some (r,o,p,v)
def Uj (self:Dr) (b:List na) (c:Bool) (d:Int) (e:List UInt8) (f:Int) (g:List UInt8) (h:Int) (i:List UInt8) (j:Int) (k:List TParam) (l:List cb) (m:List Int) (n:List Vb) (a:List Int) (p_2:List cb):Option (List Oa×List Int×List Vb×List Int):=
 Ps self b p_2 c d e f g h i j k l a (p_2.length+1) 0 m n a []
def zu (b:List Oa) (a:List Oa×List Int×List Vb×List Int) (i205:Int):Option (List Oa×List Int×List Vb×List Int):=
 (i64 ((b.length:Int)+1)).bind fun i208 =>
 (i64 (i208+(a.1.length:Int))).bind fun i210 =>
 (i64 (i210+1)).bind fun i212 =>
 (Lg 22 i212).bind fun c =>
 (app b [c]).bind fun d =>
 (Zm d a.1).bind fun e =>
 (Lg 21 i205).bind fun f =>
 (app e [f]).bind fun g =>
 some (g,a.2.1,a.2.2.1,a.2.2.2)
def kn (fu:Nat) (self:Dr) (f:List na) (e:Bool) (g:Int) (h:List UInt8) (i:Int) (j:List UInt8) (k:Int) (l:List UInt8) (m:Int) (n:List TParam) (o:List cb) (a:List Int) (b:List Vb) (c:List Int) (p_2:cb):Option (List Oa×List Int×List Vb×List Int):=
 (Ft f e g h i j k l m n o a b c).bind fun s =>
 if p_2.Kind=6 then
  (Lg 25 0).bind fun w =>
  (app s [w]).bind fun x =>
  some (x,a,b,c)
 else
  ((qp fu).cl f e g h i j k l m n o a b c p_2.X).bind fun t =>
  (Zm s t.1).bind fun d =>
  if p_2.Kind=3 then
   (self.Uj f e g h i j k l m n o a b c p_2.Body).bind fun p =>
   (self.Uj f e g h i j k l m n o p.2.1 p.2.2.1 p.2.2.2 p_2.Qd).bind fun q =>
   (i64 ((d.length:Int)+1)).bind fun i127 =>
   (i64 (i127+(p.1.length:Int))).bind fun i129 =>
   (i64 (i129+1)).bind fun i131 =>
   (Lg 22 i131).bind fun y =>
   (app d [y]).bind fun z =>
   (Zm z p.1).bind fun u =>
   (i64 ((u.length:Int)+1)).bind fun i159 =>
   (i64 (i159+(q.1.length:Int))).bind fun i161 =>
   (Lg 21 i161).bind fun A =>
   (app u [A]).bind fun B =>
   (Zm B q.1).bind fun C =>
   some (C,q.2.1,q.2.2.1,q.2.2.2)
  else
   if p_2.Kind=4 then
    (self.Uj f e g h i j k l m n o a b c p_2.Body).bind fun v =>
    if e=true then
     zu d v 1
    else
     zu d v 0
   else
    if p_2.Kind=1 then
     (St f e g h i j k l m n o a b c p_2.Name t.2).bind fun r =>
     (Lg 4 r.1).bind fun D =>
     (app d [D]).bind fun E =>
     some (E,r.2.1,r.2.2.1,r.2.2.2)
    else
     if p_2.Kind=2 then
      (It fu f e g h i j k l m n o a b c p_2.Name).bind fun F =>
      (Lg 4 F).bind fun G =>
      (app d [G]).bind fun H =>
      some (H,a,b,c)
     else
      if p_2.Kind=5 then
       (Lg 24 0).bind fun K =>
       (app d [K]).bind fun L =>
       some (L,a,b,c)
      else
       if p_2.Kind=7 then
        (rm f e g h i j k l m n o a b c p_2.Name).bind fun M =>
        (Lg 26 M).bind fun N =>
        (app d [N]).bind fun O =>
        some (O,a,b,c)
       else
        if p_2.Kind=8 then
         (Lg 28 0).bind fun P =>
         (app d [P]).bind fun Q =>
         some (Q,a,b,c)
        else
         (Lg 5 0).bind fun R =>
         (app d [R]).bind fun S =>
         some (S,a,b,c)
def rp:Nat→Dr
 | 0=>⟨fun _ _ _ _ _ _ _ _ _ _ _ _ _ _ _=>none,fun _ _ _ _ _ _ _ _ _ _ _ _ _ _ _=>none⟩
 | n+1=>⟨Uj (rp n),kn n (rp n)⟩
def fq (p_2:na) (i24:Int) (i25:Int) (i166:Int) (a:List Oa×List Int×List Vb×List Int) (b:List Oa):Option Xf :=
 some (Xf.mk p_2.Kind i24 a.2.1 i25 i166 b)
def Zv (p_2:na) (i24:Int) (i25:Int) (i166:Int) (a:List Oa×List Int×List Vb×List Int) (b:List Oa):Option Xf :=
 fq p_2 i24 i25 i166 a b
def aw (p_2:na) (i24:Int) (i25:Int) (i166:Int) (a:List Oa×List Int×List Vb×List Int) (b:List Oa):Option Xf :=
 fq p_2 i24 i25 i166 a b
def bw (p_2:na) (i24:Int) (i25:Int) (i166:Int) (a:List Oa×List Int×List Vb×List Int) (b:List Oa):Option Xf :=
 fq p_2 i24 i25 i166 a b
def jt (fu:Nat) (p_1:List na) (p_2:na) (p_3:Bool) (i24:Int) (i25:Int) (b:List Int) (c:List Vb) (d:List Int) (i166:Int):Option Xf :=
 ((rp fu).Uj p_1 p_3 p_2.Kind p_2.Name p_2.Ja.Kind p_2.Ja.Pa p_2.eb.Kind p_2.eb.Pa p_2.oc p_2.Params p_2.Body b c d p_2.Body).bind fun a =>
 if p_2.Kind≠2 then
  (Lg 25 0).bind fun e =>
  (app a.1 [e]).bind fun f =>
  Zv p_2 i24 i25 i166 a f
 else
  if i25=2 then
   (Lg 2 0).bind fun g =>
   (Lg 24 0).bind fun h =>
   (app a.1 [g,h]).bind fun i =>
   aw p_2 i24 i25 i166 a i
  else
   (Lg 1 0).bind fun j =>
   (Lg 24 0).bind fun k =>
   (app a.1 [j,k]).bind fun l =>
   bw p_2 i24 i25 i166 a l
def kt (fu:Nat) (p_1:List na) (p_2:na) (p_3:Bool) (i24:Int) (i25:Int) (a:List Int) (b:List Vb) (c:List Int):Option Xf :=
 if p_2.Kind=3 then
  (sk p_1 p_3 p_2.Kind p_2.Name p_2.Ja.Kind p_2.Ja.Pa p_2.eb.Kind p_2.eb.Pa p_2.oc p_2.Params p_2.Body a b c p_2.eb).bind fun d =>
  jt fu p_1 p_2 p_3 i24 i25 a b c d
 else
  jt fu p_1 p_2 p_3 i24 i25 a b c 0
def cw (i74:Int) (a:Int→(List Int)→(List Vb)→(List Int)→Option Xf) (b:List Int) (c:List Vb) (d:List Int):Option Xf :=
 (i64 (i74+1)).bind fun i160 =>
 a i160 b c d
def Xq (fu:Nat) (p_1:List na) (p_2:na) (p_3:Bool) (i39:Int):Nat→Int→(List Int)→(List Vb)→(List Int)→Option Xf
 | 0,_,_,_,_=>none
 | n+1,i74,a,b,c =>
  if i74<(p_2.Params.length:Int) then
   (at_ p_2.Params i74).bind fun e =>
   (sk p_1 p_3 p_2.Kind p_2.Name p_2.Ja.Kind p_2.Ja.Pa p_2.eb.Kind p_2.eb.Pa p_2.oc p_2.Params p_2.Body a b c e.Ja).bind fun f =>
   (St p_1 p_3 p_2.Kind p_2.Name p_2.Ja.Kind p_2.Ja.Pa p_2.eb.Kind p_2.eb.Pa p_2.oc p_2.Params p_2.Body a b c e.Name f).bind fun d =>
   cw i74 (Xq fu p_1 p_2 p_3 i39 n) d.2.1 d.2.2.1 d.2.2.2
  else
   kt fu p_1 p_2 p_3 (p_2.Params.length:Int) i39 a b c
def dw (fu:Nat) (p_1:List na) (p_2:na) (p_3:Bool) (i39:Int):Option Xf :=
 Xq fu p_1 p_2 p_3 i39 (p_2.Params.length+1) 0 ([]:List Int) ([]:List Vb) ([]:List Int)
def Ou (fu:Nat)  (p_1:List na) (p_2:na) (p_3:Bool):Option Xf :=
 if p_2.Kind≠4 then
  (sk p_1 p_3 p_2.Kind p_2.Name p_2.Ja.Kind p_2.Ja.Pa p_2.eb.Kind p_2.eb.Pa p_2.oc p_2.Params p_2.Body ([]:List Int) ([]:List Vb) ([]:List Int) p_2.Ja).bind fun a =>
  dw fu p_1 p_2 p_3 a
 else
  kt fu p_1 p_2 p_3 0 0 [] [] []
def Yx (a:List pe×Oc):Option (ug×Oc):=
 some ((ug.mk ([]:List bh) ([]:List Xf)),a.2)
def Yq (i82:Int) (a:List bh) (b:List Xf) (c:Xf) (d:Int→(List bh)→(List Xf)→Option (ug×Oc)) (e:Bool):Option (ug×Oc):=
 if e=true then
  some ((ug.mk ([]:List bh) ([]:List Xf)),(Oc.mk 5 i82))
 else
  (app b [c]).bind fun f =>
  (i64 (i82+1)).bind fun i198 =>
  d i198 a f
def Vm (fu:Nat) (p_1:List na) (p_2:Bool):Nat→Int→(List bh)→(List Xf)→Option (ug×Oc)
 | 0,_,_,_=>none
 | n+1,i82,a,b =>
  if i82<(p_1.length:Int) then
   (at_ p_1 i82).bind fun d =>
   if d.Kind=1 then
    (app a [(bh.mk d.Ja.Kind d.oc)]).bind fun e =>
    (i64 (i82+1)).bind fun i173 =>
    Vm fu p_1 p_2 n i173 e b
   else
    (Ou fu p_1 d p_2).bind fun c =>
    if p_2=true then
     Yq i82 a b c (Vm fu p_1 p_2 n) false
    else
     if (200:Int)<(c.wi.length:Int) then
      Yq i82 a b c (Vm fu p_1 p_2 n) true
     else
      Yq i82 a b c (Vm fu p_1 p_2 n) (decide ((4000:Int)<(c.Code.length:Int)))
  else
   some ((ug.mk a b),(Oc.mk 0 0))
def Pu (fu:Nat)  (p_1:List na) (p_2:Bool):Option (ug×Oc):=
 (Zq fu p_1).bind fun a =>
 if a.2.gg≠0 then
  Yx a
 else
  Vm fu p_1 p_2 (p_1.length+1) 0 [] []
def nt (p_1:List Int) (p_2:List Int):Nat→Int→Option Bool
 | 0,_=>none
 | n+1,i26 =>
  if i26<(p_1.length:Int) then
   (at_ p_1 i26).bind fun a =>
   (at_ p_2 i26).bind fun b =>
   if a≠b then
    some false
   else
    (i64 (i26+1)).bind fun i65 =>
    nt p_1 p_2 n i65
  else
   some true
def Qu  (p_1:List Int) (p_2:List Int):Option Bool :=
 if (p_1.length:Int)≠(p_2.length:Int) then
  some false
 else
  nt p_1 p_2 (p_1.length+1) 0
def ot (i177:Int) (b:List Oa) (e:List Oa) (f:Int→Option Bool):Nat→Int→Option Bool
 | 0,_=>none
 | n+1,a =>
  if a<(b.length:Int) then
   (at_ b a).bind fun c =>
   (at_ e a).bind fun d =>
   if (yi [(decide (c.Op=d.Op)),(decide (c.A=d.A)),(decide (c.N=d.N))])=true then
    (i64 (a+1)).bind fun g =>
    ot i177 b e f n g
   else
    some false
  else
   (i64 (i177+1)).bind fun h =>
   f h
def gp (i177:Int) (a:List Oa) (b:List Oa) (c:Int→Option Bool) (d:Bool):Option Bool :=
 if d=true then
  some false
 else
  ot i177 a b c (a.length+1) 0
def ew (i177:Int) (c:Int→Option Bool) (d:Int) (e:Int) (f:List Int) (g:Int) (h:Int) (a:List Oa) (i:Int) (j:Int) (k:List Int) (l:Int) (m:Int) (b:List Oa):Option Bool :=
 if d≠i then
  gp i177 a b c true
 else
  if e≠j then
   gp i177 a b c true
  else
   if g≠l then
    gp i177 a b c true
   else
    if h≠m then
     gp i177 a b c true
    else
     (Qu f k).bind fun n =>
     if n=true then
      gp i177 a b c (decide ((a.length:Int)≠(b.length:Int)))
     else
      gp i177 a b c true
def ho (p_1:ug) (p_2:ug):Nat→Int→Option Bool
 | 0,_=>none
 | n+1,i177 =>
  if i177<(p_1.sg.length:Int) then
   (at_ p_1.sg i177).bind fun a =>
   (at_ p_2.sg i177).bind fun b =>
   ew i177 (ho p_1 p_2 n) a.Kind a.Params a.wi a.Result a.eb a.Code b.Kind b.Params b.wi b.Result b.eb b.Code
  else
   some true
def pt (p_1:ug) (p_2:ug):Nat→Int→Option Bool
 | 0,_=>none
 | n+1,i39 =>
  if i39<(p_1.Qg.length:Int) then
   (at_ p_1.Qg i39).bind fun a =>
   (at_ p_2.Qg i39).bind fun b =>
   if (yi [(decide (a.Ja=b.Ja)),(decide (a.oc=b.oc))])=true then
    (i64 (i39+1)).bind fun i77 =>
    pt p_1 p_2 n i77
   else
    some false
  else
   ho p_1 p_2 (p_1.sg.length+1) 0
def Au (p_1:ug) (p_2:ug) (a:Bool):Option Bool :=
 if a=true then
  some false
 else
  pt p_1 p_2 (p_1.Qg.length+1) 0
def Ru  (p_1:ug) (p_2:ug):Option Bool :=
 if (p_1.Qg.length:Int)≠(p_2.Qg.length:Int) then
  Au p_1 p_2 true
 else
  Au p_1 p_2 (decide ((p_1.sg.length:Int)≠(p_2.sg.length:Int)))
def Bu (fu:Nat)  (p_1:List na):Option Bool :=
 (Wn fu p_1).bind fun a =>
 (Pu fu p_1 false).bind fun b =>
 if (yi [(decide (a.2.gg=b.2.gg)),(decide (a.2.xd=b.2.xd))])=true then
  (Ru a.1 b.1).bind fun c =>
  some c
 else
  some false
end Go.Y
namespace Go.Y
open Go.pc Go.nd
theorem Ib {n:Int}(h:-9223372036854775808≤n∧n≤9223372036854775807):i64 n=some n:=if_pos h
theorem da {α β:Type}{x:α}{f:α→Option β}:Option.bind (some x) f=f x:=rfl
theorem od {α:Type}{l:List α}{i:Nat}:at_ l (i:Int)=l[i]?:=by simp [at_]
theorem Fo {α:Type}{l:List α}(h:0<l.length):at_ l 0=some l[0]:=by simp [at_,h]
theorem fD {α:Type}{l:List α}(h:1<l.length):at_ l 1=some l[1]:=by simp [at_,h]
theorem bA (c:UInt8):∃ b,hp c=some b:=by
 unfold hp;split
 ·split<;>exact ⟨_,rfl⟩
 ·exact ⟨_,rfl⟩
theorem CE (c:UInt8):∃ b,gr c=some b:=by
 unfold gr;split<;>exact ⟨_,rfl⟩
theorem yG (c:UInt8):∃ b,ym c=some b:=by
 obtain ⟨a,d⟩:=bA c;obtain ⟨b,e⟩:=CE c;unfold ym;rw [d,da,e,da];split<;>exact ⟨_,rfl⟩
theorem tA (l:List UInt8) (p:UInt8→Option Bool) (a:∀ c,∃ b,p c=some b) (za:l.length≤65536):∀ (n i:Nat),i≤l.length→l.length<n+i→∃ r,Dk l p n (i:Int)=some r
 | 0,i,d,e=>by omega
 | n+1,i,d,e=>by
  rw [Dk];by_cases c:i<l.length
  ·obtain ⟨b,f⟩:=a l[i];rw [if_pos (by omega),od,List.getElem?_eq_getElem c,da,f,da];cases b with
   | true=>rw [Tn,if_pos rfl,Ib (by omega),da]; exact tA l p a za n (i+1) c (by omega)
   | false=>exact ⟨_,rfl⟩
  ·rw [if_neg (by omega)];exact ⟨_,rfl⟩
theorem Qs (fu:Nat) (i:20≤fu) (s:List UInt8):∃ b,kh fu s=some b:=by
 have a:∀ b,(b=true∨s.length≤12)→∃ r,Bk fu s b=some r:=by
  intro b c;cases b with
  | true=>exact ⟨_,rfl⟩
  | false =>
   have j:s.length≤12:=by simpa using c
   obtain ⟨r,f⟩:=tA s ym yG (by omega) fu 0 (by omega) (by omega);have g:hr fu s ym=some r:=f;exact ⟨_,by rw [Bk,if_neg (by decide),g,da]⟩
 rw [kh];by_cases d:(s.length:Int)<1
 ·rw [if_pos d];exact a _ (.inl rfl)
 ·rw [if_neg d];by_cases e:(12:Int)<s.length
  ·rw [if_pos e];exact a _ (.inl rfl)
  ·have h:0<s.length:=by omega
   obtain ⟨b,c⟩:=bA s[0];rw [if_neg e,Fo h,da,c,da];cases b with
   | false=>rw [if_neg (by decide)]; exact a _ (.inl rfl)
   | true =>
    rw [if_pos rfl,cat,if_pos (by simp;omega),da,cat,if_pos (by simp;omega),da,Zu,if_pos (by decide +kernel),da];exact a _ (.inr (by omega))
def ng (k:Int):Int:=if k≤3∨k=20 then 0 else if k≤5∨k=21∨k=24 then 1 else if k≤18∨k=23 then 2 else -1
theorem Zx (k:Int):Hu k=some (ng k):=by
 unfold Hu ng;by_cases a:k≤3
 ·rw [if_pos a,if_pos (.inl a)];rfl
 ·rw [if_neg a];by_cases b:k=20
  ·rw [decide_eq_true b,if_pos (.inr b)];rfl
  ·rw [decide_eq_false b,ou,if_neg (by decide),if_neg (show ¬ (k≤3∨k=20) by omega)];by_cases c:k≤5
   ·rw [if_pos c,if_pos (.inl c)];rfl
   ·rw [if_neg c];by_cases d:k=21
    ·rw [if_pos d,if_pos (.inr (.inl d))];rfl
    ·rw [if_neg d];by_cases e:k=24
     ·rw [decide_eq_true e,if_pos (.inr (.inr e))];rfl
     ·rw [decide_eq_false e,Cs,if_neg (by decide),if_neg (show ¬ (k≤5∨k=21∨k=24) by omega)];by_cases f:k≤18
      ·rw [if_pos f,if_pos (.inl f)];rfl
      ·rw [if_neg f];by_cases g:k=23
       ·rw [decide_eq_true g,if_pos (.inr g)];rfl
       ·rw [decide_eq_false g,if_neg (show ¬ (k≤18∨k=23) by omega)];rfl
theorem ay (node d:Int) (a:0≤node) (b:node≤4294967296):∃ e,Vk node d=some (e,node+1)∧(e=0→node+1≤2000∧d≤40):=by
 unfold Vk;rw [Ib (by omega),da];by_cases c:2000<node+1
 ·rw [if_pos c];exact ⟨4,rfl,fun h=>absurd h (by decide)⟩
 ·rw [if_neg c];by_cases e:40<d
  ·rw [decide_eq_true e];exact ⟨4,rfl,fun h=>absurd h (by decide)⟩
  ·rw [decide_eq_false e];exact ⟨0,rfl,fun _=>⟨by omega,by omega⟩⟩
structure Oy (x:hb):Prop where
 eq:0≤ng x.Kind→(x.Kids.length:Int)=ng x.Kind
 le:x.Kids.length≤6
def jh:Nat→hb→Prop
 | 0,_=>False
 | k+1,x=>1≤x.Kind∧x.Kind≤24∧Oy x∧∀ y ∈ x.Kids,jh k y
def Ig:Nat→hb→Nat
 | 0,_=>0
 | k+1,x=>1+(x.Kids.map (Ig k)).sum
theorem UB (k:Int):ng k≤2:=by
 unfold ng;split
 ·decide
 ·split
  ·decide
  ·split<;>decide
theorem DE:∀ (n:Nat) (x:hb) (d node:Int),62≤n+d→0≤d→d≤41→0≤node→node≤2000 →
  ∃ e k,(Kg n).Qh node x d=some (e,k)∧node≤k∧(e=0→k≤2000∧jh (41 - d).toNat x∧k=node+(Ig (41 - d).toNat x:Nat)):=by
 intro n
 induction n with
 | zero=>intro x d node C t u; omega
 | succ n D =>
  intro x d node C t u E X;show ∃ e k,Qh n (Kg n) node x d=some (e,k)∧_;obtain ⟨b,F⟩:=Qs n (by omega) x.Name;obtain ⟨e,H,he⟩:=ay node d E (by omega);rw [Qh,H,da];by_cases c:e=0
  ·subst c;obtain ⟨Y,Ba⟩:=he rfl;rw [if_neg (by simp)];have K:(41 - d).toNat=(40 - d).toNat+1:=by omega
   rw [K];generalize a:(fun o:Option (Int×Int)=>∃ e k,o=some (e,k)∧node≤k∧(e=0→k≤2000∧jh ((40 - d).toNat+1) x∧k=node+(Ig ((40 - d).toNat+1) x:Nat)))=P;have bad:∀ e:Int,e≠0→P (some (e,node+1)):=fun e h=>by rw [← a];exact ⟨e,_,rfl,by omega,fun M=>absurd M h⟩
   have L:x.Kids.length≤6→∀ (m i:Nat) (c:Int),i≤x.Kids.length→x.Kids.length<m+i→0≤c→c≤2000 →
     ∃ e k,Cj (Kg n) x d m i c=some (e,k)∧c≤k∧(e=0→k≤2000∧(∀ y ∈ x.Kids.drop i,jh (40 - d).toNat y)∧k=c+(((x.Kids.drop i).map (Ig (40 - d).toNat)).sum:Nat)):=by
    intro za m
    induction m with
    | zero=>intro i c t u; omega
    | succ m N =>
     intro i c g1 g2 g3 g4;rw [Cj];by_cases q:i<x.Kids.length
     ·obtain ⟨e,k,ma,O,Q⟩:=D x.Kids[i] (d+1) c (by omega) (by omega) (by omega) g3 g4;rw [if_pos (by omega),od,List.getElem?_eq_getElem q,da,Ib (by omega),da,ma,da];by_cases z:e=0
      ·subst z;obtain ⟨f1,f2,f3⟩:=Q rfl;rw [if_neg (by simp),Ib (by omega),da];obtain ⟨R,S,g,T,j⟩:=N (i+1) k q (by omega) (by omega) f1;refine ⟨R,S,g,by omega,fun l=>?_⟩;obtain ⟨s1,s2,v⟩:=j l;have V:(41 - (d+1)).toNat=(40 - d).toNat:=by omega
       rw [V] at f2 f3;refine ⟨s1,fun y f=>?_,?_⟩
       ·rw [List.drop_eq_getElem_cons q] at f;rcases List.mem_cons.1 f with rfl | f
        ·exact f2
        ·exact s2 y f
       ·rw [List.drop_eq_getElem_cons q,List.map_cons,List.sum_cons];omega
      ·rw [if_pos z];exact ⟨e,k,rfl,O,fun h=>absurd h z⟩
     ·rw [if_neg (by omega),List.drop_eq_nil_of_le (by omega)];exact ⟨0,c,rfl,by omega,fun _=>⟨g4,by simp,by simp⟩⟩
   by_cases Wh:1≤x.Kind∧x.Kind≤24
   ·have p:∀ b,(b=false→Oy x)→P (Lm (Kg n) x d (0,node+1) b):=by
     intro b h;cases b with
     | true=>exact bad 5 (by decide)
     | false =>
      have w:=h rfl;rw [Lm,if_neg (by decide),← a];obtain ⟨e,k,g,T,j⟩:=L w.le (x.Kids.length+1) 0 (node+1) (by omega) (by omega) (by omega) (by omega);refine ⟨e,k,g,by omega,fun l=>?_⟩;obtain ⟨s1,s2,v⟩:=j l;rw [List.drop_zero] at s2 v;exact ⟨s1,⟨Wh.1,Wh.2,w,s2⟩,by rw [Ig];omega⟩
    have Z:=UB x.Kind;have A:∀ b,(b=false→0≤ng x.Kind→(x.Kids.length:Int)=ng x.Kind)→P (Mm (Kg n) x d (0,node+1) (ng x.Kind) b):=by
     intro b h;cases b with
     | true=>rw [Mm,if_pos rfl]; exact p _ (fun h=>absurd h (by decide))
     | false =>
      rw [Mm,if_neg (by decide)];by_cases q:ng x.Kind<0
      ·rw [if_pos q];exact p _ fun Ba=>⟨h rfl,by have:=of_decide_eq_false Ba;omega⟩
      ·rw [if_neg q];exact p _ fun _=>⟨h rfl,by have:=h rfl (by omega);omega⟩
    have r:∀ b,P (zl (Kg n) x d (0,node+1) (ng x.Kind) b):=by
     intro b;cases b with
     | true=>exact bad 7 (by decide)
     | false =>
      rw [zl,if_neg (by decide)];by_cases q:0≤ng x.Kind
      ·rw [if_pos q];exact A _ fun Ba _=>by have:=of_decide_eq_false Ba;omega
      ·rw [if_neg q];exact A _ fun _ h=>absurd h q
    have s:∀ b,P (nk n (Kg n) x d (0,node+1) (ng x.Kind) b):=by
     intro Te;cases Te with
     | true=>exact bad 3 (by decide)
     | false =>
      rw [nk,if_neg (by decide),F];simp only [da];split
      ·exact r _
      ·split
       ·exact r _
       ·split<;>exact r _
    have B:∀ b,P (Om n (Kg n) x d (0,node+1) (ng x.Kind) b):=by
     intro Te;unfold Om;split
     ·exact s _
     ·split
      ·split<;>exact s _
      ·exact s _
    have W:∀ b,P (Tk n (Kg n) x d (0,node+1) b):=by
     intro Te;cases Te with
     | true=>exact bad 1 (by decide)
     | false =>
      rw [Tk,if_neg (by decide),Zx,da];split
      ·split<;>exact B _
      ·exact B _
    have G:P (if x.Kind<1 then Tk n (Kg n) x d (0,node+1) true else Tk n (Kg n) x d (0,node+1) (decide ((24:Int)<x.Kind))):=by
     split<;>exact W _
    rw [← a] at G;exact G
   ·have G:P (if x.Kind<1 then Tk n (Kg n) x d (0,node+1) true else Tk n (Kg n) x d (0,node+1) (decide ((24:Int)<x.Kind))):=by
     split
     ·exact bad 1 (by decide)
     ·rw [decide_eq_true (show 24<x.Kind by omega)];exact bad 1 (by decide)
    rw [← a] at G;exact G
  ·rw [if_pos c];exact ⟨e,_,rfl,by omega,fun h=>absurd h c⟩
def mj:Nat→cb→Prop
 | 0,_=>False
 | k+1,s=>1≤s.Kind∧s.Kind≤9∧(s.Kind≠6→jh k s.X)∧((s.Kind=3∨s.Kind=4)→s.Body.length≤50∧∀ y ∈ s.Body,mj k y)∧(s.Kind=3→s.Qd.length≤50∧∀ y ∈ s.Qd,mj k y)
def re:Nat→cb→Nat
 | 0,_=>0
 | k+1,s=>1+(if s.Kind=6 then 0 else Ig k s.X)+(if s.Kind=3∨s.Kind=4 then (s.Body.map (re k)).sum else 0)+(if s.Kind=3 then (s.Qd.map (re k)).sum else 0)
theorem EE:∀ (n:Nat),(∀ (l:List cb) (d node:Int),2*(42 - d)+65≤n→0≤d→d≤41→0≤node→node≤2000 →
   ∃ e k,(Xg n).tg node l d=some (e,k)∧node≤k∧(e=0→k≤2000∧(l.length≤50∧∀ y ∈ l,mj (41 - d).toNat y)∧k=node+((l.map (re (41 - d).toNat)).sum:Nat))) ∧
  (∀ (x:cb) (d node:Int),2*(42 - d)+64≤n→0≤d→d≤41→0≤node→node≤2000 →
   ∃ e k,(Xg n).ej node x d=some (e,k)∧node≤k∧(e=0→k≤2000∧mj (41 - d).toNat x∧k=node+(re (41 - d).toNat x:Nat))):=by
 intro n
 induction n with
 | zero=>exact ⟨fun l d node D s t=>by omega,fun l d node D s t=>by omega⟩
 | succ n O =>
  obtain ⟨Q,R⟩:=O;refine ⟨fun l d node D s t j F=>?_,fun x d node D s t j F=>?_⟩
  ·show ∃ e k,tg (Xg n) node l d=some (e,k)∧_;rw [tg];by_cases za:(50:Int)<l.length
   ·rw [if_pos za];exact ⟨5,node,rfl,by omega,fun h=>absurd h (by decide)⟩
   ·rw [if_neg za];have L:∀ (m i:Nat) (c:Int),i≤l.length→l.length<m+i→0≤c→c≤2000 →
      ∃ e k,Nn (Xg n) l d m i c=some (e,k)∧c≤k∧(e=0→k≤2000∧(∀ y ∈ l.drop i,mj (41 - d).toNat y)∧k=c+(((l.drop i).map (re (41 - d).toNat)).sum:Nat)):=by
     intro m
     induction m with
     | zero=>intro i c s t; omega
     | succ m S =>
      intro i c g1 g2 g3 g4;rw [Nn];by_cases q:i<l.length
      ·obtain ⟨e,k,ma,T,V⟩:=R l[i] d c (by omega) s t g3 g4;rw [if_pos (by omega),od,List.getElem?_eq_getElem q,da,ma,da];by_cases z:e=0
       ·subst z;obtain ⟨f1,f2,f3⟩:=V rfl;rw [if_neg (by simp),Ib (by omega),da];obtain ⟨W,Y,g,u,f⟩:=S (i+1) k q (by omega) (by omega) f1;refine ⟨W,Y,g,by omega,fun v=>?_⟩;obtain ⟨s1,s2,p⟩:=f v;refine ⟨s1,fun y C=>?_,?_⟩
        ·rw [List.drop_eq_getElem_cons q] at C;rcases List.mem_cons.1 C with rfl | C
         ·exact f2
         ·exact s2 y C
        ·rw [List.drop_eq_getElem_cons q,List.map_cons,List.sum_cons];omega
       ·rw [if_pos z];exact ⟨e,k,rfl,T,fun h=>absurd h z⟩
      ·rw [if_neg (by omega),List.drop_eq_nil_of_le (by omega)];exact ⟨0,c,rfl,by omega,fun _=>⟨g4,by simp,by simp⟩⟩
    obtain ⟨e,k,g,u,f⟩:=L (l.length+1) 0 node (by omega) (by omega) j F;refine ⟨e,k,g,u,fun v=>?_⟩;obtain ⟨s1,s2,p⟩:=f v;rw [List.drop_zero] at s2 p;exact ⟨s1,⟨by omega,s2⟩,p⟩
  ·show ∃ e k,ej n (Xg n) node x d=some (e,k)∧_;obtain ⟨b,Z⟩:=Qs n (by omega) x.Name;obtain ⟨e,lc,he⟩:=ay node d j (by omega);rw [ej,lc,da];by_cases c:e=0
   ·subst c;obtain ⟨rd,Ba⟩:=he rfl;rw [if_neg (by simp)];have rc:(41 - d).toNat=(40 - d).toNat+1:=by omega
    have H:(41 - (d+1)).toNat=(40 - d).toNat:=by omega
    rw [rc];generalize w:(fun o:Option (Int×Int)=>∃ e k,o=some (e,k)∧node≤k∧(e=0→k≤2000∧mj ((40 - d).toNat+1) x∧k=node+(re ((40 - d).toNat+1) x:Nat)))=P;have bad:∀ e c:Int,e≠0→node≤c→P (some (e,c)):=fun e c h K=>by rw [← w];exact ⟨e,_,rfl,K,fun fd=>absurd fd h⟩
    have kids:=fun (l:List cb) (c:Int) (K:node≤c) (id:c≤2000)=>Q l (d+1) c (by omega) (by omega) (by omega) (by omega) id;rw [H] at kids;have G:P (if x.Kind<1 then mm n (Xg n) x d (0,node+1) true else mm n (Xg n) x d (0,node+1) (decide ((9:Int)<x.Kind))):=by
     by_cases Wh:1≤x.Kind∧x.Kind≤9
     ·have M:∀ (c:Int),node≤c→c≤2000→x.Kind≠6→jh (40 - d).toNat x.X→((x.Kind=3∨x.Kind=4)→x.Body.length≤50∧∀ y ∈ x.Body,mj (40 - d).toNat y) →
        c=node+1+(Ig (40 - d).toNat x.X:Nat)+((if x.Kind=3∨x.Kind=4 then (x.Body.map (re (40 - d).toNat)).sum else 0:Nat):Int)→P (Un (Xg n) x d c):=by
       intro c g1 g2 a A r gc;rw [Un];by_cases B:x.Kind=3
       ·obtain ⟨e,k,g,u,f⟩:=kids x.Qd c g1 g2;rw [if_pos B,Ib (by omega),da,g,da];rw [← w];refine ⟨e,k,rfl,by omega,fun v=>?_⟩;obtain ⟨s1,s2,p⟩:=f v;refine ⟨s1,⟨Wh.1,Wh.2,fun _=>A,r,fun _=>s2⟩,?_⟩;rw [re,if_neg a,if_pos B];omega
       ·rw [if_neg B,← w];refine ⟨0,c,rfl,g1,fun _=>⟨g2,⟨Wh.1,Wh.2,fun _=>A,r,fun h=>absurd h B⟩,?_⟩⟩;rw [re,if_neg a,if_neg B];omega
      have N:∀ (c:Int) b,node≤c→c≤2000→x.Kind≠6→jh (40 - d).toNat x.X→(b=true ↔ x.Kind=3∨x.Kind=4)→c=node+1+(Ig (40 - d).toNat x.X:Nat)→P (Vn (Xg n) x d (0,c) b):=by
       intro c b g1 g2 a A r gc;rw [Vn];by_cases q:b=true
       ·obtain ⟨e,k,g,u,f⟩:=kids x.Body c g1 g2;rw [if_pos q,Ib (by omega),da,g,da];by_cases z:e=0
        ·subst z;obtain ⟨s1,s2,p⟩:=f rfl;rw [if_neg (by simp)];exact M k (by omega) s1 a A (fun _=>s2) (by rw [if_pos (r.1 q)];omega)
        ·rw [if_pos z];exact bad e k z (by omega)
       ·rw [if_neg q];exact M c g1 g2 a A (fun h=>absurd (r.2 h) q) (by rw [if_neg fun h=>q (r.2 h)];omega)
      have E:∀ b,P (Al n (Xg n) x d (0,node+1) b):=by
       intro b;cases b with
       | true=>exact bad 7 _ (by decide) (by omega)
       | false =>
        rw [Al,if_neg (by decide)];by_cases a:x.Kind=6
        ·rw [if_pos a,← w];refine ⟨0,node+1,rfl,by omega,fun _=>⟨by omega,⟨Wh.1,Wh.2,fun h=>absurd a h,fun h=>by omega,fun h=>by omega⟩,?_⟩⟩;rw [re,if_pos a,if_neg (by omega),if_neg (by omega)];omega
        ·obtain ⟨e,k,g,u,f⟩:=DE n x.X (d+1) (node+1) (by omega) (by omega) (by omega) (by omega) (by omega);rw [H] at f;rw [if_neg a,Ib (by omega),da,g,da];by_cases z:e=0
         ·subst z;obtain ⟨s1,s2,p⟩:=f rfl;rw [if_neg (by simp)];split
          ·rename_i j;exact N k true (by omega) s1 a s2 (by simp [j]) (by omega)
          ·rename_i j;exact N k _ (by omega) s1 a s2 (by simp [j]) (by omega)
         ·rw [if_pos z];exact bad e k z (by omega)
      have md:∀ b,P (mm n (Xg n) x d (0,node+1) b):=by
       intro Te;cases Te with
       | true=>exact bad 1 _ (by decide) (by omega)
       | false =>
        rw [mm,if_neg (by decide),Z];simp only [da];split
        ·exact E _
        ·split
         ·exact E _
         ·split<;>exact E _
      split<;>exact md _
     ·split
      ·exact bad 1 _ (by decide) (by omega)
      ·rw [decide_eq_true (show 9<x.Kind by omega)];exact bad 1 _ (by decide) (by omega)
    rw [← w] at G;exact G
   ·rw [if_pos c];exact ⟨e,_,rfl,by omega,fun h=>absurd h c⟩
def ll (t:pb):Prop:=1≤t.Kind∧t.Kind≤3
theorem pw (fu:Nat) (a:20≤fu) (t:pb):∃ e,cn fu t=some e∧(e=0→ll t):=by
 obtain ⟨b,d⟩:=Qs fu a t.Pa;rw [cn];by_cases c:1≤t.Kind∧t.Kind≤3
 ·rw [if_neg (by omega),decide_eq_false (by omega),cp,if_neg (by decide),d];simp only [da];have:∀ b,∃ e,wu b=some e:=fun b=>by cases b<;>exact ⟨_,rfl⟩
  split
  ·obtain ⟨e,he⟩:=this (!b);exact ⟨e,he,fun _=>c⟩
  ·obtain ⟨e,he⟩:=this false;exact ⟨e,he,fun _=>c⟩
 ·split
  ·exact ⟨1,rfl,fun h=>absurd h (by decide)⟩
  ·rw [decide_eq_true (show 3<t.Kind by omega)];exact ⟨1,rfl,fun h=>absurd h (by decide)⟩
structure Mk (x:na):Prop where
 Qb:1≤x.Kind
 De:x.Kind≤4
 qh:x.Kind=2∨x.Kind=3→x.Params.length≤6∧∀ p ∈ x.Params,ll p.Ja
 tf:x.Kind=3→ll x.eb
 ty:x.Kind≠4→ll x.Ja
 Nd:x.Kind≠1→x.Body.length≤50
 fk:x.Kind≠1→∀ y ∈ x.Body,mj 39 y
def Xl (x:na):Nat:=1+if x.Kind≠1 then (x.Body.map (re 39)).sum else 0
theorem kF (fu:Nat) (N:200≤fu) (x:na) (node:Int) (u:0≤node) (O:node≤2000):∃ e k,np fu node x=some (e,k)∧node≤k∧(e=0→k≤2000∧Mk x∧k=node+(Xl x:Nat)):=by
 obtain ⟨b,v⟩:=Qs fu (by omega) x.Name;obtain ⟨e,w,he⟩:=ay node 1 u (by omega);rw [np,w,da];by_cases c:e=0
 ·subst c;obtain ⟨Q,Ba⟩:=he rfl;rw [if_neg (by simp)];generalize j:(fun o:Option (Int×Int)=>∃ e k,o=some (e,k)∧node≤k∧(e=0→k≤2000∧Mk x∧k=node+(Xl x:Nat)))=P;have bad:∀ e c:Int,e≠0→node≤c→P (some (e,c)):=fun e c h y=>by rw [← j];exact ⟨e,_,rfl,y,fun A=>absurd A h⟩
  have G:P (if x.Kind<1 then qm fu x (0,node+1) true else qm fu x (0,node+1) (decide ((4:Int)<x.Kind))):=by
   by_cases Wh:1≤x.Kind∧x.Kind≤4
   ·have n:(x.Kind=2∨x.Kind=3→x.Params.length≤6∧∀ p ∈ x.Params,ll p.Ja)→(x.Kind=3→ll x.eb)→(x.Kind≠4→ll x.Ja)→P (Yn fu x (0,node+1)):=by
     intro g1 g2 g3;rw [Yn];by_cases Qb:x.Kind=1
     ·rw [if_neg (by simpa using Qb)];have B:∀ b,P (Sq (0,node+1) b):=by
       intro b;cases b with
       | true=>exact bad 3 _ (by decide) (by omega)
       | false =>
        rw [← j];exact ⟨0,node+1,rfl,by omega,fun _=>⟨by omega,⟨Wh.1,Wh.2,g1,g2,g3,fun h=>absurd Qb h,fun h=>absurd Qb h⟩,by rw [Xl,if_neg (by simpa using Qb)];omega⟩⟩
      split<;>exact B _
     ·obtain ⟨e,k,C,R,D⟩:=(EE fu).1 x.Body 2 (node+1) (by omega) (by omega) (by omega) (by omega) (by omega);rw [if_pos Qb,C,da,← j];refine ⟨e,k,rfl,by omega,fun E=>?_⟩;obtain ⟨s1,s2,F⟩:=D E;exact ⟨s1,⟨Wh.1,Wh.2,g1,g2,g3,fun _=>s2.1,fun _=>s2.2⟩,by rw [Xl,if_pos Qb];rw [show (41 - (2:Int)).toNat=39 from rfl] at F;omega⟩
    have r:(x.Kind=2∨x.Kind=3→x.Params.length≤6∧∀ p ∈ x.Params,ll p.Ja)→(x.Kind=3→ll x.eb)→P (Zn fu x (0,node+1)):=by
     intro g1 g2;rw [Zn];by_cases De:x.Kind=4
     ·rw [if_neg (by simpa using De)];exact n g1 g2 fun h=>absurd De h
     ·obtain ⟨e,d,a⟩:=pw fu (by omega) x.Ja;rw [if_pos De,d,da];by_cases z:e=0
      ·rw [if_neg (by simpa using z)];exact n g1 g2 fun _=>a z
      ·rw [if_pos z];exact bad e _ z (by omega)
    have s:(x.Kind=2∨x.Kind=3→x.Params.length≤6∧∀ p ∈ x.Params,ll p.Ja)→P (om fu x (0,node+1)):=by
     intro g1;rw [om];by_cases l:x.Kind=3
     ·obtain ⟨e,d,a⟩:=pw fu (by omega) x.eb;rw [if_pos l,d,da];by_cases z:e=0
      ·rw [if_neg (by simpa using z)];exact r g1 fun _=>a z
      ·rw [if_pos z];exact bad e _ z (by omega)
     ·rw [if_neg l];exact r g1 fun h=>absurd h l
    have L:x.Params.length≤6→∀ (m i:Nat),i≤x.Params.length→x.Params.length<m+i→(∀ p ∈ x.Params.take i,ll p.Ja)→P (ao fu x (0,node+1) m i):=by
     intro za m
     induction m with
     | zero=>intro i d a; omega
     | succ m H =>
      intro i g1 g2 g3;rw [ao];by_cases q:i<x.Params.length
      ·obtain ⟨Te,K⟩:=Qs fu (by omega) x.Params[i].Name;obtain ⟨e,d,a⟩:=pw fu (by omega) x.Params[i].Ja;rw [if_pos (by omega),od,List.getElem?_eq_getElem q,da,K,da];cases Te with
       | false=>rw [if_neg (by decide)]; exact bad 7 _ (by decide) (by omega)
       | true =>
        rw [if_pos rfl,d,da];by_cases z:e=0
        ·rw [if_neg (by simpa using z),Ib (by omega),da];refine H (i+1) q (by omega) fun p f=>?_;rw [List.take_succ_eq_append_getElem q] at f;rcases List.mem_append.1 f with f | f
         ·exact g3 p f
         ·rw [List.mem_singleton.1 f];exact a z
        ·rw [if_pos z];exact bad e _ z (by omega)
      ·rw [if_neg (by omega)];rw [List.take_of_length_le (by omega)] at g3;exact s fun _=>⟨za,g3⟩
    have t:∀ b,(b=true ↔ x.Kind=2∨x.Kind=3)→P (bo fu x (0,node+1) b):=by
     intro b g;rw [bo];by_cases q:b=true
     ·rw [if_pos q];by_cases za:(6:Int)<x.Params.length
      ·rw [if_pos za];exact bad 5 _ (by decide) (by omega)
      ·rw [if_neg za];exact L (by omega) (x.Params.length+1) 0 (by omega) (by omega) (by simp)
     ·rw [if_neg q];exact s fun h=>absurd (g.2 h) q
    have M:∀ b,P (qm fu x (0,node+1) b):=by
     intro Te;cases Te with
     | true=>exact bad 1 _ (by decide) (by omega)
     | false =>
      rw [qm,if_neg (by decide),v,da];cases b with
      | false=>rw [if_neg (by decide)]; exact bad 7 _ (by decide) (by omega)
      | true =>
       rw [if_pos rfl];split
       ·rename_i a;exact t _ (by simp [a])
       ·rename_i a;exact t _ (by simp [a])
    split<;>exact M _
   ·split
    ·exact bad 1 _ (by decide) (by omega)
    ·rw [decide_eq_true (show 4<x.Kind by omega)];exact bad 1 _ (by decide) (by omega)
  rw [← j] at G;exact G
 ·rw [if_pos c];exact ⟨e,_,rfl,by omega,fun h=>absurd h c⟩
structure sv (l:List na):Prop where
 le:l.length≤30
 ok:∀ d ∈ l,Mk d
 n:(l.map Xl).sum≤2000
theorem Rv (fu:Nat) (b:200≤fu) (l:List na):∃ f,kp fu l=some f∧(f.gg=0→f.xd=0∧sv l):=by
 rw [kp];by_cases za:(30:Int)<l.length
 ·rw [if_pos za];exact ⟨_,rfl,fun h=>absurd h (by decide:(5:Int)≠0)⟩
 ·rw [if_neg za];have L:∀ (m i:Nat) (c:Int),i≤l.length→l.length<m+i→0≤c→c≤2000→(∀ d ∈ l.take i,Mk d)→c=(((l.take i).map Xl).sum:Nat)→∃ f,On fu l m i c=some f∧(f.gg=0→f.xd=0∧sv l):=by
   intro m
   induction m with
   | zero=>intro i c n o; omega
   | succ m g =>
    intro i c g1 g2 g3 g4 g5 g6;rw [On];by_cases q:i<l.length
    ·obtain ⟨e,k,ma,r,j⟩:=kF fu b l[i] c g3 g4;rw [if_pos (by omega),od,List.getElem?_eq_getElem q,da,ma,da];by_cases z:e=0
     ·subst z;obtain ⟨f1,f2,f3⟩:=j rfl;rw [if_neg (by simp),Ib (by omega),da];refine g (i+1) k q (by omega) (by omega) f1 (fun p a=>?_) ?_
      ·rw [List.take_succ_eq_append_getElem q] at a;rcases List.mem_append.1 a with a | a
       ·exact g5 p a
       ·rw [List.mem_singleton.1 a];exact f2
      ·rw [List.take_succ_eq_append_getElem q,List.map_append,List.sum_append,List.map_cons,List.map_nil,List.sum_cons,List.sum_nil];omega
     ·rw [if_pos z];exact ⟨_,rfl,fun h=>absurd h z⟩
    ·rw [if_neg (by omega)];rw [List.take_of_length_le (by omega)] at g5 g6;exact ⟨_,rfl,fun _=>⟨rfl,by omega,g5,by omega⟩⟩
  exact L (l.length+1) 0 0 (by omega) (by omega) (by omega) (by omega) (by simp) (by simp)
end Go.Y
namespace Go.Y
open Go.pc Go.nd
abbrev bg:=List (List (List UInt8×pb))
def ai (t:pb):pb:=if t.Kind≠3 then ⟨t.Kind,[]⟩ else t
theorem Bj (t:pb):Tm t=some (decide (t.Kind≠3)):=rfl
theorem rj (t:pb):ko t=some (ai t):=by
 rw [ko,Bj,da,ai];by_cases c:t.Kind≠3
 ·rw [decide_eq_true c,if_pos rfl,if_pos c];rfl
 ·rw [decide_eq_false c,if_neg (by decide),if_neg c];rfl
def Yi (o:Option na) (k:Int):Bool:=match o with | some d=>decide (d.Kind=k) | none=>false
theorem Sm (p:Pb) (kind:Int) (name:List UInt8):hq p kind name=some (yb p.named name,Yi (yb p.named name) kind):=by
 rw [hq];cases h:yb p.named name with
 | none=>rfl
 | some d=>rfl
theorem rn {o:Option na}{k:Int}(h:Yi o k=true):∃ d,o=some d∧d.Kind=k:=by
 cases o with
 | none=>cases h
 | some d=>exact ⟨d,rfl,of_decide_eq_true h⟩
theorem Yy {d:na}{k:Int}(h:d.Kind=k):Yi (some d) k=true:=decide_eq_true h
def Ai (p:Pb) (t:pb):Prop:=t.Kind=3→∃ d,yb p.named t.Pa=some d∧d.Kind=3
theorem Ai.bare {p:Pb}{t:pb}(h:Ai p t):Ai p (ai t):=by
 unfold ai;split
 ·rename_i c;exact fun a=>absurd a c
 ·exact h
theorem Ai.of {p:Pb}{t:pb}(h:t.Kind≠3):Ai p t:=fun a=>absurd a h
theorem gq {t:pb}:(ai t).Kind=t.Kind:=by
 unfold ai;split<;>rfl
structure uj (p:Pb) (d:na):Prop where
 ty:d.Kind≠4→d.Ja.Kind≠3
 tf:d.Kind=3→d.eb.Kind≠3
 qh:d.Kind=2∨d.Kind=3→∀ q ∈ d.Params,Ai p q.Ja
 pl:d.Kind=2∨d.Kind=3→d.Params.length≤6
def wx (p:Pb):Prop:=∀ k d,yb p.named k=some d→uj p d
def Kj (p:Pb) (B:bg):Prop:=∀ m ∈ B,∀ k t,yb m k=some t→Ai p t
structure aj (p:Pb) (d:na) (B:bg):Prop where
 Fm:wx p
 Ba:uj p d
 Ad:Kj p B
 Nd:B.length≤100
theorem Qx {p:Pb}{B:bg}(a:Kj p B) (za:B.length≤100) (fu:Nat) (i:110≤fu) (d:na) (name:List UInt8):∃ t b,Wm fu p d B name=some (t,b)∧(b=true→Ai p t):=by
 have L:∀ (n j:Nat),j≤B.length→j<n→∃ t b,Pn name B n ((j:Int) - 1)=some (t,b)∧(b=true→Ai p t):=by
  intro n
  induction n with
  | zero=>intro j c f; omega
  | succ n g =>
   intro j c f;rw [Pn];cases j with
   | zero=>rw [if_neg (by omega)]; exact ⟨_,_,rfl,by simp⟩
   | succ j =>
    have e:((j+1:Nat):Int) - 1=(j:Int):=by omega
    rw [e,if_pos (by omega),od,List.getElem?_eq_getElem (show j<B.length by omega),da];cases h:yb B[j] name with
    | none =>
     rw [if_neg (by simp),Ib (by omega),da];exact g j (by omega) (by omega)
    | some t=>exact ⟨t,true,rfl,fun _=>a _ (List.getElem_mem _) _ _ h⟩
 rw [Wm,Ib (by omega),da];exact L fu B.length (by omega) (by omega)
def Calls (p:Pb):Nat→hb→Prop
 | 0,_=>False
 | k+1,x=>(x.Kind=19→∃ d,yb p.named x.Name=some d∧d.Kind=2)∧(x.Kind=22→∃ d,yb p.named x.Name=some d∧d.Kind=3)∧(x.Kind=20→∃ d,yb p.named x.Name=some d∧d.Kind=1)∧∀ y ∈ x.Kids,Calls p k y
theorem two {α:Type}{l:List α}(h:l.length=2):∃ a b,l=[a,b]:=by
 match l,h with
 | [a,b],_=>exact ⟨a,b,rfl⟩
theorem one {α:Type}{l:List α}(h:l.length=1):∃ a,l=[a]:=by
 match l,h with
 | [a],_=>exact ⟨a,rfl⟩
structure nI (n:Nat):Prop where
 typed:∀ (k:Nat) (p:Pb) (d:na) (B:bg) (x:hb) (t:pb),aj p d B→jh k x→3*k+111≤n→∃ e,(Ee n).ig p d B x t=some e∧(e=0→Calls p k x)
 args:∀ (k:Nat) (p:Pb) (d:na) (B:bg) (x:hb) (kind:Int),aj p d B→(∀ y ∈ x.Kids,jh k y)→x.Kids.length≤6→(kind=2∨kind=3)→3*k+112≤n →
  ∃ c e,(Ee n).sj p d B x kind=some (c,e)∧(e=0→∃ f,c=some f∧yb p.named x.Name=some f∧f.Kind=kind∧∀ y ∈ x.Kids,Calls p k y)
 both:∀ (k:Nat) (p:Pb) (d:na) (B:bg) (x a b:hb),aj p d B→x.Kids=[a,b]→jh k a→jh k b→3*k+112≤n→∃ t e,(Ee n).qk p d B x=some (t,e)∧(e=0→Calls p k a∧Calls p k b)
 handle:∀ (k:Nat) (p:Pb) (d:na) (B:bg) (x:hb),aj p d B→jh k x→3*k+112≤n→∃ c e,(Ee n).qj p d B x=some (c,e)∧(e=0→(∃ f g,c=some f∧yb p.named g=some f∧f.Kind=3)∧Calls p k x)
 expr:∀ (k:Nat) (p:Pb) (d:na) (B:bg) (x:hb),aj p d B→jh k x→3*k+110≤n→∃ t e,(Ee n).rh p d B x=some (t,e)∧(e=0→Ai p t∧Calls p k x)
theorem Ip (r:pb×Int) (b:Bool):mu r b=some (if b=true then 9 else r.2):=by cases b<;>rfl
theorem Aq (r s:pb×Int) (b:Bool):Lp r s b=some (r.1,if b=true then 9 else s.2):=by cases b<;>rfl
theorem Py:∀ n,nI n:=by
 intro n
 induction n with
 | zero=>exact ⟨fun _ _ _ _ _ _ _ _ h=>by omega,fun _ _ _ _ _ _ _ _ _ _ h=>by omega,fun _ _ _ _ _ _ _ _ _ _ _ h=>by omega,fun _ _ _ _ _ _ _ h=>by omega,fun _ _ _ _ _ _ _ h=>by omega⟩
 | succ n u =>
  refine ⟨fun k p d B x t H A Q=>?_,fun k p d B x kind H A za F Q=>?_,fun k p d B x a b H A j O Q=>?_,fun k p d B x H A Q=>?_,fun k p d B x H A Q=>?_⟩
  ·show ∃ e,ig (Ee n) p d B x t=some e∧_;obtain ⟨Rd,e,r,o⟩:=u.expr k p d B x H A (by omega);rw [ig,r,da];by_cases z:e=0
   ·rw [if_pos z,rj,da,Ip];exact ⟨_,rfl,fun _=>(o z).2⟩
   ·rw [if_neg z,Ip];exact ⟨e,rfl,fun h=>absurd h z⟩
  ·show ∃ v e,sj (Ee n) p d B x kind=some (v,e)∧_;rw [sj,Sm,da];by_cases c:Yi (yb p.named x.Name) kind=true
   ·obtain ⟨f,M,V⟩:=rn c;rw [if_pos c,M];simp only [da];have wd:=H.Fm _ _ M;have be:=wd.pl (by omega);by_cases q:(f.Params.length:Int)≠x.Kids.length
    ·rw [decide_eq_true q];exact ⟨none,5,rfl,fun h=>absurd h (by decide)⟩
    ·rw [decide_eq_false q,Fq,if_neg (by decide)];simp only [da];have L:∀ (m i:Nat),i≤f.Params.length→f.Params.length<m+i→∃ v e,Qn (Ee n) x p d B (some f,Yi (some f) kind) f m i=some (v,e)∧(e=0→v=some f∧∀ y ∈ x.Kids.drop i,Calls p k y):=by
      intro m
      induction m with
      | zero=>intro i r o; omega
      | succ m W =>
       intro i r o;rw [Qn];by_cases c:i<f.Params.length
       ·have rc:i<x.Kids.length:=by omega
        obtain ⟨e,ma,w⟩:=u.typed k p d B x.Kids[i] f.Params[i].Ja H (A _ (List.getElem_mem _)) (by omega);rw [if_pos (by omega),od,List.getElem?_eq_getElem c,da,od,List.getElem?_eq_getElem rc,da,ma,da];by_cases z:e=0
        ·rw [if_neg (by simpa using z),Ib (by omega),da];obtain ⟨v,P,G,E⟩:=W (i+1) c (by omega);refine ⟨v,P,G,fun s=>⟨(E s).1,fun y D=>?_⟩⟩;rw [List.drop_eq_getElem_cons rc] at D;rcases List.mem_cons.1 D with rfl | D
         ·exact w z
         ·exact (E s).2 y D
        ·rw [if_pos z];exact ⟨none,e,rfl,fun h=>absurd h z⟩
       ·rw [if_neg (by omega),List.drop_eq_nil_of_le (by omega)];exact ⟨some f,0,rfl,fun _=>⟨rfl,by simp⟩⟩
     obtain ⟨v,e,G,E⟩:=L (f.Params.length+1) 0 (by omega) (by omega);refine ⟨v,e,G,fun s=>?_⟩;obtain ⟨s1,s2⟩:=E s;rw [List.drop_zero] at s2;exact ⟨f,s1,rfl,V,s2⟩
   ·rw [if_neg c];exact ⟨none,7,rfl,fun h=>absurd h (by decide)⟩
  ·show ∃ t e,qk (Ee n) p d B x=some (t,e)∧_;obtain ⟨t1,ma,r,o⟩:=u.expr k p d B a H j (by omega);obtain ⟨t2,w,g1,g2⟩:=u.expr k p d B b H O (by omega);have C:at_ x.Kids 0=some a:=by rw [A];rfl
   have Qb:at_ x.Kids 1=some b:=by rw [A];rfl
   rw [qk,C,da,r,da];by_cases z:ma=0
   ·rw [if_neg (by simpa using z),Qb,da,g1,da];by_cases z2:w=0
    ·have fin:∀ Te,∃ t e,Lp (t1,ma) (t2,w) Te=some (t,e)∧(e=0→Calls p k a∧Calls p k b):=fun Te=>by rw [Aq];exact ⟨_,_,rfl,fun _=>⟨(o z).2,(g2 z2).2⟩⟩
     rw [if_pos z2];split
     ·rw [Bj,da];exact fin _
     ·exact fin _
    ·rw [if_neg z2,Aq];exact ⟨_,w,rfl,fun h=>absurd h z2⟩
   ·rw [if_pos z];exact ⟨_,ma,rfl,fun h=>absurd h z⟩
  ·show ∃ v e,qj (Ee n) p d B x=some (v,e)∧_;obtain ⟨t,e,r,o⟩:=u.expr k p d B x H A (by omega);rw [qj,r,da];by_cases z:e=0
   ·rw [if_neg (by simpa using z),Bj,da];by_cases q:t.Kind≠3
    ·rw [if_pos (decide_eq_true q)];exact ⟨none,9,rfl,fun h=>absurd h (by decide)⟩
    ·obtain ⟨f,f1,f2⟩:=(o z).1 (Decidable.not_not.1 q);rw [if_neg (by simpa using q)];exact ⟨_,0,rfl,fun _=>⟨⟨f,t.Pa,f1,f1,f2⟩,(o z).2⟩⟩
   ·rw [if_pos z];exact ⟨none,e,rfl,fun h=>absurd h z⟩
  ·show ∃ t e,rh n (Ee n) p d B x=some (t,e)∧_;cases k with
   | zero=>cases A
   | succ k =>
   obtain ⟨Qb,ce,F,N⟩:=A;have R:ng x.Kind=1→∃ a,x.Kids=[a]∧jh k a:=fun h=>by
    obtain ⟨a,j⟩:=one (l:=x.Kids) (by have:=F.eq (by omega);omega);exact ⟨a,j,N a (by simp [j])⟩
   have fd:ng x.Kind=2→∃ a b,x.Kids=[a,b]∧jh k a∧jh k b:=fun h=>by
    obtain ⟨a,b,j⟩:=two (l:=x.Kids) (by have:=F.eq (by omega);omega);exact ⟨a,b,j,N a (by simp [j]),N b (by simp [j])⟩
   have S:ng x.Kind=0→x.Kids=[]:=fun h=>List.length_eq_zero_iff.1 (by have:=F.eq (by omega);omega);have ub:x.Kind≠19→x.Kind≠20→x.Kind≠22→(∀ y ∈ x.Kids,Calls p k y)→Calls p (k+1) x:=fun r o Fd Id=>⟨fun h=>absurd h r,fun h=>absurd h Fd,fun h=>absurd h o,Id⟩;rw [rh];by_cases X:x.Kind=1
   ·rw [if_pos X];exact ⟨_,0,rfl,fun _=>⟨.of (by decide),ub (by omega) (by omega) (by omega) (by rw [S (by rw [X];rfl)];simp)⟩⟩
   rw [if_neg X];by_cases c2:x.Kind=2
   ·rw [if_pos c2];exact ⟨_,0,rfl,fun _=>⟨.of (by decide),ub (by omega) (by omega) (by omega) (by rw [S (by rw [c2];rfl)];simp)⟩⟩
   rw [if_neg c2];by_cases c3:x.Kind=3
   ·obtain ⟨t,b,r,o⟩:=Qx H.Ad H.Nd n (by omega) d x.Name;rw [if_pos c3,r,da];cases b with
    | true=>exact ⟨t,0,rfl,fun _=>⟨o rfl,ub (by omega) (by omega) (by omega) (by rw [S (by rw [c3]; rfl)]; simp)⟩⟩
    | false=>exact ⟨_,7,rfl,fun h=>absurd h (by decide)⟩
   rw [if_neg c3];by_cases c4:x.Kind=4
   ·obtain ⟨a,j,K⟩:=R (by rw [c4];rfl);obtain ⟨e,ma,w⟩:=u.typed k p d B a ⟨1,[]⟩ H K (by omega);have C:at_ x.Kids 0=some a:=by rw [j];rfl
    rw [if_pos c4,C,da,Sj,da,da,ma,da];exact ⟨_,e,rfl,fun s=>⟨.of (by decide),ub (by omega) (by omega) (by omega) (by rw [j];simpa using w s)⟩⟩
   rw [if_neg c4];by_cases c5:x.Kind=5
   ·obtain ⟨a,j,K⟩:=R (by rw [c5];rfl);obtain ⟨e,ma,w⟩:=u.typed k p d B a ⟨2,[]⟩ H K (by omega);have C:at_ x.Kids 0=some a:=by rw [j];rfl
    rw [if_pos c5,C,da,Gi,da,da,ma,da];exact ⟨_,e,rfl,fun s=>⟨.of (by decide),ub (by omega) (by omega) (by omega) (by rw [j];simpa using w s)⟩⟩
   rw [if_neg c5];have id:∀ b,(b=true ↔ x.Kind=11∨x.Kind=12)→∃ t e,im (Ee n) x p d B b=some (t,e)∧(e=0→Ai p t∧Calls p (k+1) x):=by
    intro b O;rw [im];by_cases q:b=true
    ·have c:=O.1 q;obtain ⟨a,T,j,Y,Ge⟩:=fd (by rcases c with c | c<;>rw [c]<;>rfl);obtain ⟨t,e,r,o⟩:=u.both k p d B x a T H j Y Ge (by omega);rw [if_pos q,r,da,Gi,da];exact ⟨_,e,rfl,fun s=>⟨.of (by decide),ub (by omega) (by omega) (by omega) (by rw [j];simpa using o s)⟩⟩
    rw [if_neg q];have q1:x.Kind≠11:=fun h=>q (O.2 (.inl h));have q2:x.Kind≠12:=fun h=>q (O.2 (.inr h));by_cases md:x.Kind=19
    ·obtain ⟨v,e,r,o⟩:=u.args k p d B x 2 H N F.le (.inl rfl) (by omega);rw [if_pos md,r,da];by_cases z:e=0
     ·obtain ⟨f,rfl,g1,g2,g3⟩:=o z;rw [if_neg (by simpa using z)];simp only [da];rw [rj,da];exact ⟨_,0,rfl,fun _=>⟨.of (by rw [gq];exact (H.Fm _ _ g1).ty (by omega)),⟨fun _=>⟨f,g1,g2⟩,fun h=>by omega,fun h=>by omega,g3⟩⟩⟩
     ·rw [if_pos z];exact ⟨_,e,rfl,fun h=>absurd h z⟩
    rw [if_neg md];by_cases c20:x.Kind=20
    ·rw [if_pos c20,Sm,da];by_cases c:Yi (yb p.named x.Name) 1=true
     ·obtain ⟨f,M,V⟩:=rn c;rw [if_pos c,M];simp only [da];rw [rj,da];exact ⟨_,0,rfl,fun _=>⟨.of (by rw [gq];exact (H.Fm _ _ M).ty (by omega)),⟨fun h=>by omega,fun h=>by omega,fun _=>⟨f,M,V⟩,by rw [S (by rw [c20];rfl)];simp⟩⟩⟩
     ·rw [if_neg c];exact ⟨_,7,rfl,fun h=>absurd h (by decide)⟩
    rw [if_neg c20];by_cases c21:x.Kind=21
    ·obtain ⟨a,j,K⟩:=R (by rw [c21];rfl);obtain ⟨e,ma,w⟩:=u.typed k p d B a d.Ja H K (by omega);have C:at_ x.Kids 0=some a:=by rw [j];rfl
     rw [if_pos c21];by_cases Z:d.Kind=3
     ·rw [if_neg (by simpa using Z),C,da,rj,da,ma,da];exact ⟨_,e,rfl,fun s=>⟨.of (by show (ai d.eb).Kind≠3;rw [gq];exact H.Ba.tf Z),ub (by omega) (by omega) (by omega) (by rw [j];simpa using w s)⟩⟩
     ·rw [if_pos Z];exact ⟨_,8,rfl,fun h=>absurd h (by decide)⟩
    rw [if_neg c21];by_cases rd:x.Kind=22
    ·obtain ⟨v,e,r,o⟩:=u.args k p d B x 3 H N F.le (.inr rfl) (by omega);rw [if_pos rd,r,da];refine ⟨_,e,rfl,fun s=>?_⟩;obtain ⟨f,-,g1,g2,g3⟩:=o s;exact ⟨fun _=>⟨f,g1,g2⟩,⟨fun h=>by omega,fun _=>⟨f,g1,g2⟩,fun h=>by omega,g3⟩⟩
    rw [if_neg rd];by_cases gc:x.Kind=23
    ·obtain ⟨a,T,j,Y,Ge⟩:=fd (by rw [gc];rfl);obtain ⟨v,e,r,o⟩:=u.handle k p d B a H Y (by omega);have C:at_ x.Kids 0=some a:=by rw [j];rfl
     have Qb:at_ x.Kids 1=some T:=by rw [j];rfl
     rw [if_pos gc,C,da,r,da];by_cases z:e=0
     ·obtain ⟨⟨f,g,rfl,g1,g2⟩,g3⟩:=o z;obtain ⟨P,G,E⟩:=u.typed k p d B T f.eb H Ge (by omega);rw [if_neg (by simpa using z)];simp only [da];rw [Qb,da,rj,da,G,da];exact ⟨_,P,rfl,fun s=>⟨.of (by show (ai f.Ja).Kind≠3;rw [gq];exact (H.Fm _ _ g1).ty (by omega)),ub (by omega) (by omega) (by omega) (by rw [j];simpa using ⟨g3,E s⟩)⟩⟩
     ·rw [if_pos z];exact ⟨_,e,rfl,fun h=>absurd h z⟩
    rw [if_neg gc];by_cases c24:x.Kind=24
    ·obtain ⟨a,j,K⟩:=R (by rw [c24];rfl);obtain ⟨v,e,r,o⟩:=u.handle k p d B a H K (by omega);have C:at_ x.Kids 0=some a:=by rw [j];rfl
     rw [if_pos c24,C,da,r,da,Gi,da];exact ⟨_,e,rfl,fun s=>⟨.of (by decide),ub (by omega) (by omega) (by omega) (by rw [j];simpa using (o s).2)⟩⟩
    rw [if_neg c24];have L:∀ (i1 i2:Int) (s1 s2:List UInt8) (m i:Nat),i≤x.Kids.length→x.Kids.length<m+i→∃ e,yl (Ee n) x p d B i1 s1 i2 s2 m i=some (⟨i2,s2⟩,e)∧(e=0→∀ y ∈ x.Kids.drop i,Calls p k y):=by
     intro i1 i2 s1 s2 m
     induction m with
     | zero=>intro i r o; omega
     | succ m W =>
      intro i r o;rw [yl];by_cases c:i<x.Kids.length
      ·have:=F.le;obtain ⟨e,ma,w⟩:=u.typed k p d B x.Kids[i] ⟨i1,s1⟩ H (N _ (List.getElem_mem _)) (by omega);rw [if_pos (by omega),od,List.getElem?_eq_getElem c,da,ma,da];by_cases z:e=0
       ·rw [if_neg (by simpa using z),Ib (by omega),da];obtain ⟨P,G,E⟩:=W (i+1) c (by omega);refine ⟨P,G,fun s y D=>?_⟩;rw [List.drop_eq_getElem_cons c] at D;rcases List.mem_cons.1 D with rfl | D
        ·exact w z
        ·exact E s y D
       ·rw [if_pos z];exact ⟨e,rfl,fun h=>absurd h z⟩
      ·rw [if_neg (by omega),List.drop_eq_nil_of_le (by omega)];exact ⟨0,rfl,fun _=>by simp⟩
    have lc:∀ (i1 i2:Int) (s1 s2:List UInt8),i2≠3→∃ t e,Qo (Ee n) x p d B i1 s1 i2 s2=some (t,e)∧(e=0→Ai p t∧Calls p (k+1) x):=by
     intro i1 i2 s1 s2 h;obtain ⟨e,r,o⟩:=L i1 i2 s1 s2 (x.Kids.length+1) 0 (by omega) (by omega);exact ⟨_,e,r,fun s=>⟨.of h,ub (by omega) (by omega) (by omega) (by simpa using o s)⟩⟩
    rw [Sj,da,da,Gi];simp only [da];split
    ·exact lc _ _ _ _ (by decide)
    ·split
     ·exact lc _ _ _ _ (by decide)
     ·exact lc _ _ _ _ (by decide)
   split
   ·rename_i h;exact id _ (by simp [h])
   ·rename_i h;exact id _ (by simp [h])
end Go.Y
namespace Go.Y
open Go.pc Go.nd
theorem lh {κ β:Type}[DecidableEq κ]:∀ (m:List (κ×β)) (k e:κ) (x:β),yb (Ue m k x) e=if k=e then some x else yb m e
 | [],k,e,x=>rfl
 | (a,b)::m,k,e,x=>by
  rw [Ue];by_cases c:a=k
  ·subst c;rw [if_pos rfl,yb,yb];by_cases d:a=e
   ·rw [if_pos d,if_pos d]
   ·rw [if_neg d,if_neg d,if_neg d]
  ·rw [if_neg c,yb,yb,lh m k e x];by_cases d:a=e
   ·rw [if_pos d,if_pos d,if_neg fun h=>c (d.trans h.symm)]
   ·rw [if_neg d,if_neg d]
def tk (p:Pb):Nat→cb→Prop
 | 0,_=>False
 | k+1,s=>(s.Kind≠6→Calls p k s.X)∧((s.Kind=3∨s.Kind=4)→∀ y ∈ s.Body,tk p k y)∧(s.Kind=3→∀ y ∈ s.Qd,tk p k y)∧(s.Kind=7→∃ d,yb p.named s.Name=some d∧d.Kind=1)
theorem Cu (p:Pb) (d:na) (B:bg) (h:0<B.length) (a:B.length≤100):lp p d B=some (B.take (B.length - 1)):=by
 rw [lp,Ib (by omega),da,cut,if_pos (by omega),da,Lv];simp
structure qH (n:Nat):Prop where
 stats:∀ (k:Nat) (p:Pb) (d:na) (B:bg) (l:List cb),aj p d B→l.length≤50→(∀ y ∈ l,mj k y)→B.length+k≤90→5*k+130≤n →
  ∃ e,(Xh n).ui p d B l=some (e,B)∧(e=0→∀ y ∈ l,tk p k y)
 stat:∀ (k:Nat) (p:Pb) (d:na) (B:bg) (s:cb),aj p d B→0<B.length→mj k s→B.length+k≤91→5*k+129≤n →
  ∃ e a,(Xh n).Qj p d B s=some (e,a)∧a.length=B.length∧a.take (B.length - 1)=B.take (B.length - 1)∧Kj p a∧(e=0→tk p k s)
theorem Rr (B:bg) (r:pb×Int) (b:Bool):nu B r b=some (if b=true then 9 else r.2,B):=by cases b<;>rfl
theorem Dw:∀ n,qH n:=by
 intro n
 induction n with
 | zero=>exact ⟨fun _ _ _ _ _ _ _ _ _ h=>by omega,fun _ _ _ _ _ _ _ _ _ h=>by omega⟩
 | succ n F =>
  refine ⟨fun k p d B l H za x V W=>?_,fun k p d B s H Id x V W=>?_⟩
  ·show ∃ e,ui (Xh n) p d B l=some (e,B)∧_;rw [ui,app,if_pos (by simp;omega),da,Bq];have L:∀ (m i:Nat) (a:bg),i≤l.length→l.length<m+i→a.length=B.length+1→a.take B.length=B→Kj p a →
     ∃ e,Ln (Xh n) l p d m i a=some (e,B)∧(e=0→∀ y ∈ l.drop i,tk p k y):=by
    intro m
    induction m with
    | zero=>intro i a j g; omega
    | succ m Y =>
     intro i a j g g1 g2 g3;rw [Ln];have pop:∀ C:bg,C.length=B.length+1→C.take B.length=B→lp p d C=some B:=fun C ma v=>by
      rw [Cu p d C (by omega) (by omega),ma,Nat.add_sub_cancel,v]
     by_cases c:i<l.length
     ·obtain ⟨e,G,Z,K,P,gc,lc⟩:=F.stat k p d a l[i] ⟨H.Fm,H.Ba,g3,by omega⟩ (by omega) (x _ (List.getElem_mem _)) (by omega) (by omega);rw [g1,Nat.add_sub_cancel] at P;rw [g1] at K;have v:G.take B.length=B:=P.trans g2;rw [if_pos (by omega),od,List.getElem?_eq_getElem c,da,Z,da];by_cases z:e=0
      ·rw [if_neg (by simpa using z),Ib (by omega),da];obtain ⟨rc,s1,s2⟩:=Y (i+1) G c (by omega) K v gc;refine ⟨rc,s1,fun r y A=>?_⟩;rw [List.drop_eq_getElem_cons c] at A;rcases List.mem_cons.1 A with rfl | A
       ·exact lc z
       ·exact s2 r y A
      ·rw [if_pos z];simp only [];rw [pop G K v,da];exact ⟨e,rfl,fun h=>absurd h z⟩
     ·rw [if_neg (by omega),pop a g1 g2,da,List.drop_eq_nil_of_le (by omega)];exact ⟨0,rfl,fun _=>by simp⟩
   have:=L (l.length+1) 0 (B++[[]]) (by omega) (by omega) (by simp) (by simp) (fun m hm D t M=>by
    rcases List.mem_append.1 hm with hm | hm
    ·exact H.Ad m hm D t M
    ·rw [List.mem_singleton.1 hm] at M;cases M)
   simpa using this
  ·show ∃ e a,Qj n (Xh n) p d B s=some (e,a)∧_;cases k with
   | zero=>cases x
   | succ k =>
   obtain ⟨Qb,be,w,Q,he⟩:=x;have E:=(Py n).typed k p d B s.X;have N:=(Py n).expr k p d B s.X;have same:∀ e:Int,(e=0→tk p (k+1) s)→∀ o:Option (Int×bg),o=some (e,B)→∃ e a,o=some (e,a)∧a.length=B.length∧a.take (B.length - 1)=B.take (B.length - 1)∧Kj p a∧(e=0→tk p (k+1) s):=
    fun e h o fd=>⟨e,B,fd,rfl,rfl,H.Ad,h⟩
   have cs:s.Kind≠3→s.Kind≠4→s.Kind≠7→(s.Kind≠6→Calls p k s.X)→tk p (k+1) s:=fun id ce md h=>⟨h,fun h=>by omega,fun h=>absurd h id,fun h=>absurd h md⟩;rw [Qj];by_cases R:s.Kind=1
   ·obtain ⟨t,e,j,g⟩:=N H (w (by omega)) (by omega);rw [if_pos R,j,da];by_cases z:e=0
    ·obtain ⟨Rd,b,g1,g2⟩:=Qx H.Ad H.Nd n (by omega) d s.Name;rw [if_neg (by simpa using z),g1,da];cases b with
     | true=>exact same 7 (fun h=>absurd h (by decide)) _ rfl
     | false =>
      have rd:B.length - 1<B.length:=by omega
      have ma:(B.length:Int) - 1=((B.length - 1:Nat):Int):=by omega
      rw [if_neg (by simp),Ib (by omega),da,ma,od,List.getElem?_eq_getElem rd,da,Gq];refine ⟨0,_,rfl,by simp,?_,fun m hm D u hu=>?_,fun _=>cs (by omega) (by omega) (by omega) fun _=>(g z).2⟩
      ·simp [List.take_set_of_le]
      ·rcases List.mem_or_eq_of_mem_set hm with hm | rfl
       ·exact H.Ad m hm D u hu
       ·rw [lh] at hu;split at hu
        ·obtain rfl:=Option.some.inj hu;exact (g z).1
        ·exact H.Ad _ (List.getElem_mem _) D u hu
    ·rw [if_pos z];exact same e (fun h=>absurd h z) _ rfl
   rw [if_neg R];by_cases c2:s.Kind=2
   ·obtain ⟨Rd,b,g1,g2⟩:=Qx H.Ad H.Nd n (by omega) d s.Name;rw [if_pos c2,g1,da];cases b with
    | false=>exact same 7 (fun h=>absurd h (by decide)) _ rfl
    | true =>
     obtain ⟨e,j,g⟩:=E Rd H (w (by omega)) (by omega);rw [if_pos rfl,j,da];exact same e (fun r=>cs (by omega) (by omega) (by omega) fun _=>g r) _ rfl
   rw [if_neg c2];have S:∀ b,(b=true ↔ s.Kind=3∨s.Kind=4)→∃ e a,jm n (Xh n) s p d B b=some (e,a)∧a.length=B.length∧a.take (B.length - 1)=B.take (B.length - 1)∧Kj p a∧(e=0→tk p (k+1) s):=by
    intro b O;rw [jm];by_cases q:b=true
    ·have c:=O.1 q;obtain ⟨e,j,g⟩:=E ⟨2,[]⟩ H (w (by omega)) (by omega);rw [if_pos q,Gi,da,j,da];by_cases z:e=0
     ·rw [if_neg (by simpa using z)];obtain ⟨v,g1,g2⟩:=F.stats k p d B s.Body H (Q c).1 (Q c).2 (by omega) (by omega);rw [g1,da];by_cases z2:v=0
      ·rw [if_neg (by simpa using z2)];by_cases c4:s.Kind=4
       ·rw [decide_eq_true c4];exact same v (fun _=>⟨fun _=>g z,fun _=>g2 z2,fun h=>by omega,fun h=>by omega⟩) _ rfl
       ·have c3:s.Kind=3:=by omega
        obtain ⟨wd,f1,f2⟩:=F.stats k p d B s.Qd H (he c3).1 (he c3).2 (by omega) (by omega);rw [decide_eq_false c4,Mp,if_neg (by decide)];simp only [];rw [f1,da];exact same wd (fun r=>⟨fun _=>g z,fun _=>g2 z2,fun _=>f2 r,fun h=>by omega⟩) _ rfl
      ·rw [if_pos z2];exact same v (fun h=>absurd h z2) _ rfl
     ·rw [if_pos z];exact same e (fun h=>absurd h z) _ rfl
    rw [if_neg q];have q3:s.Kind≠3:=fun h=>q (O.2 (.inl h));have q4:s.Kind≠4:=fun h=>q (O.2 (.inr h));by_cases c5:s.Kind=5
    ·rw [if_pos c5];split
     ·exact same 8 (fun h=>absurd h (by decide)) _ rfl
     ·obtain ⟨e,j,g⟩:=E d.Ja H (w (by omega)) (by omega);rw [j,da];exact same e (fun r=>cs q3 q4 (by omega) fun _=>g r) _ rfl
    rw [if_neg c5];by_cases Sd:s.Kind=6
    ·rw [if_pos Sd];split
     ·exact same 8 (fun h=>absurd h (by decide)) _ rfl
     ·exact same 0 (fun r=>cs q3 q4 (by omega) fun h=>absurd Sd h) _ rfl
    rw [if_neg Sd];by_cases Tf:s.Kind=7
    ·rw [if_pos Tf,Sm,da];by_cases c:Yi (yb p.named s.Name) 1=true
     ·obtain ⟨f,T,Fd⟩:=rn c;obtain ⟨e,j,g⟩:=E f.Ja H (w (by omega)) (by omega);rw [if_pos c,T];simp only [da];rw [j,da];exact same e (fun r=>⟨fun _=>g r,fun h=>by omega,fun h=>by omega,fun _=>⟨f,T,Fd⟩⟩) _ rfl
     ·rw [if_neg c];exact same 7 (fun h=>absurd h (by decide)) _ rfl
    rw [if_neg Tf];by_cases ee:s.Kind=8
    ·obtain ⟨t,e,j,g⟩:=N H (w (by omega)) (by omega);rw [if_pos ee,j,da];by_cases z:e=0
     ·rw [if_pos z,Bj,da,Rr];exact same _ (fun _=>cs q3 q4 (by omega) fun _=>(g z).2) _ rfl
     ·rw [if_neg z,Rr];exact same e (fun h=>absurd h z) _ rfl
    rw [if_neg ee];by_cases c9:s.Kind=9
    ·obtain ⟨t,e,j,g⟩:=N H (w (by omega)) (by omega);rw [if_pos c9,j,da];exact same e (fun r=>cs q3 q4 (by omega) fun _=>(g r).2) _ rfl
    ·omega
   split
   ·rename_i h;exact S _ (by simp [h])
   ·rename_i h;exact S _ (by simp [h])
theorem FE (p:Pb) (t:pb):∃ e,Dt p t=some e∧(e=0→Ai p t):=by
 rw [Dt,Bj,da];by_cases c:t.Kind≠3
 ·rw [if_pos (decide_eq_true c)];exact ⟨0,rfl,fun _=>.of c⟩
 ·rw [if_neg (by simpa using c),Sm,da];by_cases q:Yi (yb p.named t.Pa) 3=true
  ·rw [if_pos q];exact ⟨0,rfl,fun _ _=>rn q⟩
  ·rw [if_neg q];exact ⟨7,rfl,fun h=>absurd h (by decide)⟩
theorem cA (p:Pb) (d:na) (Ba:Mk d):∃ e,Xm p d=some e∧(e=0→uj p d):=by
 have f:∀ b,Ro b=some (if b=true then 9 else 0):=fun b=>by cases b<;>rfl
 have o:(d.Kind=2∨d.Kind=3→∀ q ∈ d.Params,Ai p q.Ja)→∃ e,To d=some e∧(e=0→uj p d):=by
  intro g;rw [To];have l:d.Kind=2∨d.Kind=3→d.Params.length≤6:=fun h=>(Ba.qh h).1;by_cases c3:d.Kind=3
  ·rw [if_pos c3,Bj,da];by_cases q:d.eb.Kind≠3
   ·rw [if_pos (decide_eq_true q),if_pos (by omega),Bj,da,f];refine ⟨_,rfl,fun n=>⟨fun _ h=>?_,fun _=>q,g,l⟩⟩;simp [h] at n
   ·rw [if_neg (by simpa using q),f];exact ⟨9,rfl,fun h=>absurd h (by decide)⟩
  ·rw [if_neg c3];by_cases c4:d.Kind=4
   ·rw [if_neg (by simpa using c4),f];exact ⟨0,rfl,fun _=>⟨fun h=>absurd c4 h,fun h=>absurd h c3,g,l⟩⟩
   ·rw [if_pos c4,Bj,da,f];refine ⟨_,rfl,fun n=>⟨fun _ h=>?_,fun h=>absurd h c3,g,l⟩⟩;simp [h] at n
 have r:∀ b,(b=true ↔ d.Kind=2∨d.Kind=3)→∃ e,Uo p d b=some e∧(e=0→uj p d):=by
  intro b s;rw [Uo];by_cases q:b=true
  ·rw [if_pos q];have B:=Ba.qh (s.1 q);have L:∀ (m i:Nat) (S:List (List UInt8×Int)),i≤d.Params.length→d.Params.length<m+i→(∀ k c,yb S k=some c→0≤c∧c≤1)→(∀ q ∈ d.Params.take i,Ai p q.Ja)→∃ e,Rn p d m i S=some e∧(e=0→uj p d):=by
    intro m
    induction m with
    | zero=>intro i S t u; omega
    | succ m x =>
     intro i S t u g1 g2;rw [Rn];by_cases c:i<d.Params.length
     ·have C:0≤(yb S d.Params[i].Name).getD 0∧(yb S d.Params[i].Name).getD 0≤1:=by
       cases h:yb S d.Params[i].Name with
       | none=>decide
       | some v=>exact g1 _ _ h
      rw [if_pos (by omega),od,List.getElem?_eq_getElem c,da,Ib (by omega),da,lh,if_pos rfl];simp only [Option.getD_some];by_cases w:(1:Int)<(yb S d.Params[i].Name).getD 0+1
      ·rw [if_pos w];exact ⟨7,rfl,fun h=>absurd h (by decide)⟩
      ·obtain ⟨e,ma,A⟩:=FE p d.Params[i].Ja;rw [if_neg w,ma,da];by_cases z:e=0
       ·rw [if_neg (by simpa using z),Ib (by omega),da];refine x (i+1) _ c (by omega) (fun k v j=>?_) fun y a=>?_
        ·rw [lh] at j;split at j
         ·obtain rfl:=Option.some.inj j;omega
         ·exact g1 _ _ j
        ·rw [List.take_succ_eq_append_getElem c] at a;rcases List.mem_append.1 a with a | a
         ·exact g2 y a
         ·rw [List.mem_singleton.1 a];exact A z
       ·rw [if_pos z];exact ⟨e,rfl,fun h=>absurd h z⟩
     ·rw [if_neg (by omega)];rw [List.take_of_length_le (by omega)] at g2;exact o fun _=>g2
   exact L (d.Params.length+1) 0 [] (by omega) (by omega) (fun k c h=>by cases h) (by simp)
  ·rw [if_neg q];exact o fun h=>absurd (s.2 h) q
 rw [Xm];split
 ·rename_i h;exact r _ (by simp [h])
 ·rename_i h;exact r _ (by simp [h])
theorem gE (fu:Nat) (z:500≤fu) (p:Pb) (d:na) (q:wx p) (f:uj p d) (Ba:Mk d):∃ e,Ym fu p d=some e∧(e=0→d.Kind≠1→∀ y ∈ d.Body,tk p 39 y):=by
 rw [Ym];by_cases b:d.Kind=1
 ·rw [if_pos b];exact ⟨0,rfl,fun _ h=>absurd b h⟩
 ·rw [if_neg b];have l:∀ B:bg,B.length=1→Kj p B→∃ e,Sn fu p d B=some e∧(e=0→d.Kind≠1→∀ y ∈ d.Body,tk p 39 y):=by
   intro B n g;obtain ⟨e,r,s⟩:=(Dw fu).stats 39 p d B d.Body ⟨q,f,g,by omega⟩ (Ba.Nd b) (Ba.fk b) (by omega) (by omega);rw [Sn,r,da];exact ⟨e,rfl,fun u _=>s u⟩
  by_cases c4:d.Kind=4
  ·rw [if_neg (by simpa using c4)];exact l _ rfl (fun m hm k t a=>by rw [List.mem_singleton.1 hm] at a;cases a)
  ·rw [if_pos c4];have o:d.Kind=2∨d.Kind=3:=by have:=Ba.Qb;have:=Ba.De;omega
   have A:=f.pl o;have L:∀ (m i:Nat) (B:bg),i≤d.Params.length→d.Params.length<m+i→B.length=1→Kj p B→∃ e,Jm fu p d m i B=some e∧(e=0→d.Kind≠1→∀ y ∈ d.Body,tk p 39 y):=by
    intro m
    induction m with
    | zero=>intro i B n g; omega
    | succ m v =>
     intro i B n g g1 g2;rw [Jm];by_cases c:i<d.Params.length
     ·have w:0<B.length:=by omega
      rw [if_pos (by omega),od,List.getElem?_eq_getElem c,da,Fo w,da,rj,da,Wr,Ib (by omega),da];refine v (i+1) _ c (by omega) (by simpa using g1) fun x j k t a=>?_;rcases List.mem_or_eq_of_mem_set j with j | rfl
      ·exact g2 x j k t a
      ·rw [lh] at a;split at a
       ·obtain rfl:=Option.some.inj a;exact (f.qh o _ (List.getElem_mem _)).bare
       ·exact g2 _ (List.getElem_mem _) k t a
     ·rw [if_neg (by omega)];exact l B g1 g2
   exact L (d.Params.length+1) 0 _ (by omega) (by omega) rfl (fun m hm k t a=>by rw [List.mem_singleton.1 hm] at a;cases a)
structure ki (p:Pb) (l:List na):Prop where
 ok:sv l
 Df:∀ d ∈ l,yb p.named d.Name=some d
 only:∀ k d,yb p.named k=some d→d ∈ l∧d.Name=k
 Yl:l.Pairwise fun a b=>a.Name≠b.Name
 tf:∃ d ∈ l,d.Kind=4
 Ba:∀ d ∈ l,uj p d
 cs:∀ d ∈ l,d.Kind≠1→∀ y ∈ d.Body,tk p 39 y
theorem Mz (fu:Nat) (B:500≤fu) (l:List na):∃ p f,Um fu l=some (p,f)∧(f.gg=0→ki p l):=by
 obtain ⟨f,j,n⟩:=Rv fu (by omega) l;rw [Um,j,da];by_cases z:f.gg=0
 ·obtain ⟨-,ok⟩:=n z;have za:=ok.le;rw [if_neg (by simpa using z)];have C:∀ (N:List (List UInt8×na)),(∀ d ∈ l,yb N d.Name=some d)→(∀ k d,yb N k=some d→d ∈ l∧d.Name=k)→l.Pairwise (fun a b=>a.Name≠b.Name)→(∃ d ∈ l,d.Kind=4)→(∀ d ∈ l,uj ⟨l,N⟩ d) →
    ∀ (m i:Nat),i≤l.length→l.length<m+i→(∀ d ∈ l.take i,d.Kind≠1→∀ y ∈ d.Body,tk ⟨l,N⟩ 39 y)→∃ p f,fm fu l N m i=some (p,f)∧(f.gg=0→ki p l):=by
   intro N r q s u w m
   induction m with
   | zero=>intro i j n; omega
   | succ m o =>
    intro i j n g;rw [fm];by_cases c:i<l.length
    ·obtain ⟨e,ma,x⟩:=gE fu B ⟨l,N⟩ l[i] (fun k d Ba=>w d (q k d Ba).1) (w _ (List.getElem_mem _)) (ok.ok _ (List.getElem_mem _));rw [if_pos (by omega),od,List.getElem?_eq_getElem c,da,ma,da];by_cases z:e=0
     ·rw [if_neg (by simpa using z),Ib (by omega),da];refine o (i+1) c (by omega) fun d Ba=>?_;rw [List.take_succ_eq_append_getElem c] at Ba;rcases List.mem_append.1 Ba with Ba | Ba
      ·exact g d Ba
      ·rw [List.mem_singleton.1 Ba];exact x z
     ·rw [if_pos z];exact ⟨_,_,rfl,fun h=>absurd h z⟩
    ·rw [if_neg (by omega)];rw [List.take_of_length_le (by omega)] at g;exact ⟨_,_,rfl,fun _=>⟨ok,r,q,s,u,w,g⟩⟩
  have D:∀ (N:List (List UInt8×na)),(∀ d ∈ l,yb N d.Name=some d)→(∀ k d,yb N k=some d→d ∈ l∧d.Name=k)→l.Pairwise (fun a b=>a.Name≠b.Name)→(∃ d ∈ l,d.Kind=4) →
    ∀ (m i:Nat),i≤l.length→l.length<m+i→(∀ d ∈ l.take i,uj ⟨l,N⟩ d)→∃ p f,gm fu l N m i=some (p,f)∧(f.gg=0→ki p l):=by
   intro N r q s u m
   induction m with
   | zero=>intro i j n; omega
   | succ m o =>
    intro i j n g;rw [gm];by_cases c:i<l.length
    ·obtain ⟨e,ma,x⟩:=cA ⟨l,N⟩ l[i] (ok.ok _ (List.getElem_mem _));rw [if_pos (by omega),od,List.getElem?_eq_getElem c,da,ma,da];by_cases z:e=0
     ·rw [if_neg (by simpa using z),Ib (by omega),da];refine o (i+1) c (by omega) fun d Ba=>?_;rw [List.take_succ_eq_append_getElem c] at Ba;rcases List.mem_append.1 Ba with Ba | Ba
      ·exact g d Ba
      ·rw [List.mem_singleton.1 Ba];exact x z
     ·rw [if_pos z];exact ⟨_,_,rfl,fun h=>absurd h z⟩
    ·rw [if_neg (by omega)];rw [List.take_of_length_le (by omega)] at g;exact C N r q s u g (l.length+1) 0 (by omega) (by omega) (by simp)
  have E:∀ (m i:Nat) (t:Int) (N:List (List UInt8×na)),i≤l.length→l.length<m+i→0≤t→t≤i→(t≠0→∃ d ∈ l,d.Kind=4)→(∀ d ∈ l.take i,yb N d.Name=some d)→(∀ k d,yb N k=some d→d ∈ l.take i∧d.Name=k)→(l.take i).Pairwise (fun a b=>a.Name≠b.Name) →
    ∃ p f,xl fu l m t i N=some (p,f)∧(f.gg=0→ki p l):=by
   intro m
   induction m with
   | zero=>intro i t N j n; omega
   | succ m o =>
    intro i t N j n g1 g2 g3 g4 g5 g6;rw [xl];by_cases c:i<l.length
    ·have bb:at_ l (i:Int)=some l[i]:=by rw [od,List.getElem?_eq_getElem c]
     rw [if_pos (by omega),bb,da];cases h:yb N l[i].Name with
     | some v=>rw [if_pos (by simp)]; exact ⟨_,_,rfl,fun h=>absurd h (by decide:(7:Int)≠0)⟩
     | none =>
      rw [if_neg (by simp)];simp only [da];have hm:l[i] ∈ l:=List.getElem_mem _;have tf:=List.take_succ_eq_append_getElem c;have A:∀ d ∈ l.take i,d.Name≠l[i].Name:=fun d Ba he=>by
       have:=g4 d Ba;rw [he,h] at this;cases this
      have q1:∀ d ∈ l.take (i+1),yb (Ue N l[i].Name l[i]) d.Name=some d:=by
       intro d Ba;rw [tf] at Ba;rw [lh];rcases List.mem_append.1 Ba with Ba | Ba
       ·rw [if_neg fun he=>A d Ba he.symm];exact g4 d Ba
       ·rw [List.mem_singleton.1 Ba,if_pos rfl]
      have q2:∀ k d,yb (Ue N l[i].Name l[i]) k=some d→d ∈ l.take (i+1)∧d.Name=k:=by
       intro k d Ba;rw [lh] at Ba;rw [tf];split at Ba
       ·rename_i F;obtain rfl:=Option.some.inj Ba;exact ⟨List.mem_append.2 (.inr (List.mem_singleton.2 rfl)),F⟩
       ·obtain ⟨G,H⟩:=g5 k d Ba;exact ⟨List.mem_append.2 (.inl G),H⟩
      have q3:(l.take (i+1)).Pairwise (fun a b=>a.Name≠b.Name):=by
       rw [tf,List.pairwise_append];refine ⟨g6,List.pairwise_singleton _ _,fun a K b L=>?_⟩;rw [List.mem_singleton.1 L];exact A a K
      by_cases De:l[i].Kind=4
      ·rw [if_pos De,Ib (by omega),da,Ib (by omega),da];exact o (i+1) (t+1) _ c (by omega) (by omega) (by omega) (fun _=>⟨_,hm,De⟩) q1 q2 q3
      ·rw [if_neg De,Ib (by omega),da];exact o (i+1) t _ c (by omega) g1 (by omega) g3 q1 q2 q3
    ·rw [if_neg (by omega)];rw [List.take_of_length_le (by omega)] at g4 g5 g6;by_cases t0:t=0
     ·rw [if_pos t0];exact ⟨_,_,rfl,fun h=>absurd h (by decide:(6:Int)≠0)⟩
     ·rw [if_neg t0];exact D N g4 g5 g6 (g3 t0) (l.length+1) 0 (by omega) (by omega) (by simp)
  exact E (l.length+1) 0 0 [] (by omega) (by omega) (by omega) (by omega) (fun h=>absurd rfl h) (by simp) (fun k d h=>by cases h) (by simp)
 ·rw [if_pos z];exact ⟨_,_,rfl,fun h=>absurd h z⟩
end Go.Y
namespace Go.Y
open Go.pc Go.nd
def eh (B:bg):Prop:=∃ m ∈ B,m≠[]
def nc (p:Pb) (G V:Prop):Nat→hb→Prop
 | 0,_=>False
 | k+1,x=>(x.Kind=19→∃ d,yb p.named x.Name=some d∧d.Kind=2)∧(x.Kind=22→∃ d,yb p.named x.Name=some d∧d.Kind=3)∧(x.Kind=20→∃ d,yb p.named x.Name=some d∧d.Kind=1)∧(x.Kind=3→V)∧(x.Kind=21→G)∧∀ y ∈ x.Kids,nc p G V k y
theorem nc.mono {p:Pb}{G V f:Prop}(h:V→f):∀ {k:Nat}{x:hb},nc p G V k x→nc p G f k x
 | 0,_,g=>g
 | k+1,x,⟨a,b,c,d,g,e⟩=>⟨a,b,c,fun q=>h (d q),g,fun y i=>nc.mono h (e y i)⟩
def ph (C:Prop→cb→Prop):Prop→List cb→Prop
 | _,[]=>True
 | V,s::t=>C V s∧ph C (V∨s.Kind=1) t
def og (p:Pb) (G:Prop):Nat→Prop→cb→Prop
 | 0,_,_=>False
 | k+1,V,s=>(s.Kind≠6→nc p G V k s.X)∧((s.Kind=3∨s.Kind=4)→ph (og p G k) V s.Body)∧(s.Kind=3→ph (og p G k) V s.Qd)∧(s.Kind=7→∃ d,yb p.named s.Name=some d∧d.Kind=1)∧(s.Kind=2→V)
theorem ph.mono {C:Prop→cb→Prop}(d:∀ (V c:Prop) (s:cb),(V→c)→C V s→C c s):∀ {V c:Prop}{l:List cb},(V→c)→ph C V l→ph C c l
 | _,_,[],h,g=>g
 | V,c,s::t,h,⟨a,b⟩=>⟨d V c s h a,ph.mono d (fun q=>q.imp h id) b⟩
theorem og.mono {p:Pb}{G:Prop}:∀ {k:Nat}{V f:Prop}{s:cb},(V→f)→og p G k V s→og p G k f s
 | 0,_,_,_,h,g=>g
 | k+1,V,f,s,h,⟨a,b,c,d,e⟩=>⟨fun q=>nc.mono h (a q),fun q=>ph.mono (C:=og p G k) (fun _ _ _ h=>og.mono h) h (b q),fun q=>ph.mono (C:=og p G k) (fun _ _ _ h=>og.mono h) h (c q),d,fun q=>h (e q)⟩
theorem Zy {p:Pb}{B:bg}(a:Kj p B) (za:B.length≤100) (fu:Nat) (i:110≤fu) (d:na) (name:List UInt8):∃ t b,Wm fu p d B name=some (t,b)∧(b=true→Ai p t∧eh B):=by
 have L:∀ (n j:Nat),j≤B.length→j<n→∃ t b,Pn name B n ((j:Int) - 1)=some (t,b)∧(b=true→Ai p t∧eh B):=by
  intro n
  induction n with
  | zero=>intro j c f; omega
  | succ n g =>
   intro j c f;rw [Pn];cases j with
   | zero=>rw [if_neg (by omega)]; exact ⟨_,_,rfl,by simp⟩
   | succ j =>
    have e:((j+1:Nat):Int) - 1=(j:Int):=by omega
    rw [e,if_pos (by omega),od,List.getElem?_eq_getElem (show j<B.length by omega),da];cases h:yb B[j] name with
    | none =>
     rw [if_neg (by simp),Ib (by omega),da];exact g j (by omega) (by omega)
    | some t=>exact ⟨t,true,rfl,fun _=>⟨a _ (List.getElem_mem _) _ _ h,⟨B[j],List.getElem_mem _,fun e=>by rw [e] at h; cases h⟩⟩⟩
 rw [Wm,Ib (by omega),da];exact L fu B.length (by omega) (by omega)
structure rH (n:Nat):Prop where
 typed:∀ (k:Nat) (p:Pb) (d:na) (B:bg) (x:hb) (t:pb),aj p d B→jh k x→3*k+111≤n→∃ e,(Ee n).ig p d B x t=some e∧(e=0→nc p (d.Kind=3) (eh B) k x)
 args:∀ (k:Nat) (p:Pb) (d:na) (B:bg) (x:hb) (kind:Int),aj p d B→(∀ y ∈ x.Kids,jh k y)→x.Kids.length≤6→(kind=2∨kind=3)→3*k+112≤n →
  ∃ c e,(Ee n).sj p d B x kind=some (c,e)∧(e=0→∃ f,c=some f∧yb p.named x.Name=some f∧f.Kind=kind∧∀ y ∈ x.Kids,nc p (d.Kind=3) (eh B) k y)
 both:∀ (k:Nat) (p:Pb) (d:na) (B:bg) (x a b:hb),aj p d B→x.Kids=[a,b]→jh k a→jh k b→3*k+112≤n→∃ t e,(Ee n).qk p d B x=some (t,e)∧(e=0→nc p (d.Kind=3) (eh B) k a∧nc p (d.Kind=3) (eh B) k b)
 handle:∀ (k:Nat) (p:Pb) (d:na) (B:bg) (x:hb),aj p d B→jh k x→3*k+112≤n→∃ c e,(Ee n).qj p d B x=some (c,e)∧(e=0→(∃ f g,c=some f∧yb p.named g=some f∧f.Kind=3)∧nc p (d.Kind=3) (eh B) k x)
 expr:∀ (k:Nat) (p:Pb) (d:na) (B:bg) (x:hb),aj p d B→jh k x→3*k+110≤n→∃ t e,(Ee n).rh p d B x=some (t,e)∧(e=0→Ai p t∧nc p (d.Kind=3) (eh B) k x)
theorem VB:∀ n,rH n:=by
 intro n
 induction n with
 | zero=>exact ⟨fun _ _ _ _ _ _ _ _ h=>by omega,fun _ _ _ _ _ _ _ _ _ _ h=>by omega,fun _ _ _ _ _ _ _ _ _ _ _ h=>by omega,fun _ _ _ _ _ _ _ h=>by omega,fun _ _ _ _ _ _ _ h=>by omega⟩
 | succ n u =>
  refine ⟨fun k p d B x t H A Q=>?_,fun k p d B x kind H A za F Q=>?_,fun k p d B x a b H A j O Q=>?_,fun k p d B x H A Q=>?_,fun k p d B x H A Q=>?_⟩
  ·show ∃ e,ig (Ee n) p d B x t=some e∧_;obtain ⟨Rd,e,r,o⟩:=u.expr k p d B x H A (by omega);rw [ig,r,da];by_cases z:e=0
   ·rw [if_pos z,rj,da,Ip];exact ⟨_,rfl,fun _=>(o z).2⟩
   ·rw [if_neg z,Ip];exact ⟨e,rfl,fun h=>absurd h z⟩
  ·show ∃ v e,sj (Ee n) p d B x kind=some (v,e)∧_;rw [sj,Sm,da];by_cases c:Yi (yb p.named x.Name) kind=true
   ·obtain ⟨f,M,W⟩:=rn c;rw [if_pos c,M];simp only [da];have wd:=H.Fm _ _ M;have ge:=wd.pl (by omega);by_cases q:(f.Params.length:Int)≠x.Kids.length
    ·rw [decide_eq_true q];exact ⟨none,5,rfl,fun h=>absurd h (by decide)⟩
    ·rw [decide_eq_false q,Fq,if_neg (by decide)];simp only [da];have L:∀ (m i:Nat),i≤f.Params.length→f.Params.length<m+i→∃ v e,Qn (Ee n) x p d B (some f,Yi (some f) kind) f m i=some (v,e)∧(e=0→v=some f∧∀ y ∈ x.Kids.drop i,nc p (d.Kind=3) (eh B) k y):=by
      intro m
      induction m with
      | zero=>intro i r o; omega
      | succ m X =>
       intro i r o;rw [Qn];by_cases c:i<f.Params.length
       ·have rc:i<x.Kids.length:=by omega
        obtain ⟨e,ma,w⟩:=u.typed k p d B x.Kids[i] f.Params[i].Ja H (A _ (List.getElem_mem _)) (by omega);rw [if_pos (by omega),od,List.getElem?_eq_getElem c,da,od,List.getElem?_eq_getElem rc,da,ma,da];by_cases z:e=0
        ·rw [if_neg (by simpa using z),Ib (by omega),da];obtain ⟨v,P,G,E⟩:=X (i+1) c (by omega);refine ⟨v,P,G,fun s=>⟨(E s).1,fun y D=>?_⟩⟩;rw [List.drop_eq_getElem_cons rc] at D;rcases List.mem_cons.1 D with rfl | D
         ·exact w z
         ·exact (E s).2 y D
        ·rw [if_pos z];exact ⟨none,e,rfl,fun h=>absurd h z⟩
       ·rw [if_neg (by omega),List.drop_eq_nil_of_le (by omega)];exact ⟨some f,0,rfl,fun _=>⟨rfl,by simp⟩⟩
     obtain ⟨v,e,G,E⟩:=L (f.Params.length+1) 0 (by omega) (by omega);refine ⟨v,e,G,fun s=>?_⟩;obtain ⟨s1,s2⟩:=E s;rw [List.drop_zero] at s2;exact ⟨f,s1,rfl,W,s2⟩
   ·rw [if_neg c];exact ⟨none,7,rfl,fun h=>absurd h (by decide)⟩
  ·show ∃ t e,qk (Ee n) p d B x=some (t,e)∧_;obtain ⟨t1,ma,r,o⟩:=u.expr k p d B a H j (by omega);obtain ⟨t2,w,g1,g2⟩:=u.expr k p d B b H O (by omega);have C:at_ x.Kids 0=some a:=by rw [A];rfl
   have Qb:at_ x.Kids 1=some b:=by rw [A];rfl
   rw [qk,C,da,r,da];by_cases z:ma=0
   ·rw [if_neg (by simpa using z),Qb,da,g1,da];by_cases z2:w=0
    ·have fin:∀ Te,∃ t e,Lp (t1,ma) (t2,w) Te=some (t,e)∧(e=0→nc p (d.Kind=3) (eh B) k a∧nc p (d.Kind=3) (eh B) k b):=fun Te=>by rw [Aq];exact ⟨_,_,rfl,fun _=>⟨(o z).2,(g2 z2).2⟩⟩
     rw [if_pos z2];split
     ·rw [Bj,da];exact fin _
     ·exact fin _
    ·rw [if_neg z2,Aq];exact ⟨_,w,rfl,fun h=>absurd h z2⟩
   ·rw [if_pos z];exact ⟨_,ma,rfl,fun h=>absurd h z⟩
  ·show ∃ v e,qj (Ee n) p d B x=some (v,e)∧_;obtain ⟨t,e,r,o⟩:=u.expr k p d B x H A (by omega);rw [qj,r,da];by_cases z:e=0
   ·rw [if_neg (by simpa using z),Bj,da];by_cases q:t.Kind≠3
    ·rw [if_pos (decide_eq_true q)];exact ⟨none,9,rfl,fun h=>absurd h (by decide)⟩
    ·obtain ⟨f,f1,f2⟩:=(o z).1 (Decidable.not_not.1 q);rw [if_neg (by simpa using q)];exact ⟨_,0,rfl,fun _=>⟨⟨f,t.Pa,f1,f1,f2⟩,(o z).2⟩⟩
   ·rw [if_pos z];exact ⟨none,e,rfl,fun h=>absurd h z⟩
  ·show ∃ t e,rh n (Ee n) p d B x=some (t,e)∧_;cases k with
   | zero=>cases A
   | succ k =>
   obtain ⟨Qb,he,F,N⟩:=A;have R:ng x.Kind=1→∃ a,x.Kids=[a]∧jh k a:=fun h=>by
    obtain ⟨a,j⟩:=one (l:=x.Kids) (by have:=F.eq (by omega);omega);exact ⟨a,j,N a (by simp [j])⟩
   have fd:ng x.Kind=2→∃ a b,x.Kids=[a,b]∧jh k a∧jh k b:=fun h=>by
    obtain ⟨a,b,j⟩:=two (l:=x.Kids) (by have:=F.eq (by omega);omega);exact ⟨a,b,j,N a (by simp [j]),N b (by simp [j])⟩
   have S:ng x.Kind=0→x.Kids=[]:=fun h=>List.length_eq_zero_iff.1 (by have:=F.eq (by omega);omega);have ub:x.Kind≠19→x.Kind≠20→x.Kind≠22→x.Kind≠3→x.Kind≠21→(∀ y ∈ x.Kids,nc p (d.Kind=3) (eh B) k y)→nc p (d.Kind=3) (eh B) (k+1) x:=fun r o Fd Id be ce=>⟨fun h=>absurd h r,fun h=>absurd h Fd,fun h=>absurd h o,fun h=>absurd h Id,fun h=>absurd h be,ce⟩;rw [rh];by_cases Y:x.Kind=1
   ·rw [if_pos Y];exact ⟨_,0,rfl,fun _=>⟨.of (by decide),ub (by omega) (by omega) (by omega) (by omega) (by omega) (by rw [S (by rw [Y];rfl)];simp)⟩⟩
   rw [if_neg Y];by_cases c2:x.Kind=2
   ·rw [if_pos c2];exact ⟨_,0,rfl,fun _=>⟨.of (by decide),ub (by omega) (by omega) (by omega) (by omega) (by omega) (by rw [S (by rw [c2];rfl)];simp)⟩⟩
   rw [if_neg c2];by_cases c3:x.Kind=3
   ·obtain ⟨t,b,r,o⟩:=Zy H.Ad H.Nd n (by omega) d x.Name;rw [if_pos c3,r,da];cases b with
    | true=>exact ⟨t,0,rfl,fun _=>⟨(o rfl).1,⟨fun h=>by omega,fun h=>by omega,fun h=>by omega,fun _=>(o rfl).2,fun h=>by omega,by rw [S (by rw [c3]; rfl)]; simp⟩⟩⟩
    | false=>exact ⟨_,7,rfl,fun h=>absurd h (by decide)⟩
   rw [if_neg c3];by_cases c4:x.Kind=4
   ·obtain ⟨a,j,K⟩:=R (by rw [c4];rfl);obtain ⟨e,ma,w⟩:=u.typed k p d B a ⟨1,[]⟩ H K (by omega);have C:at_ x.Kids 0=some a:=by rw [j];rfl
    rw [if_pos c4,C,da,Sj,da,da,ma,da];exact ⟨_,e,rfl,fun s=>⟨.of (by decide),ub (by omega) (by omega) (by omega) (by omega) (by omega) (by rw [j];simpa using w s)⟩⟩
   rw [if_neg c4];by_cases c5:x.Kind=5
   ·obtain ⟨a,j,K⟩:=R (by rw [c5];rfl);obtain ⟨e,ma,w⟩:=u.typed k p d B a ⟨2,[]⟩ H K (by omega);have C:at_ x.Kids 0=some a:=by rw [j];rfl
    rw [if_pos c5,C,da,Gi,da,da,ma,da];exact ⟨_,e,rfl,fun s=>⟨.of (by decide),ub (by omega) (by omega) (by omega) (by omega) (by omega) (by rw [j];simpa using w s)⟩⟩
   rw [if_neg c5];have id:∀ b,(b=true ↔ x.Kind=11∨x.Kind=12)→∃ t e,im (Ee n) x p d B b=some (t,e)∧(e=0→Ai p t∧nc p (d.Kind=3) (eh B) (k+1) x):=by
    intro b O;rw [im];by_cases q:b=true
    ·have c:=O.1 q;obtain ⟨a,T,j,Z,Ge⟩:=fd (by rcases c with c | c<;>rw [c]<;>rfl);obtain ⟨t,e,r,o⟩:=u.both k p d B x a T H j Z Ge (by omega);rw [if_pos q,r,da,Gi,da];exact ⟨_,e,rfl,fun s=>⟨.of (by decide),ub (by omega) (by omega) (by omega) (by omega) (by omega) (by rw [j];simpa using o s)⟩⟩
    rw [if_neg q];have q1:x.Kind≠11:=fun h=>q (O.2 (.inl h));have q2:x.Kind≠12:=fun h=>q (O.2 (.inr h));by_cases md:x.Kind=19
    ·obtain ⟨v,e,r,o⟩:=u.args k p d B x 2 H N F.le (.inl rfl) (by omega);rw [if_pos md,r,da];by_cases z:e=0
     ·obtain ⟨f,rfl,g1,g2,g3⟩:=o z;rw [if_neg (by simpa using z)];simp only [da];rw [rj,da];exact ⟨_,0,rfl,fun _=>⟨.of (by rw [gq];exact (H.Fm _ _ g1).ty (by omega)),⟨fun _=>⟨f,g1,g2⟩,fun h=>by omega,fun h=>by omega,fun h=>by omega,fun h=>by omega,g3⟩⟩⟩
     ·rw [if_pos z];exact ⟨_,e,rfl,fun h=>absurd h z⟩
    rw [if_neg md];by_cases c20:x.Kind=20
    ·rw [if_pos c20,Sm,da];by_cases c:Yi (yb p.named x.Name) 1=true
     ·obtain ⟨f,M,W⟩:=rn c;rw [if_pos c,M];simp only [da];rw [rj,da];exact ⟨_,0,rfl,fun _=>⟨.of (by rw [gq];exact (H.Fm _ _ M).ty (by omega)),⟨fun h=>by omega,fun h=>by omega,fun _=>⟨f,M,W⟩,fun h=>by omega,fun h=>by omega,by rw [S (by rw [c20];rfl)];simp⟩⟩⟩
     ·rw [if_neg c];exact ⟨_,7,rfl,fun h=>absurd h (by decide)⟩
    rw [if_neg c20];by_cases c21:x.Kind=21
    ·obtain ⟨a,j,K⟩:=R (by rw [c21];rfl);obtain ⟨e,ma,w⟩:=u.typed k p d B a d.Ja H K (by omega);have C:at_ x.Kids 0=some a:=by rw [j];rfl
     rw [if_pos c21];by_cases V:d.Kind=3
     ·rw [if_neg (by simpa using V),C,da,rj,da,ma,da];exact ⟨_,e,rfl,fun s=>⟨.of (by show (ai d.eb).Kind≠3;rw [gq];exact H.Ba.tf V),⟨fun h=>by omega,fun h=>by omega,fun h=>by omega,fun h=>by omega,fun _=>V,by rw [j];simpa using w s⟩⟩⟩
     ·rw [if_pos V];exact ⟨_,8,rfl,fun h=>absurd h (by decide)⟩
    rw [if_neg c21];by_cases rd:x.Kind=22
    ·obtain ⟨v,e,r,o⟩:=u.args k p d B x 3 H N F.le (.inr rfl) (by omega);rw [if_pos rd,r,da];refine ⟨_,e,rfl,fun s=>?_⟩;obtain ⟨f,-,g1,g2,g3⟩:=o s;exact ⟨fun _=>⟨f,g1,g2⟩,⟨fun h=>by omega,fun _=>⟨f,g1,g2⟩,fun h=>by omega,fun h=>by omega,fun h=>by omega,g3⟩⟩
    rw [if_neg rd];by_cases gc:x.Kind=23
    ·obtain ⟨a,T,j,Z,Ge⟩:=fd (by rw [gc];rfl);obtain ⟨v,e,r,o⟩:=u.handle k p d B a H Z (by omega);have C:at_ x.Kids 0=some a:=by rw [j];rfl
     have Qb:at_ x.Kids 1=some T:=by rw [j];rfl
     rw [if_pos gc,C,da,r,da];by_cases z:e=0
     ·obtain ⟨⟨f,g,rfl,g1,g2⟩,g3⟩:=o z;obtain ⟨P,G,E⟩:=u.typed k p d B T f.eb H Ge (by omega);rw [if_neg (by simpa using z)];simp only [da];rw [Qb,da,rj,da,G,da];exact ⟨_,P,rfl,fun s=>⟨.of (by show (ai f.Ja).Kind≠3;rw [gq];exact (H.Fm _ _ g1).ty (by omega)),ub (by omega) (by omega) (by omega) (by omega) (by omega) (by rw [j];simpa using ⟨g3,E s⟩)⟩⟩
     ·rw [if_pos z];exact ⟨_,e,rfl,fun h=>absurd h z⟩
    rw [if_neg gc];by_cases c24:x.Kind=24
    ·obtain ⟨a,j,K⟩:=R (by rw [c24];rfl);obtain ⟨v,e,r,o⟩:=u.handle k p d B a H K (by omega);have C:at_ x.Kids 0=some a:=by rw [j];rfl
     rw [if_pos c24,C,da,r,da,Gi,da];exact ⟨_,e,rfl,fun s=>⟨.of (by decide),ub (by omega) (by omega) (by omega) (by omega) (by omega) (by rw [j];simpa using (o s).2)⟩⟩
    rw [if_neg c24];have L:∀ (i1 i2:Int) (s1 s2:List UInt8) (m i:Nat),i≤x.Kids.length→x.Kids.length<m+i→∃ e,yl (Ee n) x p d B i1 s1 i2 s2 m i=some (⟨i2,s2⟩,e)∧(e=0→∀ y ∈ x.Kids.drop i,nc p (d.Kind=3) (eh B) k y):=by
     intro i1 i2 s1 s2 m
     induction m with
     | zero=>intro i r o; omega
     | succ m X =>
      intro i r o;rw [yl];by_cases c:i<x.Kids.length
      ·have:=F.le;obtain ⟨e,ma,w⟩:=u.typed k p d B x.Kids[i] ⟨i1,s1⟩ H (N _ (List.getElem_mem _)) (by omega);rw [if_pos (by omega),od,List.getElem?_eq_getElem c,da,ma,da];by_cases z:e=0
       ·rw [if_neg (by simpa using z),Ib (by omega),da];obtain ⟨P,G,E⟩:=X (i+1) c (by omega);refine ⟨P,G,fun s y D=>?_⟩;rw [List.drop_eq_getElem_cons c] at D;rcases List.mem_cons.1 D with rfl | D
        ·exact w z
        ·exact E s y D
       ·rw [if_pos z];exact ⟨e,rfl,fun h=>absurd h z⟩
      ·rw [if_neg (by omega),List.drop_eq_nil_of_le (by omega)];exact ⟨0,rfl,fun _=>by simp⟩
    have lc:∀ (i1 i2:Int) (s1 s2:List UInt8),i2≠3→∃ t e,Qo (Ee n) x p d B i1 s1 i2 s2=some (t,e)∧(e=0→Ai p t∧nc p (d.Kind=3) (eh B) (k+1) x):=by
     intro i1 i2 s1 s2 h;obtain ⟨e,r,o⟩:=L i1 i2 s1 s2 (x.Kids.length+1) 0 (by omega) (by omega);exact ⟨_,e,r,fun s=>⟨.of h,ub (by omega) (by omega) (by omega) (by omega) (by omega) (by simpa using o s)⟩⟩
    rw [Sj,da,da,Gi];simp only [da];split
    ·exact lc _ _ _ _ (by decide)
    ·split
     ·exact lc _ _ _ _ (by decide)
     ·exact lc _ _ _ _ (by decide)
   split
   ·rename_i h;exact id _ (by simp [h])
   ·rename_i h;exact id _ (by simp [h])
structure sH (n:Nat):Prop where
 stats:∀ (k:Nat) (p:Pb) (d:na) (B:bg) (l:List cb),aj p d B→l.length≤50→(∀ y ∈ l,mj k y)→B.length+k≤90→5*k+130≤n →
  ∃ e,(Xh n).ui p d B l=some (e,B)∧(e=0→ph (og p (d.Kind=3) k) (eh B) l)
 stat:∀ (k:Nat) (p:Pb) (d:na) (B:bg) (s:cb),aj p d B→0<B.length→mj k s→B.length+k≤91→5*k+129≤n →
  ∃ e a,(Xh n).Qj p d B s=some (e,a)∧a.length=B.length∧a.take (B.length - 1)=B.take (B.length - 1)∧Kj p a∧(e=0→og p (d.Kind=3) k (eh B) s)∧(eh a→eh B∨s.Kind=1)
theorem IF:∀ n,sH n:=by
 intro n
 induction n with
 | zero=>exact ⟨fun _ _ _ _ _ _ _ _ _ h=>by omega,fun _ _ _ _ _ _ _ _ _ h=>by omega⟩
 | succ n D =>
  refine ⟨fun k p d B l H za x T V=>?_,fun k p d B s H Id x T V=>?_⟩
  ·show ∃ e,ui (Xh n) p d B l=some (e,B)∧_;rw [ui,app,if_pos (by simp;omega),da,Bq];have L:∀ (m i:Nat) (a:bg),i≤l.length→l.length<m+i→a.length=B.length+1→a.take B.length=B→Kj p a →
     ∃ e,Ln (Xh n) l p d m i a=some (e,B)∧(e=0→ph (og p (d.Kind=3) k) (eh a) (l.drop i)):=by
    intro m
    induction m with
    | zero=>intro i a j g; omega
    | succ m W =>
     intro i a j g g1 g2 g3;rw [Ln];have pop:∀ C:bg,C.length=B.length+1→C.take B.length=B→lp p d C=some B:=fun C ma v=>by
      rw [Cu p d C (by omega) (by omega),ma,Nat.add_sub_cancel,v]
     by_cases c:i<l.length
     ·obtain ⟨e,E,Y,F,O,Z,gc,lc⟩:=D.stat k p d a l[i] ⟨H.Fm,H.Ba,g3,by omega⟩ (by omega) (x _ (List.getElem_mem _)) (by omega) (by omega);rw [g1,Nat.add_sub_cancel] at O;rw [g1] at F;have v:E.take B.length=B:=O.trans g2;rw [if_pos (by omega),od,List.getElem?_eq_getElem c,da,Y,da];by_cases z:e=0
      ·rw [if_neg (by simpa using z),Ib (by omega),da];obtain ⟨rc,s1,s2⟩:=W (i+1) E c (by omega) F v Z;refine ⟨rc,s1,fun r=>?_⟩;rw [List.drop_eq_getElem_cons c];exact ⟨gc z,ph.mono (C:=og p (d.Kind=3) k) (fun _ _ _ h=>og.mono h) lc (s2 r)⟩
      ·rw [if_pos z];simp only [];rw [pop E F v,da];exact ⟨e,rfl,fun h=>absurd h z⟩
     ·rw [if_neg (by omega),pop a g1 g2,da,List.drop_eq_nil_of_le (by omega)];exact ⟨0,rfl,fun _=>trivial⟩
   have:=L (l.length+1) 0 (B++[[]]) (by omega) (by omega) (by simp) (by simp) (fun m hm y t G=>by
    rcases List.mem_append.1 hm with hm | hm
    ·exact H.Ad m hm y t G
    ·rw [List.mem_singleton.1 hm] at G;cases G)
   obtain ⟨e,ma,v⟩:=this;rw [List.drop_zero] at v;refine ⟨e,ma,fun r=>ph.mono (C:=og p (d.Kind=3) k) (fun _ _ _ h=>og.mono h) (fun ⟨m,hm,P⟩=>?_) (v r)⟩;rcases List.mem_append.1 hm with hm | hm
   ·exact ⟨m,hm,P⟩
   ·exact absurd (List.mem_singleton.1 hm) P
  ·show ∃ e a,Qj n (Xh n) p d B s=some (e,a)∧_;cases k with
   | zero=>cases x
   | succ k =>
   obtain ⟨Qb,be,w,Q,he⟩:=x;have A:=(VB n).typed k p d B s.X;have K:=(VB n).expr k p d B s.X;have same:∀ e:Int,(e=0→og p (d.Kind=3) (k+1) (eh B) s)→∀ o:Option (Int×bg),o=some (e,B)→∃ e a,o=some (e,a)∧a.length=B.length∧a.take (B.length - 1)=B.take (B.length - 1)∧Kj p a∧(e=0→og p (d.Kind=3) (k+1) (eh B) s)∧(eh a→eh B∨s.Kind=1):=
    fun e h o fd=>⟨e,B,fd,rfl,rfl,H.Ad,h,.inl⟩
   have cs:s.Kind≠3→s.Kind≠4→s.Kind≠7→(s.Kind=2→eh B)→(s.Kind≠6→nc p (d.Kind=3) (eh B) k s.X)→og p (d.Kind=3) (k+1) (eh B) s:=fun id ce md g h=>⟨h,fun h=>by omega,fun h=>absurd h id,fun h=>absurd h md,g⟩;rw [Qj];by_cases M:s.Kind=1
   ·obtain ⟨t,e,j,g⟩:=K H (w (by omega)) (by omega);rw [if_pos M,j,da];by_cases z:e=0
    ·obtain ⟨Rd,b,g1,g2⟩:=Zy H.Ad H.Nd n (by omega) d s.Name;rw [if_neg (by simpa using z),g1,da];cases b with
     | true=>exact same 7 (fun h=>absurd h (by decide)) _ rfl
     | false =>
      have rd:B.length - 1<B.length:=by omega
      have ma:(B.length:Int) - 1=((B.length - 1:Nat):Int):=by omega
      rw [if_neg (by simp),Ib (by omega),da,ma,od,List.getElem?_eq_getElem rd,da,Gq];refine ⟨0,_,rfl,by simp,?_,fun m hm y u hu=>?_,fun _=>cs (by omega) (by omega) (by omega) (fun h=>by omega) fun _=>(g z).2,fun _=>.inr M⟩
      ·simp [List.take_set_of_le]
      ·rcases List.mem_or_eq_of_mem_set hm with hm | rfl
       ·exact H.Ad m hm y u hu
       ·rw [lh] at hu;split at hu
        ·obtain rfl:=Option.some.inj hu;exact (g z).1
        ·exact H.Ad _ (List.getElem_mem _) y u hu
    ·rw [if_pos z];exact same e (fun h=>absurd h z) _ rfl
   rw [if_neg M];by_cases c2:s.Kind=2
   ·obtain ⟨Rd,b,g1,g2⟩:=Zy H.Ad H.Nd n (by omega) d s.Name;rw [if_pos c2,g1,da];cases b with
    | false=>exact same 7 (fun h=>absurd h (by decide)) _ rfl
    | true =>
     obtain ⟨e,j,g⟩:=A Rd H (w (by omega)) (by omega);rw [if_pos rfl,j,da];exact same e (fun r=>cs (by omega) (by omega) (by omega) (fun _=>(g2 rfl).2) fun _=>g r) _ rfl
   rw [if_neg c2];have R:∀ b,(b=true ↔ s.Kind=3∨s.Kind=4)→∃ e a,jm n (Xh n) s p d B b=some (e,a)∧a.length=B.length∧a.take (B.length - 1)=B.take (B.length - 1)∧Kj p a∧(e=0→og p (d.Kind=3) (k+1) (eh B) s)∧(eh a→eh B∨s.Kind=1):=by
    intro b N;rw [jm];by_cases q:b=true
    ·have c:=N.1 q;obtain ⟨e,j,g⟩:=A ⟨2,[]⟩ H (w (by omega)) (by omega);rw [if_pos q,Gi,da,j,da];by_cases z:e=0
     ·rw [if_neg (by simpa using z)];obtain ⟨v,g1,g2⟩:=D.stats k p d B s.Body H (Q c).1 (Q c).2 (by omega) (by omega);rw [g1,da];by_cases z2:v=0
      ·rw [if_neg (by simpa using z2)];by_cases c4:s.Kind=4
       ·rw [decide_eq_true c4];exact same v (fun _=>⟨fun _=>g z,fun _=>g2 z2,fun h=>by omega,fun h=>by omega,fun h=>by omega⟩) _ rfl
       ·have c3:s.Kind=3:=by omega
        obtain ⟨wd,f1,f2⟩:=D.stats k p d B s.Qd H (he c3).1 (he c3).2 (by omega) (by omega);rw [decide_eq_false c4,Mp,if_neg (by decide)];simp only [];rw [f1,da];exact same wd (fun r=>⟨fun _=>g z,fun _=>g2 z2,fun _=>f2 r,fun h=>by omega,fun h=>by omega⟩) _ rfl
      ·rw [if_pos z2];exact same v (fun h=>absurd h z2) _ rfl
     ·rw [if_pos z];exact same e (fun h=>absurd h z) _ rfl
    rw [if_neg q];have q3:s.Kind≠3:=fun h=>q (N.2 (.inl h));have q4:s.Kind≠4:=fun h=>q (N.2 (.inr h));by_cases c5:s.Kind=5
    ·rw [if_pos c5];split
     ·exact same 8 (fun h=>absurd h (by decide)) _ rfl
     ·obtain ⟨e,j,g⟩:=A d.Ja H (w (by omega)) (by omega);rw [j,da];exact same e (fun r=>cs q3 q4 (by omega) (fun h=>absurd h c2) fun _=>g r) _ rfl
    rw [if_neg c5];by_cases Sd:s.Kind=6
    ·rw [if_pos Sd];split
     ·exact same 8 (fun h=>absurd h (by decide)) _ rfl
     ·exact same 0 (fun r=>cs q3 q4 (by omega) (fun h=>absurd h c2) fun h=>absurd Sd h) _ rfl
    rw [if_neg Sd];by_cases Tf:s.Kind=7
    ·rw [if_pos Tf,Sm,da];by_cases c:Yi (yb p.named s.Name) 1=true
     ·obtain ⟨f,S,Fd⟩:=rn c;obtain ⟨e,j,g⟩:=A f.Ja H (w (by omega)) (by omega);rw [if_pos c,S];simp only [da];rw [j,da];exact same e (fun r=>⟨fun _=>g r,fun h=>by omega,fun h=>by omega,fun _=>⟨f,S,Fd⟩,fun h=>by omega⟩) _ rfl
     ·rw [if_neg c];exact same 7 (fun h=>absurd h (by decide)) _ rfl
    rw [if_neg Tf];by_cases ee:s.Kind=8
    ·obtain ⟨t,e,j,g⟩:=K H (w (by omega)) (by omega);rw [if_pos ee,j,da];by_cases z:e=0
     ·rw [if_pos z,Bj,da,Rr];exact same _ (fun _=>cs q3 q4 (by omega) (fun h=>absurd h c2) fun _=>(g z).2) _ rfl
     ·rw [if_neg z,Rr];exact same e (fun h=>absurd h z) _ rfl
    rw [if_neg ee];by_cases c9:s.Kind=9
    ·obtain ⟨t,e,j,g⟩:=K H (w (by omega)) (by omega);rw [if_pos c9,j,da];exact same e (fun r=>cs q3 q4 (by omega) (fun h=>absurd h c2) fun _=>(g r).2) _ rfl
    ·omega
   split
   ·rename_i h;exact R _ (by simp [h])
   ·rename_i h;exact R _ (by simp [h])
theorem oI (fu:Nat) (A:500≤fu) (p:Pb) (d:na) (r:wx p) (f:uj p d) (Ba:Mk d):∃ e,Ym fu p d=some e∧(e=0→d.Kind≠1→ph (og p (d.Kind=3) 39) (d.Kind≠4∧d.Params≠[]) d.Body):=by
 rw [Ym];by_cases b:d.Kind=1
 ·rw [if_pos b];exact ⟨0,rfl,fun _ h=>absurd b h⟩
 ·rw [if_neg b];have n:∀ B:bg,B.length=1→Kj p B→(eh B→d.Kind≠4∧d.Params≠[])→∃ e,Sn fu p d B=some e∧(e=0→d.Kind≠1→ph (og p (d.Kind=3) 39) (d.Kind≠4∧d.Params≠[]) d.Body):=by
   intro B o g s;obtain ⟨e,u,v⟩:=(IF fu).stats 39 p d B d.Body ⟨r,f,g,by omega⟩ (Ba.Nd b) (Ba.fk b) (by omega) (by omega);rw [Sn,u,da];exact ⟨e,rfl,fun w _=>ph.mono (C:=og p (d.Kind=3) 39) (fun _ _ _ h=>og.mono h) s (v w)⟩
  by_cases c4:d.Kind=4
  ·rw [if_neg (by simpa using c4)];exact n _ rfl (fun m hm k t a=>by rw [List.mem_singleton.1 hm] at a;cases a) (fun ⟨m,hm,j⟩=>absurd (List.mem_singleton.1 hm) j)
  ·rw [if_pos c4];have q:d.Kind=2∨d.Kind=3:=by have:=Ba.Qb;have:=Ba.De;omega
   have D:=f.pl q;have L:∀ (m i:Nat) (B:bg),i≤d.Params.length→d.Params.length<m+i→B.length=1→Kj p B→(eh B→d.Kind≠4∧d.Params≠[])→∃ e,Jm fu p d m i B=some e∧(e=0→d.Kind≠1→ph (og p (d.Kind=3) 39) (d.Kind≠4∧d.Params≠[]) d.Body):=by
    intro m
    induction m with
    | zero=>intro i B o g; omega
    | succ m x =>
     intro i B o g g1 g2 g3;rw [Jm];by_cases c:i<d.Params.length
     ·have y:0<B.length:=by omega
      rw [if_pos (by omega),od,List.getElem?_eq_getElem c,da,Fo y,da,rj,da,Wr,Ib (by omega),da];refine x (i+1) _ c (by omega) (by simpa using g1) (fun z l k t a=>?_) fun _=>⟨c4,fun e=>by rw [e] at c;exact absurd c (by simp)⟩;rcases List.mem_or_eq_of_mem_set l with l | rfl
      ·exact g2 z l k t a
      ·rw [lh] at a;split at a
       ·obtain rfl:=Option.some.inj a;exact (f.qh q _ (List.getElem_mem _)).bare
       ·exact g2 _ (List.getElem_mem _) k t a
     ·rw [if_neg (by omega)];exact n B g1 g2 g3
   exact L (d.Params.length+1) 0 _ (by omega) (by omega) rfl (fun m hm k t a=>by rw [List.mem_singleton.1 hm] at a;cases a) (fun ⟨m,hm,j⟩=>absurd (List.mem_singleton.1 hm) j)
end Go.Y
namespace Go.Y
open Go.pc Go.nd
abbrev Nm:=List UInt8
def Vi:Nat→hb→List Nm
 | 0,_=>[]
 | k+1,x=>(if x.Kind=19∨x.Kind=22 then [x.Name] else [])++(x.Kids.map (Vi k)).flatten
def gk:Nat→hb→List Nm
 | 0,_=>[]
 | k+1,x=>(if x.Kind=20 then [x.Name] else [])++(x.Kids.map (gk k)).flatten
def Jh:Nat→cb→List Nm
 | 0,_=>[]
 | k+1,s=>(if s.Kind=6 then [] else Vi k s.X)++(if s.Kind=3∨s.Kind=4 then (s.Body.map (Jh k)).flatten else [])++(if s.Kind=3 then (s.Qd.map (Jh k)).flatten else [])
def si:Nat→cb→List Nm
 | 0,_=>[]
 | k+1,s=>(if s.Kind=6 then [] else gk k s.X)++(if s.Kind=3∨s.Kind=4 then (s.Body.map (si k)).flatten else [])++(if s.Kind=3 then (s.Qd.map (si k)).flatten else [])
def ti:Nat→cb→List Nm
 | 0,_=>[]
 | k+1,s=>(if s.Kind=7 then [s.Name] else [])++(if s.Kind=3∨s.Kind=4 then (s.Body.map (ti k)).flatten else [])++(if s.Kind=3 then (s.Qd.map (ti k)).flatten else [])
theorem Ik {α β:Type}(f:α→List β) (g:α→Nat) (h:∀ x,(f x).length≤g x):∀ l:List α,(l.map f).flatten.length≤(l.map g).sum
 | []=>by simp
 | x::l=>by
  have:=Ik f g h l;have:=h x;simp only [List.map_cons,List.flatten_cons,List.length_append,List.sum_cons];omega
theorem Ow {α:Type}(g:α→Nat):∀ (l:List α) (x:α),x ∈ l→g x≤(l.map g).sum
 | y::l,x,h=>by
  rw [List.map_cons,List.sum_cons];rcases List.mem_cons.1 h with rfl | h
  ·omega
  ·have:=Ow g l x h;omega
theorem Ww:∀ (k:Nat) (x:hb),(Vi k x).length≤Ig k x
 | 0,x=>by simp [Vi]
 | k+1,x=>by
  have:=Ik (Vi k) (Ig k) (Ww k) x.Kids;rw [Vi,Ig,List.length_append];split<;>simp only [List.length_cons,List.length_nil]<;>omega
theorem Xw:∀ (k:Nat) (x:hb),(gk k x).length≤Ig k x
 | 0,x=>by simp [gk]
 | k+1,x=>by
  have:=Ik (gk k) (Ig k) (Xw k) x.Kids;rw [gk,Ig,List.length_append];split<;>simp only [List.length_cons,List.length_nil]<;>omega
theorem av:∀ (k:Nat) (x:cb),(Jh k x).length≤re k x
 | 0,x=>by simp [Jh]
 | k+1,x=>by
  have:=Ik (Jh k) (re k) (av k) x.Body;have:=Ik (Jh k) (re k) (av k) x.Qd;have:=Ww k x.X;rw [Jh,re,List.length_append,List.length_append];split<;>split<;>split<;>(try simp only [List.length_nil])<;>omega
theorem cv:∀ (k:Nat) (x:cb),(si k x).length≤re k x
 | 0,x=>by simp [si]
 | k+1,x=>by
  have:=Ik (si k) (re k) (cv k) x.Body;have:=Ik (si k) (re k) (cv k) x.Qd;have:=Xw k x.X;rw [si,re,List.length_append,List.length_append];split<;>split<;>split<;>(try simp only [List.length_nil])<;>omega
theorem dv:∀ (k:Nat) (x:cb),(ti k x).length≤re k x
 | 0,x=>by simp [ti]
 | k+1,x=>by
  have:=Ik (ti k) (re k) (dv k) x.Body;have:=Ik (ti k) (re k) (dv k) x.Qd;rw [ti,re,List.length_append,List.length_append];by_cases a:x.Kind=7
  ·rw [if_pos a,if_neg (by omega),if_neg (by omega),if_neg (by omega),if_neg (by omega),if_neg (by omega)];simp
  ·rw [if_neg a];split<;>split<;>split<;>(try simp only [List.length_nil])<;>omega
theorem Gf {α:Type}{l xs:List α}(h:l.length+xs.length≤4294967296):app l xs=some (l++xs):=if_pos h
theorem hE:∀ (n k:Nat) (x:hb) (c s r:List Nm),k≤n→jh k x→c.length+Ig k x≤1000000→r.length+Ig k x≤1000000→(iq n).Cl c s r x=some (c++Vi k x,s,r++gk k x):=by
 intro n
 induction n with
 | zero =>
  intro k x c s r e a;obtain rfl:k=0:=by omega
  cases a
 | succ n l =>
  intro k x c s r e a o p;cases k with
  | zero=>cases a
  | succ k =>
  obtain ⟨Qb,w,t,u⟩:=a;show Cl (iq n) c s r x=_;have L:∀ (m i:Nat) (c r:List Nm),i≤x.Kids.length→x.Kids.length<m+i→c.length+((x.Kids.drop i).map (Ig k)).sum≤1000000→r.length+((x.Kids.drop i).map (Ig k)).sum≤1000000 →
    Xr (iq n) x m i c s r=some (c++((x.Kids.drop i).map (Vi k)).flatten,s,r++((x.Kids.drop i).map (gk k)).flatten):=by
   intro m
   induction m with
   | zero=>intro i c r e a; omega
   | succ m v =>
    intro i c r g1 g2 g3 g4;rw [Xr];have za:=t.le;by_cases q:i<x.Kids.length
    ·rw [List.drop_eq_getElem_cons q,List.map_cons,List.sum_cons] at g3 g4;have Aa:=Ww k x.Kids[i];have y:=Xw k x.Kids[i];rw [if_pos (by omega),od,List.getElem?_eq_getElem q,da,l k x.Kids[i] c s r (by omega) (u _ (List.getElem_mem _)) (by omega) (by omega),da,Ib (by omega),da];refine (v (i+1) _ _ q (by omega) (by simp only [List.length_append];omega) (by simp only [List.length_append];omega)).trans ?_;rw [List.drop_eq_getElem_cons q];simp only [List.map_cons,List.flatten_cons,List.append_assoc]
    ·rw [if_neg (by omega),List.drop_eq_nil_of_le (by omega)];simp
  have d:∀ c r:List Nm,c.length+(x.Kids.map (Ig k)).sum≤1000000→r.length+(x.Kids.map (Ig k)).sum≤1000000→Hq (iq n) x s c r=some (c++(x.Kids.map (Vi k)).flatten,s,r++(x.Kids.map (gk k)).flatten):=by
   intro c r g1 g2;have:=L (x.Kids.length+1) 0 c r (by omega) (by omega) (by simpa using g1) (by simpa using g2);simpa [Hq] using this
  rw [Ig] at o p;have f:∀ b,(b=true ↔ x.Kind=19∨x.Kind=22)→Yr (iq n) c x s r b=some (c++Vi (k+1) x,s,r++gk (k+1) x):=by
   intro b g;rw [Yr,Vi,gk];by_cases q:b=true
   ·have:=g.1 q;rw [if_pos q,Gf (by simp;omega),da,Hv,d _ _ (by simp;omega) (by omega),if_pos this,if_neg (by omega)];simp
   ·rw [if_neg q];have j:¬ (x.Kind=19∨x.Kind=22):=fun h=>q (g.2 h);by_cases c20:x.Kind=20
    ·rw [if_pos c20,Gf (by simp;omega),da,Iv,d _ _ (by omega) (by simp;omega),if_neg j,if_pos c20];simp
    ·rw [if_neg c20,d _ _ (by omega) (by omega),if_neg j,if_neg c20];simp
  rw [Cl];split
  ·rename_i h;exact f _ (by simp [h])
  ·rename_i h;exact f _ (by simp [h])
theorem JD:∀ (n k:Nat) (l:List cb) (c s r:List Nm),k+1≤n→l.length≤50→(∀ y ∈ l,mj k y)→c.length+(l.map (re k)).sum≤1000000→s.length+(l.map (re k)).sum≤1000000→r.length+(l.map (re k)).sum≤1000000 →
  (Ek n).pk c s r l=some (c++(l.map (Jh k)).flatten,s++(l.map (ti k)).flatten,r++(l.map (si k)).flatten):=by
 intro n
 induction n with
 | zero=>intro k l c s r p; omega
 | succ n t =>
  intro k l c s r p za C g D E;show pk n (Ek n) c s r l=_;have L:∀ (m i:Nat) (c s r:List Nm),i≤l.length→l.length<m+i→c.length+((l.drop i).map (re k)).sum≤1000000→s.length+((l.drop i).map (re k)).sum≤1000000→r.length+((l.drop i).map (re k)).sum≤1000000 →
    ik n (Ek n) l m i c s r=some (c++((l.drop i).map (Jh k)).flatten,s++((l.drop i).map (ti k)).flatten,r++((l.drop i).map (si k)).flatten):=by
   intro m
   induction m with
   | zero=>intro i c s r p M; omega
   | succ m F =>
    intro i c s r g1 g2 g3 g4 g5;rw [ik];by_cases q:i<l.length
    ·rw [List.drop_eq_getElem_cons q,List.map_cons,List.sum_cons] at g3 g4 g5;rw [if_pos (by omega),od,List.getElem?_eq_getElem q,da];have u:=C _ (List.getElem_mem q);have Aa:=av k l[i];have G:=dv k l[i];have wb:=cv k l[i];have xb:=fun Fc a r' (ma:Fc=c++Jh k l[i]) (d:a=s++ti k l[i]) (e:r'=r++si k l[i]) =>
      (F (i+1) Fc a r' q (by omega) (by rw [ma,List.length_append];omega) (by rw [d,List.length_append];omega) (by rw [e,List.length_append];omega)).trans
       (show _=some (c++((l.drop i).map (Jh k)).flatten,s++((l.drop i).map (ti k)).flatten,r++((l.drop i).map (si k)).flatten) by
        rw [List.drop_eq_getElem_cons q,ma,d,e];simp only [List.map_cons,List.flatten_cons,List.append_assoc])
     generalize l[i]=y at *;cases k with
     | zero=>cases u
     | succ k =>
     obtain ⟨Qb,N,H,v,w⟩:=u;rw [re] at g3 g4 g5;rw [Jh] at Aa xb;rw [ti] at G xb;rw [si] at wb xb;have x:∀ Fc a r',(y.Kind=3→Fc.length+(y.Qd.map (re k)).sum≤1000000∧a.length+(y.Qd.map (re k)).sum≤1000000∧r'.length+(y.Qd.map (re k)).sum≤1000000) →
       Fc=c++((if y.Kind=6 then [] else Vi k y.X)++(if y.Kind=3∨y.Kind=4 then (y.Body.map (Jh k)).flatten else []))→a=s++((if y.Kind=7 then [y.Name] else [])++(if y.Kind=3∨y.Kind=4 then (y.Body.map (ti k)).flatten else [])) →
       r'=r++((if y.Kind=6 then [] else gk k y.X)++(if y.Kind=3∨y.Kind=4 then (y.Body.map (si k)).flatten else [])) →
       Sr (Ek n) i y (ik n (Ek n) l m) Fc a r'=some (c++((l.drop i).map (Jh (k+1))).flatten,s++((l.drop i).map (ti (k+1))).flatten,r++((l.drop i).map (si (k+1))).flatten):=by
      intro Fc a r' j ma d e;rw [Sr];by_cases c3:y.Kind=3
      ·obtain ⟨K,z2,z3⟩:=j c3;rw [if_pos c3,t k y.Qd Fc a r' (by omega) (w c3).1 (w c3).2 K z2 z3,da,Ib (by omega),da];refine xb _ _ _ ?_ ?_ ?_
       ·rw [ma];simp only [if_pos c3,List.append_assoc]
       ·rw [d];simp only [if_pos c3,List.append_assoc]
       ·rw [e];simp only [if_pos c3,List.append_assoc]
      ·rw [if_neg c3,Ib (by omega),da];refine xb _ _ _ ?_ ?_ ?_
       ·rw [ma];simp only [if_neg c3,List.append_nil]
       ·rw [d];simp only [if_neg c3,List.append_nil]
       ·rw [e];simp only [if_neg c3,List.append_nil]
     have z:∀ Fc a r' b,(b=true ↔ y.Kind=3∨y.Kind=4)→Fc=c++(if y.Kind=6 then [] else Vi k y.X)→a=s++(if y.Kind=7 then [y.Name] else [])→r'=r++(if y.Kind=6 then [] else gk k y.X) →
       Tr (Ek n) i y Fc a r' (ik n (Ek n) l m) b=some (c++((l.drop i).map (Jh (k+1))).flatten,s++((l.drop i).map (ti (k+1))).flatten,r++((l.drop i).map (si (k+1))).flatten):=by
      intro Fc a r' b j ma d e;rw [Tr];have O:=Ww k y.X;have P:=Xw k y.X;have Q:=Ik (Jh k) (re k) (av k) y.Body;have R:=Ik (ti k) (re k) (dv k) y.Body;have S:=Ik (si k) (re k) (cv k) y.Body;by_cases q:b=true
      ·have f:=j.1 q;rw [if_neg (show y.Kind≠6 by omega),if_pos f] at g3 g4 g5;rw [if_neg (show y.Kind≠6 by omega)] at ma e;rw [if_neg (show y.Kind≠7 by omega)] at d;have T:Fc.length=c.length+(Vi k y.X).length:=by rw [ma,List.length_append]
       have V:a.length=s.length:=by rw [d];simp
       have W:r'.length=r.length+(gk k y.X).length:=by rw [e,List.length_append]
       rw [if_pos q,t k y.Body Fc a r' (by omega) (v f).1 (v f).2 (by omega) (by omega) (by omega),da];refine x _ _ _ (fun g=>?_) ?_ ?_ ?_
       ·rw [if_pos g] at g3 g4 g5;simp only [List.length_append];omega
       ·rw [ma,if_neg (show y.Kind≠6 by omega),if_pos f,List.append_assoc]
       ·rw [d,if_neg (show y.Kind≠7 by omega),if_pos f,List.append_assoc]
       ·rw [e,if_neg (show y.Kind≠6 by omega),if_pos f,List.append_assoc]
      ·have o:¬ (y.Kind=3∨y.Kind=4):=fun h=>q (j.2 h);rw [if_neg q];refine x _ _ _ (fun g=>absurd (.inl g) o) ?_ ?_ ?_
       ·rw [ma,if_neg o,List.append_nil]
       ·rw [d,if_neg o,List.append_nil]
       ·rw [e,if_neg o,List.append_nil]
     have A:∀ a,a=s++(if y.Kind=7 then [y.Name] else [])→Vr n (Ek n) i c r y (ik n (Ek n) l m) a=some (c++((l.drop i).map (Jh (k+1))).flatten,s++((l.drop i).map (ti (k+1))).flatten,r++((l.drop i).map (si (k+1))).flatten):=by
      intro a d;have B:∀ Fc r',Fc=c++(if y.Kind=6 then [] else Vi k y.X)→r'=r++(if y.Kind=6 then [] else gk k y.X)→Ur (Ek n) i y (ik n (Ek n) l m) Fc a r'=some (c++((l.drop i).map (Jh (k+1))).flatten,s++((l.drop i).map (ti (k+1))).flatten,r++((l.drop i).map (si (k+1))).flatten):=by
       intro Fc r' ma e;rw [Ur];split
       ·rename_i h;exact z _ _ _ _ (by simp [h]) ma d e
       ·rename_i h;exact z _ _ _ _ (by simp [h]) ma d e
      rw [Vr];by_cases Sd:y.Kind=6
      ·rw [if_neg (by simpa using Sd)];exact B _ _ (by rw [if_pos Sd,List.append_nil]) (by rw [if_pos Sd,List.append_nil])
      ·rw [if_neg Sd] at g3 g4 g5;rw [if_pos Sd,hE n k y.X c a r (by omega) (H Sd) (by omega) (by omega),da];exact B _ _ (by rw [if_neg Sd]) (by rw [if_neg Sd])
     by_cases Tf:y.Kind=7
     ·rw [if_pos Tf,Gf (by simp;omega),da,zv];exact A _ (by rw [if_pos Tf])
     ·rw [if_neg Tf];exact A _ (by rw [if_neg Tf,List.append_nil])
    ·rw [if_neg (by omega),List.drop_eq_nil_of_le (by omega)];simp
  rw [pk];have:=L (l.length+1) 0 c s r (by omega) (by omega) (by simpa using g) (by simpa using D) (by simpa using E);simpa using this
end Go.Y
namespace Go.Y
open Go.pc Go.nd
theorem Vj {α β:Type}{f:α→List β}{l:List α}{b:β}(h:b ∈ (l.map f).flatten):∃ a ∈ l,b ∈ f a:=by
 obtain ⟨q,c,d⟩:=List.mem_flatten.1 h;obtain ⟨a,e,rfl⟩:=List.mem_map.1 c;exact ⟨a,e,d⟩
theorem Hl {β:Type}{c:Prop}[Decidable c]{l m:List β}{b:β}(h:b ∈ (if c then l else m)):(c∧b ∈ l)∨(¬ c∧b ∈ m):=by
 by_cases q:c
 ·rw [if_pos q] at h;exact .inl ⟨q,h⟩
 ·rw [if_neg q] at h;exact .inr ⟨q,h⟩
theorem WB {p:Pb}:∀ (k:Nat) (x:hb),Calls p k x→∀ c ∈ Vi k x,∃ d,yb p.named c=some d∧(d.Kind=2∨d.Kind=3)
 | 0,x,h=>by cases h
 | k+1,x,h=>by
  obtain ⟨f,g,m,i⟩:=h;intro c b;rw [Vi] at b;rcases List.mem_append.1 b with b | b
  ·rcases Hl b with ⟨q,b⟩ | ⟨q,b⟩
   ·rw [List.mem_singleton.1 b];rcases q with q | q
    ·obtain ⟨d,ma,e⟩:=f q;exact ⟨d,ma,.inl e⟩
    ·obtain ⟨d,ma,e⟩:=g q;exact ⟨d,ma,.inr e⟩
   ·cases b
  ·obtain ⟨a,j,l⟩:=Vj b;exact WB k a (i a j) c l
theorem Lu {p:Pb}:∀ (k:Nat) (x:cb),tk p k x→∀ c ∈ Jh k x,∃ d,yb p.named c=some d∧(d.Kind=2∨d.Kind=3)
 | 0,x,h=>by cases h
 | k+1,x,h=>by
  obtain ⟨g,i,j,l⟩:=h;intro c b;rw [Jh] at b;rcases List.mem_append.1 b with b | b
  ·rcases List.mem_append.1 b with b | b
   ·rcases Hl b with ⟨q,b⟩ | ⟨q,b⟩
    ·cases b
    ·exact WB k _ (g q) c b
   ·rcases Hl b with ⟨q,b⟩ | ⟨q,b⟩
    ·obtain ⟨a,e,f⟩:=Vj b;exact Lu k a (i q a e) c f
    ·cases b
  ·rcases Hl b with ⟨q,b⟩ | ⟨q,b⟩
   ·obtain ⟨a,e,f⟩:=Vj b;exact Lu k a (j q a e) c f
   ·cases b
def Gm (d:na):List Nm:=(d.Body.map (Jh 39)).flatten
def Zl (d:na):List Nm:=(d.Body.map (ti 39)).flatten
def bm (d:na):List Nm:=(d.Body.map (si 39)).flatten
def xj (N:List (Nm×na)):List Nm→List Nm→List (Option na)→List Nm×List (Option na)
 | [],a,todo=>(a,todo)
 | c::cs,a,todo=>if a.contains c=true then xj N cs a todo else xj N cs (a++[c]) (todo++[yb N c])
def ml (N:List (Nm×na)):Nat→List Nm→List (Option na)→List Nm→List Nm→Option uf
 | 0,_,_,_,_=>none
 | n+1,a,[],s,r=>some ⟨[],s,r⟩
 | n+1,a,none::t,s,r=>none
 | n+1,a,some d::t,s,r=>ml N n (xj N (Gm d) a t).1 (xj N (Gm d) a t).2 (s++Zl d) (r++bm d)
def tn (l:List na) (a:List Nm):Nat:=(l.filter fun d=>!a.contains d.Name).length
theorem filter_le {α:Type}(P Q:α→Bool) (h:∀ x,Q x=true→P x=true):∀ l:List α,(l.filter Q).length≤(l.filter P).length
 | []=>by simp
 | x::l=>by
  have a:=filter_le P Q h l;rw [List.filter_cons,List.filter_cons];by_cases q:Q x=true
  ·rw [if_pos q,if_pos (h x q),List.length_cons,List.length_cons];omega
  ·rw [if_neg q];split
   ·rw [List.length_cons];omega
   ·exact a
theorem filter_lt {α:Type}(P Q:α→Bool) (h:∀ x,Q x=true→P x=true):∀ (l:List α) (x:α),x ∈ l→P x=true→Q x=false→(l.filter Q).length<(l.filter P).length
 | y::l,x,a,b,c=>by
  have le:=filter_le P Q h l;rw [List.filter_cons,List.filter_cons];rcases List.mem_cons.1 a with rfl | a
  ·rw [if_pos b,if_neg (by simp [c]),List.length_cons];omega
  ·have d:=filter_lt P Q h l x a b c;by_cases q:Q y=true
   ·rw [if_pos q,if_pos (h y q),List.length_cons,List.length_cons];omega
   ·rw [if_neg q];split
    ·rw [List.length_cons];omega
    ·exact d
theorem By (l:List na) (a:List Nm) (d:na) (Ba:d ∈ l) (h:a.contains d.Name=false):tn l (a++[d.Name])<tn l a:=by
 refine filter_lt _ _ (fun x b=>?_) l d Ba (by simpa using h) (by simp);simp only [Bool.not_eq_true',List.contains_eq_mem,List.mem_append,decide_eq_false_iff_not] at b ⊢;exact fun h=>b (.inl h)
structure mv (p:Pb) (l:List na) (a:List Nm) (todo:List (Option na)) (q:Nat):Prop where
 za:a.length+tn l a≤30
 zz:∀ o ∈ todo,∃ d ∈ l,o=some d∧d.Kind≠1
 q:tn l a+todo.length≤q
theorem Ew {p:Pb}{l:List na}(R:ki p l):∀ (cs:List Nm) (a:List Nm) (todo:List (Option na)) (q:Nat),(∀ c ∈ cs,∃ d,yb p.named c=some d∧(d.Kind=2∨d.Kind=3))→mv p l a todo q→mv p l (xj p.named cs a todo).1 (xj p.named cs a todo).2 q
 | [],a,todo,q,h,T=>T
 | c::cs,a,todo,q,h,T=>by
  rw [xj];have e:∀ c ∈ cs,∃ d,yb p.named c=some d∧(d.Kind=2∨d.Kind=3):=fun c f=>h c (List.mem_cons_of_mem _ f);by_cases k:a.contains c=true
  ·rw [if_pos k];exact Ew R cs a todo q e T
  ·rw [if_neg k];obtain ⟨d,ma,i⟩:=h c (List.mem_cons_self ..);obtain ⟨m1,m2⟩:=R.only _ _ ma;have g:=By l a d m1 (by rw [m2];simpa using k);rw [m2] at g;refine Ew R cs _ _ q e ⟨?_,fun o b=>?_,?_⟩
   ·rw [List.length_append,List.length_singleton];have:=T.za;omega
   ·rcases List.mem_append.1 b with b | b
    ·exact T.zz o b
    ·rw [List.mem_singleton.1 b];exact ⟨d,m1,ma,by omega⟩
   ·rw [List.length_append,List.length_singleton];have:=T.q;omega
theorem HE {p:Pb}{l:List na}(R:ki p l) (u:List Nm×List Nm×List Nm) (s r:List Nm) (K:List Nm→List (Option na)→List Nm→List Nm→Option uf) (hu:∀ c ∈ u.1,∃ d,yb p.named c=some d∧(d.Kind=2∨d.Kind=3)) (za:u.1.length≤1000000) :
  ∀ (m i:Nat) (a:List Nm) (todo:List (Option na)) (q:Nat),i≤u.1.length→u.1.length<m+i→q≤1000→mv p l a todo q →
   Cq p u s r K m i a todo=K (xj p.named (u.1.drop i) a todo).1 (xj p.named (u.1.drop i) a todo).2 s r:=by
 intro m
 induction m with
 | zero=>intro i a todo q g h; omega
 | succ m b =>
  intro i a todo q g h e T;rw [Cq];by_cases c:i<u.1.length
  ·rw [if_pos (by omega),od,List.getElem?_eq_getElem c,da,List.drop_eq_getElem_cons c,xj];have j:=hu _ (List.getElem_mem c);by_cases k:a.contains u.1[i]=true
   ·rw [if_pos k,if_pos k,Ib (by omega),da];exact b (i+1) a todo q c (by omega) e T
   ·have o:=T.za;have t:=T.q;have f:=Ew R [u.1[i]] a todo q (fun c n=>by rw [List.mem_singleton.1 n];exact j) T;rw [xj,if_neg k,xj] at f;rw [if_neg k,if_neg k,Gf (by simp;omega),da,Gf (by simp;omega),da,Ib (by omega),da];exact b (i+1) _ _ q c (by omega) e f
  ·rw [if_neg (by omega),List.drop_eq_nil_of_le (by omega)];rfl
theorem lF {p:Pb}{l:List na}(R:ki p l) (fu:Nat) (c:500≤fu) (d:na) (Ba:d ∈ l) (a:d.Kind≠1):(Ek fu).pk [] [] [] d.Body=some (Gm d,Zl d,bm d)∧(Gm d).length≤2000∧(Zl d).length≤2000∧(bm d).length≤2000:=by
 have ok:=R.ok.ok d Ba;have b:Xl d≤2000:=Nat.le_trans (Ow Xl l d Ba) R.ok.n;rw [Xl,if_pos a] at b;have:=JD fu 39 d.Body [] [] [] (by omega) (ok.Nd a) (ok.fk a) (by simp;omega) (by simp;omega) (by simp;omega);have Da:=Ik (Jh 39) (re 39) (av 39) d.Body;have a2:=Ik (ti 39) (re 39) (dv 39) d.Body;have a3:=Ik (si 39) (re 39) (cv 39) d.Body;exact ⟨by rw [this];rfl,by rw [Gm];omega,by rw [Zl];omega,by rw [bm];omega⟩
theorem IE {p:Pb}{l:List na}(R:ki p l) (fu:Nat) (h:500≤fu):∀ (n q:Nat) (b:List Nm) (todo:List (Option na)) (s r:List Nm),q<n→q≤1000→mv p l b todo q→s.length+2000*q≤1000000000→r.length+2000*q≤1000000000 →
  Kp fu p n b todo s r=ml p.named n b todo s r∧(∃ u,ml p.named n b todo s r=some u∧u.calls=[]):=by
 intro n
 induction n with
 | zero=>intro q b todo s r i; omega
 | succ n j =>
  intro q b todo s r i A T Aa B;rw [Kp];cases todo with
  | nil=>exact ⟨by rw [if_neg (by simp)]; rfl,_,rfl,rfl⟩
  | cons o t =>
   obtain ⟨d,Ba,rfl,Qb⟩:=T.zz o (List.mem_cons_self ..);obtain ⟨je,td,C,D⟩:=lF R fu h d Ba Qb;have k:=T.q;have m:=T.za;rw [List.length_cons] at k;have ma:at_ (some d::t) 0=some (some d):=rfl;have v:cut (some d::t) 1 ((some d::t).length:Int)=some t:=by
    rw [cut,if_pos (by simp;omega)];simp
   have e:∀ c ∈ Gm d,∃ f,yb p.named c=some f∧(f.Kind=2∨f.Kind=3):=fun c e=>by
    obtain ⟨a,w,x⟩:=Vj e;exact Lu 39 a (R.cs d Ba Qb a w) c x
   have g:mv p l b t (q - 1):=⟨m,fun o y=>T.zz o (List.mem_cons_of_mem _ y),by omega⟩;have z:=Ew R (Gm d) b t (q - 1) e g;rw [if_pos (by simp),ma,da,v,da,da,je,da,Gf (by simp only [];omega),da,Gf (by simp only [];omega),da,Av];rw [show ((0:Int))=((0:Nat):Int) from rfl,HE R (Gm d,Zl d,bm d) _ _ _ e (by simp only [];omega) _ 0 b t (q - 1) (by omega) (by simp only [];omega) (by omega) g,List.drop_zero];rw [ml];exact j (q - 1) _ _ (s++Zl d) (r++bm d) (by omega) (by omega) z (by rw [List.length_append];omega) (by rw [List.length_append];omega)
theorem XB {p:Pb}{l:List na}(R:ki p l) (fu:Nat) (a:500≤fu) (d:na) (Ba:d ∈ l) (b:d.Kind≠1):Tv fu p d=ml p.named fu [] [some d] [] []∧(∃ u,ml p.named fu [] [some d] [] []=some u∧u.calls=[]):=by
 have c:tn l []≤30:=Nat.le_trans (List.length_filter_le _ _) R.ok.le;exact IE R fu a fu 31 [] [some d] [] [] (by omega) (by omega) ⟨by simpa using c,fun o e=>by rw [List.mem_singleton.1 e];exact ⟨d,Ba,rfl,b⟩,by simp;omega⟩ (by simp) (by simp)
def Em:uf:=⟨[],[],[]⟩
def Pl (L:List (Nm×uf)) (b:Nm):List na→Nm→Nm→Option (Nm×Nm)
 | [],w,r=>some (w,r)
 | t::a,w,r=>if t.Kind≠4 then Pl L b a w r else
   if ((yb L t.Name).getD Em).Hj.contains b=true∧w≠[] then none else
   if ((yb L t.Name).getD Em).hj.contains b=true∧r≠[] then none else
   Pl L b a (if ((yb L t.Name).getD Em).Hj.contains b=true then t.Name else w) (if ((yb L t.Name).getD Em).hj.contains b=true then t.Name else r)
def Ql (L:List (Nm×uf)) (l:List na):List na→Int→List pe→List pe×Oc
 | [],i,acc=>(acc,⟨0,0⟩)
 | x::xs,i,acc=>if x.Kind≠1 then Ql L l xs (i+1) acc else
   match Pl L x.Name l [] [] with
   | none=>([],⟨8,i⟩)
   | some (w,r)=>Ql L l xs (i+1) (acc++[⟨x.Name,w,r⟩])
def Cm (N:List (Nm×na)) (fu:Nat):List na→List (Nm×uf)→List (Nm×uf)
 | [],L=>L
 | d::ds,L=>if d.Kind=4 then Cm N fu ds (Ue L d.Name ((ml N fu [] [some d] [] []).getD Em)) else Cm N fu ds L
theorem JF (l:List na) (za:l.length≤30) (L:List (Nm×uf)) (i:Int) (acc:List pe) (x:na) (K:Int→List pe→Option (List pe×Oc)) (f:0≤i∧i≤1000) (g:acc.length≤1000) :
  ∀ (m j:Nat) (w r:Nm),j≤l.length→l.length<m+j→Im l L i acc x K m j w r=match Pl L x.Name (l.drop j) w r with | none=>some ([],⟨8,i⟩) | some (w',r')=>K (i+1) (acc++[⟨x.Name,w',r'⟩]):=by
 intro m
 induction m with
 | zero=>intro j w r b d; omega
 | succ m e =>
  intro j w r b d;rw [Im];by_cases c:j<l.length
  ·rw [if_pos (by omega),od,List.getElem?_eq_getElem c,da,List.drop_eq_getElem_cons c,Pl];have bb:(uf.mk [] [] [])=Em:=rfl;have xb:=fun w r=>e (j+1) w r c (by omega);generalize l[j]=t at *;by_cases De:t.Kind≠4
   ·rw [if_pos De,if_pos De,Ib (by omega),da];exact xb w r
   ·rw [if_neg De,if_neg De,bb];have a:∀ w',Lr L i x j r t (Im l L i acc x K m) w'=if ((yb L t.Name).getD Em).hj.contains x.Name=true∧r≠[] then some ([],⟨8,i⟩) else
      match Pl L x.Name (l.drop (j+1)) w' (if ((yb L t.Name).getD Em).hj.contains x.Name=true then t.Name else r) with | none=>some ([],⟨8,i⟩) | some (w',r')=>K (i+1) (acc++[⟨x.Name,w',r'⟩]):=by
     intro w';rw [Lr,bb];by_cases q:((yb L t.Name).getD Em).hj.contains x.Name=true
     ·rw [if_pos q];by_cases z:r≠[]
      ·rw [if_pos z,if_pos ⟨q,z⟩]
      ·rw [if_neg z,if_neg (fun h=>z h.2),if_pos q,Kr,Ib (by omega),da];exact xb _ _
     ·rw [if_neg q,if_neg (fun h=>q h.1),if_neg q,Kr,Ib (by omega),da];exact xb _ _
    by_cases q:((yb L t.Name).getD Em).Hj.contains x.Name=true
    ·rw [if_pos q];by_cases z:w≠[]
     ·rw [if_pos z,if_pos ⟨q,z⟩]
     ·rw [if_neg z,if_neg (fun h=>z h.2),if_pos q,a];split<;>rfl
    ·rw [if_neg q,if_neg (fun h=>q h.1),if_neg q,a];split<;>rfl
  ·rw [if_neg (by omega),List.drop_eq_nil_of_le (by omega),Gf (by simp;omega),da,Ib (by omega),da];rfl
theorem KF (l:List na) (za:l.length≤30) (L:List (Nm×uf)):∀ (m i:Nat) (acc:List pe),i≤l.length→l.length<m+i→acc.length≤i→Jn l L m i acc=some (Ql L l (l.drop i) i acc):=by
 intro m
 induction m with
 | zero=>intro i acc b d; omega
 | succ m a =>
  intro i acc b d e;rw [Jn];by_cases c:i<l.length
  ·rw [if_pos (by omega),od,List.getElem?_eq_getElem c,da,List.drop_eq_getElem_cons c,Ql];by_cases Qb:l[i].Kind≠1
   ·rw [if_pos Qb,if_pos Qb,Ib (by omega),da];exact a (i+1) acc c (by omega) (by omega)
   ·rw [if_neg Qb,if_neg Qb,show ((0:Int))=((0:Nat):Int) from rfl,JF l za L i acc l[i] _ (by omega) (by omega) _ 0 [] [] (by omega) (by omega),List.drop_zero];cases h:Pl L l[i].Name l [] [] with
    | none=>rfl
    | some v=>exact a (i+1) _ c (by omega) (by simp; omega)
  ·rw [if_neg (by omega),List.drop_eq_nil_of_le (by omega)];rfl
theorem LF {p:Pb}{l:List na}(R:ki p l) (fu:Nat) (b:500≤fu) (f:Oc):∀ (m i:Nat) (L:List (Nm×uf)),i≤l.length→l.length<m+i→Jp fu l (p,f) m i L=some (Ql (Cm p.named fu (l.drop i) L) l l 0 []):=by
 have za:=R.ok.le;intro m
 induction m with
 | zero=>intro i L d e; omega
 | succ m a =>
  intro i L d e;rw [Jp];by_cases c:i<l.length
  ·have bb:at_ l (i:Int)=some l[i]:=by rw [od,List.getElem?_eq_getElem c]
   rw [if_pos (by omega),bb,da,List.drop_eq_getElem_cons c,Cm];by_cases De:l[i].Kind=4
   ·obtain ⟨g,u,h,-⟩:=XB R fu b l[i] (List.getElem_mem _) (by omega);rw [if_pos De,if_pos De];simp only [da];rw [g,h,da,xv,Ib (by omega),da];exact a (i+1) _ c (by omega)
   ·rw [if_neg De,if_neg De,Ib (by omega),da];exact a (i+1) L c (by omega)
  ·rw [if_neg (by omega),List.drop_eq_nil_of_le (by omega)];exact KF l za L (l.length+1) 0 [] (by omega) (by omega) (by simp)
theorem Fx (fu:Nat) (a:500≤fu) (l:List na):∃ p f,Um fu l=some (p,f)∧((f.gg≠0∧Xo fu l=some ([],f))∨(f.gg=0∧ki p l∧Xo fu l=some (Ql (Cm p.named fu l []) l l 0 []))):=by
 obtain ⟨p,f,b,c⟩:=Mz fu a l;refine ⟨p,f,b,?_⟩;rw [Xo,b,da];by_cases z:f.gg=0
 ·rw [if_neg (by simpa using z)];exact .inr ⟨z,c z,LF (c z) fu a f (l.length+1) 0 [] (by omega) (by omega)⟩
 ·rw [if_pos z];exact .inl ⟨z,rfl⟩
end Go.Y
namespace Go.Y
def Io:Nat→hb→Prop
 | 0,_=>False
 | k+1,x=>x.Kids.length≤2513169434916∧∀ y ∈ x.Kids,Io k y
def Nk:Nat→cb→Prop
 | 0,_=>False
 | k+1,s=>Io k s.X∧(s.Body.length≤1099511627776∧∀ y ∈ s.Body,Nk k y)∧(s.Qd.length≤1099511627776∧∀ y ∈ s.Qd,Nk k y)
def rz (k:Nat) (d:na):Prop:=d.Params.length≤3518437208883∧d.Body.length≤1099511627776∧∀ y ∈ d.Body,Nk k y
def Jo (k:Nat) (l:List na):Prop:=l.length≤1099511627776∧∀ d ∈ l,rz k d
theorem Io.up:∀ {k m:Nat}{x:hb},Io k x→k≤m→Io m x
 | 0,m,x,h,a=>by cases h
 | k+1,0,x,h,a=>by omega
 | k+1,m+1,x,h,a=>⟨h.1,fun y b=>(h.2 y b).up (by omega)⟩
theorem Nk.up:∀ {k m:Nat}{x:cb},Nk k x→k≤m→Nk m x
 | 0,m,x,h,b=>by cases h
 | k+1,0,x,h,b=>by omega
 | k+1,m+1,x,h,b=>⟨h.1.up (by omega),⟨h.2.1.1,fun y a=>(h.2.1.2 y a).up (by omega)⟩,⟨h.2.2.1,fun y a=>(h.2.2.2 y a).up (by omega)⟩⟩
end Go.Y
namespace Go.Y
open Go.pc Go.nd
def Er (l:List na) (w:Nm):Prop:=w=[]∨∃ t ∈ l,t.Kind=4∧t.Name=w
theorem py (L:List (Nm×uf)) (b:Nm) (l:List na):∀ (a:List na) (w r w' r':Nm),(∀ t ∈ a,t ∈ l)→Er l w→Er l r→Pl L b a w r=some (w',r')→Er l w'∧Er l r'
 | [],w,r,w',r',h,c,d,e=>by
  cases e;exact ⟨c,d⟩
 | t::a,w,r,w',r',h,c,d,e=>by
  have f:∀ t ∈ a,t ∈ l:=fun y i=>h y (List.mem_cons_of_mem _ i);rw [Pl] at e;by_cases k:t.Kind≠4
  ·rw [if_pos k] at e;exact py L b l a w r w' r' f c d e
  ·rw [if_neg k] at e;split at e
   ·cases e
   ·split at e
    ·cases e
    ·have g:Er l t.Name:=.inr ⟨t,h t (List.mem_cons_self ..),Decidable.not_not.1 k,rfl⟩;refine py L b l a _ _ w' r' f ?_ ?_ e
     ·split
      ·exact g
      ·exact c
     ·split
      ·exact g
      ·exact d
def Fit (l:List na):List na→List pe→Prop
 | [],os=>os=[]
 | x::xs,os=>(x.Kind≠1∧Fit l xs os)∨(x.Kind=1∧∃ o a,os=o::a∧o.oD=x.Name∧Er l o.Writer∧Er l o.Reader∧Fit l xs a)
theorem qy (L:List (Nm×uf)) (l:List na):∀ (xs:List na) (i:Int) (acc res:List pe) (f:Oc),Ql L l xs i acc=(res,f)→(f.gg≠0∧res=[])∨(f.gg=0∧∃ os,res=acc++os∧Fit l xs os)
 | [],i,acc,res,f,h=>by
  cases h;exact .inr ⟨rfl,[],by simp,rfl⟩
 | x::xs,i,acc,res,f,h=>by
  rw [Ql] at h;by_cases k:x.Kind≠1
  ·rw [if_pos k] at h;rcases qy L l xs _ _ _ _ h with h | ⟨a,os,b,c⟩
   ·exact .inl h
   ·exact .inr ⟨a,os,b,.inl ⟨k,c⟩⟩
  ·rw [if_neg k] at h;cases e:Pl L x.Name l [] [] with
   | none =>
    rw [e] at h;cases h;exact .inl ⟨(by decide:(8:Int)≠0),rfl⟩
   | some v =>
    obtain ⟨w,r⟩:=v;rw [e] at h;obtain ⟨d,g⟩:=py L x.Name l l [] [] w r (fun _ h=>h) (.inl rfl) (.inl rfl) e;rcases qy L l xs _ _ _ _ h with h | ⟨a,os,b,c⟩
    ·exact .inl h
    ·exact .inr ⟨a,⟨x.Name,w,r⟩::os,by rw [b,List.append_assoc];rfl,.inr ⟨Decidable.not_not.1 k,_,_,rfl,rfl,d,g,c⟩⟩
end Go.Y
namespace Go.Y
open Go.pc Go.nd
def Zj:Nat→hb→hb
 | 0,x=>x
 | k+1,x=>hb.mk x.Kind (if x.Kind=1∨x.Kind=2 then x.N else 0) (if x.Kind=3∨x.Kind=20∨x.Kind=19∨x.Kind=22 then x.Name else []) (x.Kids.map (Zj k))
def vf:Nat→cb→cb
 | 0,s=>s
 | k+1,s=>cb.mk s.Kind (if s.Kind=1∨s.Kind=2∨s.Kind=7 then s.Name else []) (if s.Kind≠6 then Zj k s.X else hb.mk 0 0 [] []) (if s.Kind=3∨s.Kind=4 then s.Body.map (vf k) else []) (if s.Kind=3 then s.Qd.map (vf k) else [])
theorem YB {α:Type}{B:Nat}{l xs:List α}(h:l.length+xs.length≤B):Ao B l xs=some (l++xs):=if_pos h
theorem zG:∀ (n k:Nat) (x:hb),k≤n→Io k x→(lo n).Dl x=some (Zj k x):=by
 intro n
 induction n with
 | zero =>
  intro k x l a;obtain rfl:k=0:=by omega
  cases a
 | succ n t =>
  intro k x l a;cases k with
  | zero=>cases a
  | succ k =>
  obtain ⟨za,u⟩:=a;show Dl (lo n) x=_;have L:∀ (i:Int) (s:Nm) (m j:Nat) (acc:List hb),j≤x.Kids.length→x.Kids.length<m+j→acc.length≤j→Mq (lo n) x i s m j acc=some (hb.mk x.Kind i s (acc++(x.Kids.drop j).map (Zj k))):=by
   intro i s m
   induction m with
   | zero=>intro j acc l a; omega
   | succ m v =>
    intro j acc g1 g2 g3;rw [Mq];by_cases c:j<x.Kids.length
    ·rw [if_pos (by omega),od,List.getElem?_eq_getElem c,da,t k x.Kids[j] (by omega) (u _ (List.getElem_mem c)),da,YB (by simp;omega),da,Nv,Ib (by omega),da];refine (v (j+1) _ c (by omega) (by simp;omega)).trans ?_;rw [List.drop_eq_getElem_cons c];simp only [List.map_cons,List.append_assoc,List.singleton_append]
    ·rw [if_neg (by omega),List.drop_eq_nil_of_le (by omega)];simp
  have o:∀ (i:Int) (s:Nm),Es (lo n) x i s=some (hb.mk x.Kind i s (x.Kids.map (Zj k))):=by
   intro i s;have:=L i s (x.Kids.length+1) 0 [] (by omega) (by omega) (by simp);simpa [Es] using this
  have p:∀ i:Int,Fs (lo n) x i=some (hb.mk x.Kind i (if x.Kind=3∨x.Kind=20∨x.Kind=19∨x.Kind=22 then x.Name else []) (x.Kids.map (Zj k))):=by
   intro i;have e:∀ b,(b=true ↔ x.Kind=3∨x.Kind=20∨x.Kind=19∨x.Kind=22)→Pp (lo n) x i b=some (hb.mk x.Kind i (if x.Kind=3∨x.Kind=20∨x.Kind=19∨x.Kind=22 then x.Name else []) (x.Kids.map (Zj k))):=by
    intro b d;rw [Pp];by_cases q:b=true
    ·rw [if_pos q,if_pos (d.1 q),o]
    ·rw [if_neg q,if_neg (fun h=>q (d.2 h)),o]
   rw [Fs];by_cases c3:x.Kind=3
   ·rw [if_pos c3];exact e _ (by simp [c3])
   rw [if_neg c3];by_cases c20:x.Kind=20
   ·rw [if_pos c20];exact e _ (by simp [c20])
   rw [if_neg c20];by_cases f:x.Kind=19
   ·rw [if_pos f];exact e _ (by simp [f])
   rw [if_neg f];exact e _ (by simp [c3,c20,f])
  have r:∀ b,(b=true ↔ x.Kind=1∨x.Kind=2)→Gs (lo n) x b=some (Zj (k+1) x):=by
   intro b d;rw [Gs,Zj];by_cases q:b=true
   ·rw [if_pos q,if_pos (d.1 q),p]
   ·rw [if_neg q,if_neg (fun h=>q (d.2 h)),p]
  rw [Dl];by_cases g:x.Kind=1
  ·rw [if_pos g];exact r _ (by simp [g])
  ·rw [if_neg g];exact r _ (by simp [g])
theorem rB:∀ (n k:Nat) (l:List cb),k+1≤n→l.length≤1099511627776→(∀ y ∈ l,Nk k y)→(Rj n).Fk l=some (l.map (vf k)):=by
 intro n
 induction n with
 | zero=>intro k l g; omega
 | succ n j =>
  intro k l g za E;show Fk n (Rj n) l=_;have L:∀ (m i:Nat) (acc:List cb),i≤l.length→l.length<m+i→acc.length≤i→cj n (Rj n) l m i acc=some (acc++(l.drop i).map (vf k)):=by
   intro m
   induction m with
   | zero=>intro i acc g O; omega
   | succ m F =>
    intro i acc g1 g2 g3;rw [cj];by_cases c:i<l.length
    ·rw [if_pos (by omega),od,List.getElem?_eq_getElem c,da];have o:=E _ (List.getElem_mem c);have xb:=fun z (d:z=vf k l[i])=>(F (i+1) (acc++[z]) c (by omega) (by simp;omega)).trans (show _=some (acc++(l.drop i).map (vf k)) by
      rw [List.drop_eq_getElem_cons c,d];simp only [List.map_cons,List.append_assoc,List.singleton_append])
     generalize l[i]=y at *;cases k with
     | zero=>cases o
     | succ k =>
     obtain ⟨G,⟨H,K⟩,⟨M,N⟩⟩:=o;have p:∀ (s:Nm) (a b:Int) (t:Nm) (q:List hb) (fk el:List cb),cb.mk y.Kind s (hb.mk a b t q) fk el=vf (k+1) y→Zr (i:Int) acc y s a b t q fk (cj n (Rj n) l m) el=some (acc++(l.drop i).map (vf (k+1))):=by
      intro s a b t q fk el d;rw [Zr,YB (by simp;omega),da,Ib (by omega),da];exact xb _ d
     have r:∀ (s:Nm) (a b:Int) (t:Nm) (q:List hb) (fk:List cb),cb.mk y.Kind s (hb.mk a b t q) fk (if y.Kind=3 then y.Qd.map (vf k) else [])=vf (k+1) y→bs (Rj n) (i:Int) acc y s a b t q (cj n (Rj n) l m) fk=some (acc++(l.drop i).map (vf (k+1))):=by
      intro s a b t q fk d;rw [bs];by_cases c3:y.Kind=3
      ·rw [if_pos c3] at d ⊢;rw [j k y.Qd (by omega) M N,da];exact p _ _ _ _ _ _ _ d
      ·rw [if_neg c3] at d ⊢;exact p _ _ _ _ _ _ _ d
     have u:∀ (s:Nm) (a b:Int) (t:Nm) (q:List hb) (v:Bool),(v=true ↔ y.Kind=3∨y.Kind=4)→cb.mk y.Kind s (hb.mk a b t q) (if y.Kind=3∨y.Kind=4 then y.Body.map (vf k) else []) (if y.Kind=3 then y.Qd.map (vf k) else [])=vf (k+1) y→fs (Rj n) (i:Int) acc y s a b t q (cj n (Rj n) l m) v=some (acc++(l.drop i).map (vf (k+1))):=by
      intro s a b t q v x d;rw [fs];by_cases w:v=true
      ·rw [if_pos (x.1 w)] at d;rw [if_pos w,j k y.Body (by omega) H K,da];exact r _ _ _ _ _ _ d
      ·rw [if_neg (fun h=>w (x.2 h))] at d;rw [if_neg w];exact r _ _ _ _ _ _ d
     have A:∀ (s:Nm) (a b:Int) (t:Nm) (q:List hb),cb.mk y.Kind s (hb.mk a b t q) (if y.Kind=3∨y.Kind=4 then y.Body.map (vf k) else []) (if y.Kind=3 then y.Qd.map (vf k) else [])=vf (k+1) y→hs (Rj n) (i:Int) acc y s (cj n (Rj n) l m) a b t q=some (acc++(l.drop i).map (vf (k+1))):=by
      intro s a b t q d;rw [hs];by_cases c3:y.Kind=3
      ·rw [if_pos c3];exact u _ _ _ _ _ _ (by simp [c3]) d
      ·rw [if_neg c3];exact u _ _ _ _ _ _ (by simp [c3]) d
     have B:∀ s:Nm,s=(if y.Kind=1∨y.Kind=2∨y.Kind=7 then y.Name else [])→js n (Rj n) (i:Int) acc y (cj n (Rj n) l m) s=some (acc++(l.drop i).map (vf (k+1))):=by
      intro s C;rw [js];by_cases Sd:y.Kind≠6
      ·rw [if_pos Sd,zG n k y.X (by omega) G,da];refine A _ _ _ _ _ ?_;rw [vf,if_pos Sd,← C];generalize Zj k y.X=z;cases z;rfl
      ·rw [if_neg Sd];refine A _ _ _ _ _ ?_;rw [vf,if_neg Sd,← C]
     have f:∀ b,(b=true ↔ y.Kind=1∨y.Kind=2∨y.Kind=7)→Iq n (Rj n) (i:Int) acc y (cj n (Rj n) l m) b=some (acc++(l.drop i).map (vf (k+1))):=by
      intro b D;rw [Iq];by_cases q:b=true
      ·rw [if_pos q];exact B _ (by rw [if_pos (D.1 q)])
      ·rw [if_neg q];exact B _ (by rw [if_neg (fun h=>q (D.2 h))])
     by_cases e:y.Kind=1
     ·rw [if_pos e];exact f _ (by simp [e])
     rw [if_neg e];by_cases c2:y.Kind=2
     ·rw [if_pos c2];exact f _ (by simp [c2])
     rw [if_neg c2];exact f _ (by simp [e,c2])
    ·rw [if_neg (by omega),List.drop_eq_nil_of_le (by omega)];simp
  have:=L (l.length+1) 0 [] (by omega) (by omega) (by simp);simpa [Fk] using this
end Go.Y
namespace Go.Y
open Go.pc Go.nd
abbrev Hm:=List UInt8
def isLet (c:UInt8):Bool:=decide (97≤c.toNat∧c.toNat≤122∨c.toNat=95)
def Nl (c:UInt8):Bool:=decide (48≤c.toNat∧c.toNat≤57)
def Ul (w:Hm):Prop:=∀ fu,20≤fu→kh fu w=some true
def yk:Nat→hb→Prop
 | 0,_=>False
 | k+1,x=>1≤x.Kind∧x.Kind≤24∧Oy x∧(x.Kind=1→0≤x.N∧x.N≤999999999999999)∧(x.Kind=2→x.N=0∨x.N=1)∧((x.Kind=3∨x.Kind=20∨x.Kind=19∨x.Kind=22)→Ul x.Name)∧∀ y ∈ x.Kids,yk k y
end Go.Y
namespace Go.Y
open Go.pc Go.nd
def nj:Nat→cb→Prop
 | 0,_=>False
 | k+1,s=>1≤s.Kind∧s.Kind≤9∧(s.Kind≠6→yk k s.X)∧((s.Kind=1∨s.Kind=2∨s.Kind=7)→Ul s.Name)∧((s.Kind=3∨s.Kind=4)→s.Body.length≤50∧∀ y ∈ s.Body,nj k y)∧(s.Kind=3→s.Qd.length≤50∧∀ y ∈ s.Qd,nj k y)
end Go.Y
namespace Go.Y
open Go.pc Go.nd
def yj (t:pb):Prop:=ll t∧(t.Kind=3→Ul t.Pa)
structure zk (d:na):Prop where
 Qb:1≤d.Kind
 De:d.Kind≤4
 Df:Ul d.Name
 qh:d.Kind=2∨d.Kind=3→d.Params.length≤6∧∀ q ∈ d.Params,Ul q.Name∧yj q.Ja
 tf:d.Kind=3→yj d.eb
 ty:d.Kind≠4→yj d.Ja
 yx:d.Kind=1→1≤d.oc∧d.oc≤20
 fk:d.Kind≠1→d.Body.length≤50∧∀ y ∈ d.Body,nj 39 y
end Go.Y
namespace Go.Y
open Go.pc Go.nd
theorem sB (c:UInt8):hp c=some (isLet c):=by
 rw [hp,isLet];split
 ·split
  ·exact congrArg some (decide_eq_true (by omega)).symm
  ·exact congrArg some (decide_eq_decide.2 (by omega))
 ·exact congrArg some (decide_eq_decide.2 (by omega))
theorem AG (c:UInt8):gr c=some (Nl c):=by
 rw [gr,Nl];split
 ·exact congrArg some (decide_eq_decide.2 (by omega))
 ·exact congrArg some (decide_eq_false (by omega)).symm
end Go.Y
