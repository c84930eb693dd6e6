/- Texts of Md. -/
import Derived.Test.YtdfnejebobekoaaGreatDoorCXu
set_option linter.unusedSimpArgs false
set_option linter.unusedVariables false
set_option linter.unusedSectionVars false
namespace Go.Y
open Go.Wk Go.Xt
structure TExpr where
  Kind:Int
  N:Int
  Name:List UInt8
  Kids:List TExpr
  deriving Inhabited,Repr
structure TStat where
  Kind:Int
  Name:List UInt8
  X:TExpr
  Body:List TStat
  Else:List TStat
  deriving Inhabited,Repr
def Els {α:Type} (sz:Nat) (μ:M) (a:Option Addr) (c:Nat) (xs:List α) (g:Nat→List Value):Prop :=
  xs.length≤c∧c≤maxLen∧(xs=[]∨∃ b o,a=some ⟨b,o,none⟩∧∀ (i:Nat) (y:α),xs[i]?=some y→At μ b (o+i*sz) (g i))
inductive ExprCs (μ:M):List Value→TExpr→Prop where
  | mk (x:TExpr) (a:Option Addr) (c:Nat) (g:Nat→List Value) (h:Els 4 μ a c x.Kids g) (k:∀ (i:Nat) (y:TExpr),x.Kids[i]?=some y→ExprCs μ (g i) y) :
    ExprCs μ [.int .i64 x.Kind,.int .i64 x.N,S x.Name,.slice a x.Kids.length c] x
theorem Els.sl {α:Type} {sz:Nat} {μ:M} {a:Option Addr} {c:Nat} {xs:List α} {g:Nat→List Value} {R:List Value→α→Prop} (h:Els sz μ a c xs g) (k:∀ (i:Nat) (y:α),xs[i]?=some y→R (g i) y):SlR sz R μ a c xs:=by
  refine ⟨h.1,h.2.1,?_⟩
  rcases h.2.2 with h | ⟨b,o,ha,hg⟩
  · exact .inl h
  · exact .inr ⟨b,o,ha,g,fun i x hx=>⟨hg i x hx,k i x hx⟩⟩
theorem Els.of {α:Type} {sz:Nat} {μ:M} {a:Option Addr} {c:Nat} {xs:List α} {R:List Value→α→Prop} (h:SlR sz R μ a c xs):∃ g,Els sz μ a c xs g∧∀ (i:Nat) (y:α),xs[i]?=some y→R (g i) y:=by
  rcases h.el with h1 | ⟨b,o,ha,g,hg⟩
  · exact ⟨fun _=>[],⟨h.le,h.cap,.inl h1⟩,fun i y hy=>by simp [h1] at hy⟩
  · exact ⟨g,⟨h.le,h.cap,.inr ⟨b,o,ha,fun i y hy=>(hg i y hy).1⟩⟩,fun i y hy=>(hg i y hy).2⟩
theorem Els.up {α:Type} {sz:Nat} {μ μ':M} {a:Option Addr} {c:Nat} {xs:List α} {g:Nat→List Value} (h:Els sz μ a c xs g) (l:Le μ μ'):Els sz μ' a c xs g:=by
  refine ⟨h.1,h.2.1,?_⟩
  rcases h.2.2 with h | ⟨b,o,ha,hg⟩
  · exact .inl h
  · exact .inr ⟨b,o,ha,fun i y hy=>(hg i y hy).up l⟩
theorem ExprCs.up {μ μ':M} (l:Le μ μ') {cs:List Value} {x:TExpr} (h:ExprCs μ cs x):ExprCs μ' cs x:=by
  induction h with
  | mk x a c g h k ih=>exact .mk x a c g (h.up l) ih
instance:Mo TExpr where
  sz:=4
  pos:=by decide
  cs:=ExprCs
  ln h:=by cases h; rfl
  up l h:=ExprCs.up l h
  cv h:=by cases h; rfl
theorem TExpr.o {μ:M} {l:List Value} {x:TExpr} (h:Mo.cs μ l x):∃ a c,l=[.int .i64 x.Kind,.int .i64 x.N,S x.Name,.slice a x.Kids.length c]∧Sl μ a c x.Kids:=by
  have hh:ExprCs μ l x:=h
  cases hh with
  | mk _ a c g h1 k1=>exact ⟨a,c,rfl,h1.sl k1⟩
theorem TExpr.i {μ:M} {l:List Value} {x:TExpr} (h:∃ a c,l=[.int .i64 x.Kind,.int .i64 x.N,S x.Name,.slice a x.Kids.length c]∧Sl μ a c x.Kids):Mo.cs μ l x:=by
  obtain ⟨a,c,rfl,h⟩:=h
  obtain ⟨g,h,k⟩:=Els.of h
  exact ExprCs.mk x a c g h k
inductive StatCs (μ:M):List Value→TStat→Prop where
  | mk (x:TStat) (a1:Option Addr) (c1:Nat) (a2:Option Addr) (c2:Nat) (a3:Option Addr) (c3:Nat) (g2 g3:Nat→List Value) (h1:Sl μ a1 c1 x.X.Kids)
      (h2:Els 8 μ a2 c2 x.Body g2) (k2:∀ (i:Nat) (y:TStat),x.Body[i]?=some y→StatCs μ (g2 i) y)
      (h3:Els 8 μ a3 c3 x.Else g3) (k3:∀ (i:Nat) (y:TStat),x.Else[i]?=some y→StatCs μ (g3 i) y) :
    StatCs μ [.int .i64 x.Kind,S x.Name,.int .i64 x.X.Kind,.int .i64 x.X.N,S x.X.Name,.slice a1 x.X.Kids.length c1,.slice a2 x.Body.length c2,.slice a3 x.Else.length c3] x
theorem StatCs.up {μ μ':M} (l:Le μ μ') {cs:List Value} {x:TStat} (h:StatCs μ cs x):StatCs μ' cs x:=by
  induction h with
  | mk x a1 c1 a2 c2 a3 c3 g2 g3 h1 h2 k2 h3 k3 ih2 ih3=>exact .mk x a1 c1 a2 c2 a3 c3 g2 g3 (h1.up l) (h2.up l) ih2 (h3.up l) ih3
instance:Mo TStat where
  sz:=8
  pos:=by decide
  cs:=StatCs
  ln h:=by cases h; rfl
  up l h:=StatCs.up l h
  cv h:=by cases h; rfl
theorem TStat.o {μ:M} {l:List Value} {x:TStat} (h:Mo.cs μ l x):∃ a1 c1 a2 c2 a3 c3,l=[.int .i64 x.Kind,S x.Name,.int .i64 x.X.Kind,.int .i64 x.X.N,S x.X.Name,.slice a1 x.X.Kids.length c1,.slice a2 x.Body.length c2,.slice a3 x.Else.length c3]∧Sl μ a1 c1 x.X.Kids∧Sl μ a2 c2 x.Body∧Sl μ a3 c3 x.Else:=by
  have hh:StatCs μ l x:=h
  cases hh with
  | mk _ a1 c1 a2 c2 a3 c3 g2 g3 h1 h2 k2 h3 k3=>exact ⟨a1,c1,a2,c2,a3,c3,rfl,h1,h2.sl k2,h3.sl k3⟩
theorem TStat.i {μ:M} {l:List Value} {x:TStat} (h:∃ a1 c1 a2 c2 a3 c3,l=[.int .i64 x.Kind,S x.Name,.int .i64 x.X.Kind,.int .i64 x.X.N,S x.X.Name,.slice a1 x.X.Kids.length c1,.slice a2 x.Body.length c2,.slice a3 x.Else.length c3]∧Sl μ a1 c1 x.X.Kids∧Sl μ a2 c2 x.Body∧Sl μ a3 c3 x.Else):Mo.cs μ l x:=by
  obtain ⟨a1,c1,a2,c2,a3,c3,rfl,h1,h2,h3⟩:=h
  obtain ⟨g2,h2,k2⟩:=Els.of h2
  obtain ⟨g3,h3,k3⟩:=Els.of h3
  exact StatCs.mk x a1 c1 a2 c2 a3 c3 g2 g3 h1 h2 k2 h3 k3
structure TToken where
  Kind:Int
  Text:List UInt8
  Num:Int
  At:Int
  deriving DecidableEq,Inhabited,Repr
instance:Mo TToken where
  sz:=4
  pos:=by decide
  cs μ l x:=l=[.int .i64 x.Kind,S x.Text,.int .i64 x.Num,.int .i64 x.At]
  ln h:=by obtain rfl:=h; rfl
  up le h:=by exact h
  cv h:=by obtain rfl:=h; rfl
structure TFault where
  Err:Int
  At:Int
  deriving DecidableEq,Inhabited,Repr
structure TType where
  Kind:Int
  Gen:List UInt8
  deriving DecidableEq,Inhabited,Repr
instance:Mo TType where
  sz:=2
  pos:=by decide
  cs μ l x:=l=[.int .i64 x.Kind,S x.Gen]
  ln h:=by obtain rfl:=h; rfl
  up le h:=by exact h
  cv h:=by obtain rfl:=h; rfl
structure TParam where
  Name:List UInt8
  Typ:TType
  deriving DecidableEq,Inhabited,Repr
instance:Mo TParam where
  sz:=3
  pos:=by decide
  cs μ l x:=l=[S x.Name,.int .i64 x.Typ.Kind,S x.Typ.Gen]
  ln h:=by obtain rfl:=h; rfl
  up le h:=by exact h
  cv h:=by obtain rfl:=h; rfl
structure TDef where
  Kind:Int
  Name:List UInt8
  Typ:TType
  Takes:TType
  Cap:Int
  Params:List TParam
  Body:List TStat
  deriving Inhabited,Repr
instance:Mo TDef where
  sz:=9
  pos:=by decide
  cs μ l x:=∃ a1 c1 a2 c2,l=[.int .i64 x.Kind,S x.Name,.int .i64 x.Typ.Kind,S x.Typ.Gen,.int .i64 x.Takes.Kind,S x.Takes.Gen,.int .i64 x.Cap,.slice a1 x.Params.length c1,.slice a2 x.Body.length c2]∧Sl μ a1 c1 x.Params∧Sl μ a2 c2 x.Body
  ln h:=by obtain ⟨a1,c1,a2,c2,rfl,m1,m2⟩:=h; rfl
  up le h:=by obtain ⟨a1,c1,a2,c2,rfl,m1,m2⟩:=h; exact ⟨a1,c1,a2,c2,rfl,m1.up le,m2.up le⟩
  cv h:=by obtain ⟨a1,c1,a2,c2,rfl,m1,m2⟩:=h; rfl
theorem TDef.i {μ:M} {l:List Value} {x:TDef} (h:∃ a1 c1 a2 c2,l=[.int .i64 x.Kind,S x.Name,.int .i64 x.Typ.Kind,S x.Typ.Gen,.int .i64 x.Takes.Kind,S x.Takes.Gen,.int .i64 x.Cap,.slice a1 x.Params.length c1,.slice a2 x.Body.length c2]∧Sl μ a1 c1 x.Params∧Sl μ a2 c2 x.Body):Mo.cs μ l x:=h
structure TOwner where
  Box:List UInt8
  Writer:List UInt8
  Reader:List UInt8
  deriving DecidableEq,Inhabited,Repr
instance:Mo TOwner where
  sz:=3
  pos:=by decide
  cs μ l x:=l=[S x.Box,S x.Writer,S x.Reader]
  ln h:=by obtain rfl:=h; rfl
  up le h:=by exact h
  cv h:=by obtain rfl:=h; rfl
instance:MV TType:=⟨Av,Av.up⟩
instance:MV TDef:=⟨Pv,Pv.up⟩
structure TSp where
  defs:List TDef
  named:List (List UInt8×TDef)
  deriving Inhabited,Repr
structure TSemaUses where
  calls:List (List UInt8)
  sends:List (List UInt8)
  recvs:List (List UInt8)
  deriving DecidableEq,Inhabited,Repr
instance:Mo TSemaUses where
  sz:=3
  pos:=by decide
  cs μ l x:=∃ a1 c1 a2 c2 a3 c3,l=[.slice a1 x.calls.length c1,.slice a2 x.sends.length c2,.slice a3 x.recvs.length c3]∧Sl μ a1 c1 x.calls∧Sl μ a2 c2 x.sends∧Sl μ a3 c3 x.recvs
  ln h:=by obtain ⟨a1,c1,a2,c2,a3,c3,rfl,m1,m2,m3⟩:=h; rfl
  up le h:=by obtain ⟨a1,c1,a2,c2,a3,c3,rfl,m1,m2,m3⟩:=h; exact ⟨a1,c1,a2,c2,a3,c3,rfl,m1.up le,m2.up le,m3.up le⟩
  cv h:=by obtain ⟨a1,c1,a2,c2,a3,c3,rfl,m1,m2,m3⟩:=h; rfl
theorem TSemaUses.i {μ:M} {l:List Value} {x:TSemaUses} (h:∃ a1 c1 a2 c2 a3 c3,l=[.slice a1 x.calls.length c1,.slice a2 x.sends.length c2,.slice a3 x.recvs.length c3]∧Sl μ a1 c1 x.calls∧Sl μ a2 c2 x.sends∧Sl μ a3 c3 x.recvs):Mo.cs μ l x:=h
structure TSynLevel where
  signs:List (List UInt8×Int)
  once:Bool
  deriving DecidableEq,Inhabited,Repr
instance:Mo TSynLevel where
  sz:=2
  pos:=by decide
  cs μ l x:=∃ b1,l=[.map (some b1),.bool x.once]∧Mr μ b1 x.signs
  ln h:=by obtain ⟨b1,rfl,m1⟩:=h; rfl
  up le h:=by obtain ⟨b1,rfl,m1⟩:=h; exact ⟨b1,rfl,m1.up le⟩
  cv h:=by obtain ⟨b1,rfl,m1⟩:=h; rfl
theorem TSynLevel.i {μ:M} {l:List Value} {x:TSynLevel} (h:∃ b1,l=[.map (some b1),.bool x.once]∧Mr μ b1 x.signs):Mo.cs μ l x:=h
instance:MV TSemaUses:=⟨Av,Av.up⟩
end Go.Y
namespace Go.Y
open Go.Wk Go.Xt
def tx_0:List UInt8:=[32,98,111,120,32,102,110,32,103,101,110,32,116,97,115,107,32,116,97,107,101,115,32,121,105,101,108,100,115,32,108,101,116,32,105,102,32,101,108,115,101,32,119,104,105,108,101,32,114,101,116,117,114,110,32,115,116,111,112,32,115,101,110,100,32,111,117,116,32,100,111,32,114,101,99,118,32,121,105,101,108,100,32,115,116,97,114,116,32,114,101,115,117,109,101,32,97,108,105,118,101,32,110,117,109,32,98,111,111,108,32,116,114,117,101,32,102,97,108,115,101,32,97,110,100,32,111,114,32,110,111,116,32]
def lx_letter  (p_1:UInt8):Option Bool :=
  if (97:Int)≤(p_1.toNat:Int) then
    if (p_1.toNat:Int)≤122 then
      some true
    else
      some (decide ((p_1.toNat:Int)=95))
  else
    some (decide ((p_1.toNat:Int)=95))
def lx_digit  (p_1:UInt8):Option Bool :=
  if (48:Int)≤(p_1.toNat:Int) then
    some (decide ((p_1.toNat:Int)≤57))
  else
    some false
def lx_while_j1 (i13:Int) (k_lx_while_l1:Int→Option Int) (b24:Bool):Option Int :=
  if b24=true then
    (i64 (i13+1)).bind fun i33 =>
    k_lx_while_l1 i33
  else
    some i13
def lx_while_l1 (p_1:List UInt8) (p_2:UInt8→Option Bool):Nat→Int→Option Int
  | 0,_=>none
  | n+1,i13 =>
    if i13<(p_1.length:Int) then
      (at_ p_1 i13).bind fun u26 =>
      (p_2 u26).bind fun b28 =>
      lx_while_j1 i13 (lx_while_l1 p_1 p_2 n) b28
    else
      lx_while_j1 i13 (lx_while_l1 p_1 p_2 n) false
def lx_while (fu:Nat)  (p_1:List UInt8) (p_2:UInt8→Option Bool):Option Int :=
  lx_while_l1 p_1 p_2 fu 0
def lx_t1  (p_1:UInt8):Option Bool :=
  (lx_letter p_1).bind fun r1 =>
  if r1=true then
    some true
  else
    (lx_digit p_1).bind fun r5 =>
    some r5
def lx_s1  (p_1:UInt8):Option Bool :=
  some (decide ((p_1.toNat:Int)≠10))
def lx_n1  (p_1:UInt8):Option Bool :=
  (lx_letter p_1).bind fun r1 =>
  if r1=true then
    some true
  else
    (lx_digit p_1).bind fun r5 =>
    some r5
def lx_hp0  (p_1:List UInt8) (p_2:List UInt8):Option Bool :=
  if (p_2.length:Int)≤(p_1.length:Int) then
    (cut p_1 0 (p_2.length:Int)).bind fun s2 =>
    some (decide (s2=p_2))
  else
    some false
def lx_hp  (p_1:List UInt8) (p_2:List UInt8):Option Bool :=
  (lx_hp0 p_1 p_2).bind fun r1 =>
  some r1
def lx_sign_l1 (p_1:List UInt8):Nat→Int→Option (List UInt8)
  | 0,_=>none
  | n+1,i18 =>
    if i18<18 then
      (at_ [[61,61],[33,61],[60,61],[62,61],[60],[62],[61],[43],[45],[42],[47],[37],[40],[41],[123],[125],[44],[59]] i18).bind fun x34 =>
      (lx_hp p_1 x34).bind fun r42 =>
      if r42=true then
        some x34
      else
        (i64 (i18+1)).bind fun i46 =>
        lx_sign_l1 p_1 n i46
    else
      some []
def lx_sign  (p_1:List UInt8):Option (List UInt8) :=
  lx_sign_l1 p_1 19 0
def lx_space_j1 (fu:Nat) (p_1:List UInt8) (i13:Int) (u28:UInt8) (k_lx_space_l1:Int→Option Int) (b30:Bool):Option Int :=
  if b30=true then
    (i64 (i13+1)).bind fun i35 =>
    k_lx_space_l1 i35
  else
    if (u28.toNat:Int)=35 then
      (cut p_1 i13 p_1.length).bind fun s38 =>
      (lx_while fu s38 lx_s1).bind fun r40 =>
      (i64 (i13+r40)).bind fun i43 =>
      k_lx_space_l1 i43
    else
      some i13
def lx_space_l1 (fu:Nat) (p_1:List UInt8):Nat→Int→Option Int
  | 0,_=>none
  | n+1,i13 =>
    if i13<(p_1.length:Int) then
      (at_ p_1 i13).bind fun u28 =>
      if (u28.toNat:Int)=32 then
        lx_space_j1 fu p_1 i13 u28 (lx_space_l1 fu p_1 n) (decide ((u28.toNat:Int)=32))
      else
        if (u28.toNat:Int)=9 then
          lx_space_j1 fu p_1 i13 u28 (lx_space_l1 fu p_1 n) (decide ((u28.toNat:Int)=9))
        else
          lx_space_j1 fu p_1 i13 u28 (lx_space_l1 fu p_1 n) (decide ((u28.toNat:Int)=10))
    else
      some i13
def lx_space (fu:Nat)  (p_1:List UInt8):Option Int :=
  lx_space_l1 fu p_1 fu 0
def lex_named_j1 (fu:Nat) (p_1:List UInt8) (b1:Bool):Option Bool :=
  if b1=true then
    some false
  else
    (lx_while fu p_1 lx_n1).bind fun r18 =>
    some (decide (r18=(p_1.length:Int)))
def lex_named (fu:Nat)  (p_1:List UInt8):Option Bool :=
  if (p_1.length:Int)<1 then
    lex_named_j1 fu p_1 true
  else
    if (12:Int)<(p_1.length:Int) then
      lex_named_j1 fu p_1 true
    else
      (at_ p_1 0).bind fun u4 =>
      (lx_letter u4).bind fun r6 =>
      if r6=true then
        (cat [32] p_1).bind fun s10 =>
        (cat s10 [32]).bind fun s12 =>
        (scont tx_0 s12).bind fun b14 =>
        lex_named_j1 fu p_1 b14
      else
        lex_named_j1 fu p_1 true
def lex_tokens_j1 (fu:Nat) (p_1:List UInt8) (i58:Int) (l61:List TToken) (k_lex_tokens_l1:Int→(List TToken)→Option (List TToken×TFault)) (i118:Int) (s119:List UInt8) (i120:Int):Option (List TToken×TFault) :=
  (app l61 [(TToken.mk i118 s119 i120 i58)]).bind fun l151 =>
  (i64 (i58+(s119.length:Int))).bind fun i154 =>
  (cut p_1 i154 p_1.length).bind fun s156 =>
  (lx_space fu s156).bind fun r158 =>
  (i64 (i154+r158)).bind fun i161 =>
  k_lex_tokens_l1 i161 l151
def lex_tokens_l1 (fu:Nat) (p_1:List UInt8):Nat→Int→(List TToken)→Option (List TToken×TFault)
  | 0,_,_=>none
  | n+1,i58,l61 =>
    if i58<(p_1.length:Int) then
      (cut p_1 i58 p_1.length).bind fun s112 =>
      (at_ s112 0).bind fun u116 =>
      (lx_letter u116).bind fun r121 =>
      if r121=true then
        (lx_while fu s112 lx_t1).bind fun r125 =>
        (cut s112 0 r125).bind fun s128 =>
        lex_tokens_j1 fu p_1 i58 l61 (lex_tokens_l1 fu p_1 n) 1 s128 0
      else
        (lx_digit u116).bind fun r130 =>
        if r130=true then
          (lx_while fu s112 lx_digit).bind fun r134 =>
          (cut s112 0 r134).bind fun s137 =>
          if (15:Int)<(s137.length:Int) then
            some (([]:List TToken),(TFault.mk 3 i58))
          else
            (pint s137).bind fun i140 =>
            lex_tokens_j1 fu p_1 i58 l61 (lex_tokens_l1 fu p_1 n) 2 s137 i140
        else
          (lx_sign s112).bind fun r142 =>
          if r142=[] then
            some (([]:List TToken),(TFault.mk 2 i58))
          else
            lex_tokens_j1 fu p_1 i58 l61 (lex_tokens_l1 fu p_1 n) 3 r142 0
    else
      some (l61,(TFault.mk 0 0))
def lex_tokens (fu:Nat)  (p_1:List UInt8):Option (List TToken×TFault) :=
  if (6000:Int)<(p_1.length:Int) then
    some (([]:List TToken),(TFault.mk 4 0))
  else
    (lx_space fu p_1).bind fun r7 =>
    lex_tokens_l1 fu p_1 fu r7 []
end Go.Y
namespace Go.Y
open Go.Wk Go.Xt
def syn_kids_j3  (b10:Bool):Option Int :=
  if b10=true then
    some 2
  else
    some (-1)
def syn_kids_j2 (p_1:Int) (b5:Bool):Option Int :=
  if b5=true then
    some 1
  else
    if p_1≤18 then
      syn_kids_j3 true
    else
      syn_kids_j3 (decide (p_1=23))
def syn_kids_j1 (p_1:Int) (b1:Bool):Option Int :=
  if b1=true then
    some 0
  else
    if p_1≤5 then
      syn_kids_j2 p_1 true
    else
      if p_1=21 then
        syn_kids_j2 p_1 true
      else
        syn_kids_j2 p_1 (decide (p_1=24))
def syn_kids  (p_1:Int):Option Int :=
  if p_1≤3 then
    syn_kids_j1 p_1 true
  else
    syn_kids_j1 p_1 (decide (p_1=20))
def syn_node_j1 (i3:Int) (b5:Bool):Option (Int×Int) :=
  if b5=true then
    some (4,i3)
  else
    some (0,i3)
def syn_node  (node_2:Int) (p_2:Int):Option (Int×Int) :=
  (i64 (node_2+1)).bind fun i3 =>
  if (2000:Int)<i3 then
    syn_node_j1 i3 true
  else
    syn_node_j1 i3 (decide ((40:Int)<p_2))
def syn_typ_j2  (b7:Bool):Option Int :=
  if b7=true then
    some 7
  else
    some 0
def syn_typ_j1 (fu:Nat) (p_1:TType) (b3:Bool):Option Int :=
  if b3=true then
    some 1
  else
    if p_1.Kind=3 then
      (lex_named fu p_1.Gen).bind fun r9 =>
      syn_typ_j2 (!r9)
    else
      syn_typ_j2 false
def syn_typ (fu:Nat)  (p_1:TType):Option Int :=
  if p_1.Kind<1 then
    syn_typ_j1 fu p_1 true
  else
    syn_typ_j1 fu p_1 (decide ((3:Int)<p_1.Kind))
structure SynExpr where
  syn_expr:Int→TExpr→Int→Option (Int×Int)
def syn_expr_l1 (self:SynExpr) (p_2:TExpr) (p_3:Int):Nat→Int→Int→Option (Int×Int)
  | 0,_,_=>none
  | n+1,i72,i73 =>
    if i72<(p_2.Kids.length:Int) then
      (at_ p_2.Kids i72).bind fun x94 =>
      (i64 (p_3+1)).bind fun i105 =>
      (self.syn_expr i73 x94 i105).bind fun r107 =>
      if r107.1≠0 then
        some (r107.1,r107.2)
      else
        (i64 (i72+1)).bind fun i111 =>
        syn_expr_l1 self p_2 p_3 n i111 r107.2
    else
      some (0,i73)
def syn_expr_j6 (self:SynExpr) (p_2:TExpr) (p_3:Int) (r9:Int×Int) (b48:Bool):Option (Int×Int) :=
  if b48=true then
    some (5,r9.2)
  else
    syn_expr_l1 self p_2 p_3 (p_2.Kids.length+1) 0 r9.2
def syn_expr_j5 (self:SynExpr) (p_2:TExpr) (p_3:Int) (r9:Int×Int) (r17:Int) (b45:Bool):Option (Int×Int) :=
  if b45=true then
    syn_expr_j6 self p_2 p_3 r9 b45
  else
    if r17<0 then
      syn_expr_j6 self p_2 p_3 r9 (decide ((6:Int)<(p_2.Kids.length:Int)))
    else
      syn_expr_j6 self p_2 p_3 r9 false
def syn_expr_j4 (self:SynExpr) (p_2:TExpr) (p_3:Int) (r9:Int×Int) (r17:Int) (b30:Bool):Option (Int×Int) :=
  if b30=true then
    some (7,r9.2)
  else
    if (0:Int)≤r17 then
      syn_expr_j5 self p_2 p_3 r9 r17 (decide ((p_2.Kids.length:Int)≠r17))
    else
      syn_expr_j5 self p_2 p_3 r9 r17 false
def syn_expr_j3 (fu:Nat) (self:SynExpr) (p_2:TExpr) (p_3:Int) (r9:Int×Int) (r17:Int) (b24:Bool):Option (Int×Int) :=
  if b24=true then
    some (3,r9.2)
  else
    if p_2.Kind=3 then
      (lex_named fu p_2.Name).bind fun r32 =>
      syn_expr_j4 self p_2 p_3 r9 r17 (!r32)
    else
      if p_2.Kind=20 then
        (lex_named fu p_2.Name).bind fun r36 =>
        syn_expr_j4 self p_2 p_3 r9 r17 (!r36)
      else
        if r17<0 then
          (lex_named fu p_2.Name).bind fun r40 =>
          syn_expr_j4 self p_2 p_3 r9 r17 (!r40)
        else
          syn_expr_j4 self p_2 p_3 r9 r17 false
def syn_expr_j2 (fu:Nat) (self:SynExpr) (p_2:TExpr) (p_3:Int) (r9:Int×Int) (r17:Int) (b20:Bool):Option (Int×Int) :=
  if b20=true then
    syn_expr_j3 fu self p_2 p_3 r9 r17 b20
  else
    if p_2.Kind=2 then
      if p_2.N≠0 then
        syn_expr_j3 fu self p_2 p_3 r9 r17 (decide (p_2.N≠1))
      else
        syn_expr_j3 fu self p_2 p_3 r9 r17 false
    else
      syn_expr_j3 fu self p_2 p_3 r9 r17 false
def syn_expr_j1 (fu:Nat) (self:SynExpr) (p_2:TExpr) (p_3:Int) (r9:Int×Int) (b13:Bool):Option (Int×Int) :=
  if b13=true then
    some (1,r9.2)
  else
    (syn_kids p_2.Kind).bind fun r17 =>
    if p_2.Kind=1 then
      if p_2.N<0 then
        syn_expr_j2 fu self p_2 p_3 r9 r17 true
      else
        syn_expr_j2 fu self p_2 p_3 r9 r17 (decide ((999999999999999:Int)<p_2.N))
    else
      syn_expr_j2 fu self p_2 p_3 r9 r17 false
def syn_expr (fu:Nat) (self:SynExpr) (node_2:Int) (p_2:TExpr) (p_3:Int):Option (Int×Int) :=
  (syn_node node_2 p_3).bind fun r9 =>
  if r9.1≠0 then
    some (r9.1,r9.2)
  else
    if p_2.Kind<1 then
      syn_expr_j1 fu self p_2 p_3 r9 true
    else
      syn_expr_j1 fu self p_2 p_3 r9 (decide ((24:Int)<p_2.Kind))
def SynExpr_run:Nat→SynExpr
  | 0=>⟨fun _ _ _=>none⟩
  | n+1=>⟨syn_expr n (SynExpr_run n)⟩
structure SynStat where
  syn_stats:Int→(List TStat)→Int→Option (Int×Int)
  syn_stat:Int→TStat→Int→Option (Int×Int)
def syn_stats_l1 (self:SynStat) (p_2:List TStat) (p_3:Int):Nat→Int→Int→Option (Int×Int)
  | 0,_,_=>none
  | n+1,i29,i30 =>
    if i29<(p_2.length:Int) then
      (at_ p_2 i29).bind fun x55 =>
      (self.syn_stat i30 x55 p_3).bind fun r72 =>
      if r72.1≠0 then
        some (r72.1,r72.2)
      else
        (i64 (i29+1)).bind fun i76 =>
        syn_stats_l1 self p_2 p_3 n i76 r72.2
    else
      some (0,i30)
def syn_stats (self:SynStat) (node_2:Int) (p_2:List TStat) (p_3:Int):Option (Int×Int) :=
  if (50:Int)<(p_2.length:Int) then
    some (5,node_2)
  else
    syn_stats_l1 self p_2 p_3 (p_2.length+1) 0 node_2
def syn_stat_j4 (self:SynStat) (p_2:TStat) (p_3:Int) (i48:Int):Option (Int×Int) :=
  if p_2.Kind=3 then
    (i64 (p_3+1)).bind fun i58 =>
    (self.syn_stats i48 p_2.Else i58).bind fun r60 =>
    some (r60.1,r60.2)
  else
    some (0,i48)
def syn_stat_j3 (self:SynStat) (p_2:TStat) (p_3:Int) (r41:Int×Int) (b45:Bool):Option (Int×Int) :=
  if b45=true then
    (i64 (p_3+1)).bind fun i50 =>
    (self.syn_stats r41.2 p_2.Body i50).bind fun r52 =>
    if r52.1≠0 then
      some (r52.1,r52.2)
    else
      syn_stat_j4 self p_2 p_3 r52.2
  else
    syn_stat_j4 self p_2 p_3 r41.2
def syn_stat_j2 (fu:Nat) (self:SynStat) (p_2:TStat) (p_3:Int) (r15:Int×Int) (b23:Bool):Option (Int×Int) :=
  if b23=true then
    some (7,r15.2)
  else
    if p_2.Kind=6 then
      some (0,r15.2)
    else
      (i64 (p_3+1)).bind fun i39 =>
      ((SynExpr_run fu).syn_expr r15.2 p_2.X i39).bind fun r41 =>
      if r41.1≠0 then
        some (r41.1,r41.2)
      else
        if p_2.Kind=3 then
          syn_stat_j3 self p_2 p_3 r41 true
        else
          syn_stat_j3 self p_2 p_3 r41 (decide (p_2.Kind=4))
def syn_stat_j1 (fu:Nat) (self:SynStat) (p_2:TStat) (p_3:Int) (r15:Int×Int) (b19:Bool):Option (Int×Int) :=
  if b19=true then
    some (1,r15.2)
  else
    if p_2.Kind=1 then
      (lex_named fu p_2.Name).bind fun r25 =>
      syn_stat_j2 fu self p_2 p_3 r15 (!r25)
    else
      if p_2.Kind=2 then
        (lex_named fu p_2.Name).bind fun r29 =>
        syn_stat_j2 fu self p_2 p_3 r15 (!r29)
      else
        if p_2.Kind=7 then
          (lex_named fu p_2.Name).bind fun r33 =>
          syn_stat_j2 fu self p_2 p_3 r15 (!r33)
        else
          syn_stat_j2 fu self p_2 p_3 r15 false
def syn_stat (fu:Nat) (self:SynStat) (node_2:Int) (p_2:TStat) (p_3:Int):Option (Int×Int) :=
  (syn_node node_2 p_3).bind fun r15 =>
  if r15.1≠0 then
    some (r15.1,r15.2)
  else
    if p_2.Kind<1 then
      syn_stat_j1 fu self p_2 p_3 r15 true
    else
      syn_stat_j1 fu self p_2 p_3 r15 (decide ((9:Int)<p_2.Kind))
def SynStat_run:Nat→SynStat
  | 0=>⟨fun _ _ _=>none,fun _ _ _=>none⟩
  | n+1=>⟨syn_stats (SynStat_run n),syn_stat n (SynStat_run n)⟩
def syn_def_j6 (r12:Int×Int) (b106:Bool):Option (Int×Int) :=
  if b106=true then
    some (3,r12.2)
  else
    some (0,r12.2)
def syn_def_j5 (fu:Nat) (p_2:TDef) (r12:Int×Int) :Option (Int×Int) :=
  if p_2.Kind≠1 then
    ((SynStat_run fu).syn_stats r12.2 p_2.Body 2).bind fun r103 =>
    some (r103.1,r103.2)
  else
    if p_2.Cap<1 then
      syn_def_j6 r12 true
    else
      syn_def_j6 r12 (decide ((20:Int)<p_2.Cap))
def syn_def_j4 (fu:Nat) (p_2:TDef) (r12:Int×Int) :Option (Int×Int) :=
  if p_2.Kind≠4 then
    (syn_typ fu p_2.Typ).bind fun r97 =>
    if r97≠0 then
      some (r97,r12.2)
    else
      syn_def_j5 fu p_2 r12
  else
    syn_def_j5 fu p_2 r12
def syn_def_j3 (fu:Nat) (p_2:TDef) (r12:Int×Int) :Option (Int×Int) :=
  if p_2.Kind=3 then
    (syn_typ fu p_2.Takes).bind fun r91 =>
    if r91≠0 then
      some (r91,r12.2)
    else
      syn_def_j4 fu p_2 r12
  else
    syn_def_j4 fu p_2 r12
def syn_def_l1 (fu:Nat) (p_2:TDef) (r12:Int×Int):Nat→Int→Option (Int×Int)
  | 0,_=>none
  | n+1,i47 =>
    if i47<(p_2.Params.length:Int) then
      (at_ p_2.Params i47).bind fun x69 =>
      (lex_named fu x69.Name).bind fun r79 =>
      if r79=true then
        (syn_typ fu x69.Typ).bind fun r83 =>
        if r83≠0 then
          some (r83,r12.2)
        else
          (i64 (i47+1)).bind fun i87 =>
          syn_def_l1 fu p_2 r12 n i87
      else
        some (7,r12.2)
    else
      syn_def_j3 fu p_2 r12
def syn_def_j2 (fu:Nat) (p_2:TDef) (r12:Int×Int) (b24:Bool):Option (Int×Int) :=
  if b24=true then
    if (6:Int)<(p_2.Params.length:Int) then
      some (5,r12.2)
    else
      syn_def_l1 fu p_2 r12 (p_2.Params.length+1) 0
  else
    syn_def_j3 fu p_2 r12
def syn_def_j1 (fu:Nat) (p_2:TDef) (r12:Int×Int) (b16:Bool):Option (Int×Int) :=
  if b16=true then
    some (1,r12.2)
  else
    (lex_named fu p_2.Name).bind fun r20 =>
    if r20=true then
      if p_2.Kind=2 then
        syn_def_j2 fu p_2 r12 true
      else
        syn_def_j2 fu p_2 r12 (decide (p_2.Kind=3))
    else
      some (7,r12.2)
def syn_def (fu:Nat)  (node_2:Int) (p_2:TDef):Option (Int×Int) :=
  (syn_node node_2 1).bind fun r12 =>
  if r12.1≠0 then
    some (r12.1,r12.2)
  else
    if p_2.Kind<1 then
      syn_def_j1 fu p_2 r12 true
    else
      syn_def_j1 fu p_2 r12 (decide ((4:Int)<p_2.Kind))
def syn_wrong_l1 (fu:Nat) (p_1:List TDef):Nat→Int→Int→Option TFault
  | 0,_,_=>none
  | n+1,i28,i29 =>
    if i28<(p_1.length:Int) then
      (at_ p_1 i28).bind fun x51 =>
      (syn_def fu i29 x51).bind fun r65 =>
      if r65.1≠0 then
        some (TFault.mk r65.1 i28)
      else
        (i64 (i28+1)).bind fun i69 =>
        syn_wrong_l1 fu p_1 n i69 r65.2
    else
      some (TFault.mk 0 0)
def syn_wrong (fu:Nat)  (p_1:List TDef):Option TFault :=
  if (30:Int)<(p_1.length:Int) then
    some (TFault.mk 5 0)
  else
    syn_wrong_l1 fu p_1 (p_1.length+1) 0 0
end Go.Y
namespace Go.Y
open Go.Wk Go.Xt
def p_at  (left_2:List TToken) (end_6:Int) (deep_7:Int):Option Int :=
  if (left_2.length:Int)=0 then
    some end_6
  else
    (at_ left_2 0).bind fun x9 =>
    some x9.At
def p_sees  (left_2:List TToken) (end_6:Int) (deep_7:Int) (p_2:List UInt8):Option Bool :=
  if (0:Int)<(left_2.length:Int) then
    (at_ left_2 0).bind fun x9 =>
    some (decide (x9.Text=p_2))
  else
    some false
def p_is  (left_2:List TToken) (end_6:Int) (deep_7:Int) (p_2:List UInt8):Option (Bool×List TToken×Int×Int) :=
  (p_sees left_2 end_6 deep_7 p_2).bind fun r11 =>
  if r11=true then
    (cut left_2 1 left_2.length).bind fun l15 =>
    some (true,l15,end_6,deep_7)
  else
    some (false,left_2,end_6,deep_7)
def p_need_l1 (p_2:List (List UInt8)):Nat→Int→(List TToken)→Int→Int→Option (List TToken×Int×Int)
  | 0,_,_,_,_=>none
  | n+1,i30,l33,i35,i36 =>
    if i30<(p_2.length:Int) then
      (at_ p_2 i30).bind fun x56 =>
      (p_is l33 i35 i36 x56).bind fun r64 =>
      if r64.1=true then
        (i64 (i30+1)).bind fun i71 =>
        p_need_l1 p_2 n i71 r64.2.1 r64.2.2.1 r64.2.2.2
      else
        none
    else
      some (l33,i35,i36)
def p_need  (left_2:List TToken) (end_6:Int) (deep_7:Int) (p_2:List (List UInt8)):Option (List TToken×Int×Int) :=
  p_need_l1 p_2 (p_2.length+1) 0 left_2 end_6 deep_7
def p_name_j1 (fu:Nat) (left_2:List TToken) (end_6:Int) (deep_7:Int) (b11:Bool):Option (List UInt8×List TToken×Int×Int) :=
  if b11=true then
    none
  else
    (at_ left_2 0).bind fun x23 =>
    (lex_named fu x23.Text).bind fun r31 =>
    if r31=true then
      (cut left_2 1 left_2.length).bind fun l35 =>
      some (x23.Text,l35,end_6,deep_7)
    else
      none
def p_name (fu:Nat)  (left_2:List TToken) (end_6:Int) (deep_7:Int):Option (List UInt8×List TToken×Int×Int) :=
  if (left_2.length:Int)=0 then
    p_name_j1 fu left_2 end_6 deep_7 true
  else
    (at_ left_2 0).bind fun x13 =>
    p_name_j1 fu left_2 end_6 deep_7 (decide (x13.Kind≠1))
def p_number_j1 (left_2:List TToken) (end_6:Int) (deep_7:Int) (b11:Bool):Option (Int×List TToken×Int×Int) :=
  if b11=true then
    none
  else
    (at_ left_2 0).bind fun x23 =>
    (cut left_2 1 left_2.length).bind fun l31 =>
    some (x23.Num,l31,end_6,deep_7)
def p_number  (left_2:List TToken) (end_6:Int) (deep_7:Int):Option (Int×List TToken×Int×Int) :=
  if (left_2.length:Int)=0 then
    p_number_j1 left_2 end_6 deep_7 true
  else
    (at_ left_2 0).bind fun x13 =>
    p_number_j1 left_2 end_6 deep_7 (decide (x13.Kind≠2))
def p_typ (fu:Nat)  (left_2:List TToken) (end_6:Int) (deep_7:Int):Option (TType×List TToken×Int×Int) :=
  (p_is left_2 end_6 deep_7 [110,117,109]).bind fun r13 =>
  if r13.1=true then
    some ((TType.mk 1 []),r13.2.1,r13.2.2.1,r13.2.2.2)
  else
    (p_is r13.2.1 r13.2.2.1 r13.2.2.2 [98,111,111,108]).bind fun r20 =>
    if r20.1=true then
      some ((TType.mk 2 []),r20.2.1,r20.2.2.1,r20.2.2.2)
    else
      (p_name fu r20.2.1 r20.2.2.1 r20.2.2.2).bind fun r27 =>
      some ((TType.mk 3 r27.1),r27.2.1,r27.2.2.1,r27.2.2.2)
def p_params_j1 (fu:Nat) (l74:List TParam) (k_p_params_l1:(List TToken)→Int→Int→(List TParam)→Option (List TParam×List TToken×Int×Int)) (l129:List TToken) (i131:Int) (i132:Int):Option (List TParam×List TToken×Int×Int) :=
  if (l74.length:Int)=6 then
    none
  else
    (p_name fu l129 i131 i132).bind fun r147 =>
    (p_typ fu r147.2.1 r147.2.2.1 r147.2.2.2).bind fun r153 =>
    (app l74 [(TParam.mk r147.1 (TType.mk r153.1.Kind r153.1.Gen))]).bind fun l163 =>
    k_p_params_l1 r153.2.1 r153.2.2.1 r153.2.2.2 l163
def p_params_l1 (fu:Nat):Nat→(List TToken)→Int→Int→(List TParam)→Option (List TParam×List TToken×Int×Int)
  | 0,_,_,_,_=>none
  | n+1,l68,i70,i71,l74 =>
    (p_is l68 i70 i71 [41]).bind fun r120 =>
    if r120.1=true then
      some (l74,r120.2.1,r120.2.2.1,r120.2.2.2)
    else
      if (0:Int)<(l74.length:Int) then
        (p_need r120.2.1 r120.2.2.1 r120.2.2.2 [[44]]).bind fun r138 =>
        p_params_j1 fu l74 (p_params_l1 fu n) r138.1 r138.2.1 r138.2.2
      else
        p_params_j1 fu l74 (p_params_l1 fu n) r120.2.1 r120.2.2.1 r120.2.2.2
def p_params (fu:Nat)  (left_2:List TToken) (end_6:Int) (deep_7:Int):Option (List TParam×List TToken×Int×Int) :=
  (p_need left_2 end_6 deep_7 [[40]]).bind fun r18 =>
  p_params_l1 fu fu r18.1 r18.2.1 r18.2.2 []
def p_levels  :Option (List TSynLevel) :=
  some [(TSynLevel.mk (mput ([]:List (List UInt8×Int)) [111,114] 18) false),(TSynLevel.mk (mput ([]:List (List UInt8×Int)) [97,110,100] 17) false),(TSynLevel.mk (mput (mput (mput (mput (mput (mput ([]:List (List UInt8×Int)) [61,61] 11) [33,61] 12) [60] 13) [60,61] 14) [62] 15) [62,61] 16) true),(TSynLevel.mk (mput (mput ([]:List (List UInt8×Int)) [43] 6) [45] 7) false),(TSynLevel.mk (mput (mput (mput ([]:List (List UInt8×Int)) [42] 8) [47] 9) [37] 10) false)]
def p_into  (left_2:List TToken) (end_6:Int) (deep_7:Int):Option (List TToken×Int×Int) :=
  (i64 (deep_7+1)).bind fun i14 =>
  if (200:Int)<i14 then
    none
  else
    some (left_2,end_6,i14)
def p_out  (left_3:List TToken) (end_7:Int) (deep_8:Int):Option (List TToken×Int×Int) :=
  (i64 (deep_8 - 1)).bind fun i12 =>
  some (left_3,end_7,i12)
end Go.Y
namespace Go.Y
open Go.Wk Go.Xt
structure ParE where
  p_expr:(List TToken)→Int→Int→Option (TExpr×List TToken×Int×Int)
  p_level:(List TToken)→Int→Int→Int→Option (TExpr×List TToken×Int×Int)
  p_unary:(List TToken)→Int→Int→Option (TExpr×List TToken×Int×Int)
  p_primary:(List TToken)→Int→Int→Option (TExpr×List TToken×Int×Int)
  p_args:(List TToken)→Int→Int→Option (List TExpr×List TToken×Int×Int)
  p_fixed:(List TToken)→Int→Int→Int→Int→Option (TExpr×List TToken×Int×Int)
def p_expr (self:ParE) (left_2:List TToken) (end_6:Int) (deep_7:Int):Option (TExpr×List TToken×Int×Int) :=
  (p_into left_2 end_6 deep_7).bind fun r16 =>
  (self.p_level r16.1 r16.2.1 r16.2.2 0).bind fun r23 =>
  (p_out r23.2.1 r23.2.2.1 r23.2.2.2).bind fun r32 =>
  some (r23.1,r32.1,r32.2.1,r32.2.2)
def p_level_j1  (l48:List TToken) (i50:Int) (i51:Int) (i52:Int) (i53:Int) (s54:List UInt8) (l57:List TExpr):Option (TExpr×List TToken×Int×Int) :=
  some ((TExpr.mk i52 i53 s54 l57),l48,i50,i51)
def p_level_j2 (p_2:Int) (r16:List TSynLevel) (x182:TSynLevel) (x192:TToken) (k_p_level_l1:(List TToken)→Int→Int→Int→Int→(List UInt8)→(List TExpr)→Option (TExpr×List TToken×Int×Int)) (l215:List TToken) (i217:Int) (i218:Int) (l221:List TExpr):Option (TExpr×List TToken×Int×Int) :=
  (at_ r16 p_2).bind fun x249 =>
  if x249.once=true then
    p_level_j1 l215 i217 i218 ((mget x182.signs x192.Text).getD 0) 0 [] l221
  else
    k_p_level_l1 l215 i217 i218 ((mget x182.signs x192.Text).getD 0) 0 [] l221
def p_level_l1 (self:ParE) (p_2:Int) (r16:List TSynLevel):Nat→(List TToken)→Int→Int→Int→Int→(List UInt8)→(List TExpr)→Option (TExpr×List TToken×Int×Int)
  | 0,_,_,_,_,_,_,_=>none
  | n+1,l114,i116,i117,i118,i119,s120,l123 =>
    if (0:Int)<(l114.length:Int) then
      (at_ r16 p_2).bind fun x182 =>
      (at_ l114 0).bind fun x192 =>
      if ((mget x182.signs x192.Text).getD 0)=0 then
        p_level_j1 l114 i116 i117 i118 i119 s120 l123
      else
        (cut l114 1 l114.length).bind fun l207 =>
        (i64 (p_2+1)).bind fun i231 =>
        (self.p_level l207 i116 i117 i231).bind fun r233 =>
        p_level_j2 p_2 r16 x182 x192 (p_level_l1 self p_2 r16 n) r233.2.1 r233.2.2.1 r233.2.2.2 [(TExpr.mk i118 i119 s120 l123),r233.1]
    else
      p_level_j1 l114 i116 i117 i118 i119 s120 l123
def p_level (fu:Nat) (self:ParE) (left_2:List TToken) (end_6:Int) (deep_7:Int) (p_2:Int):Option (TExpr×List TToken×Int×Int) :=
  (p_levels ).bind fun r16 =>
  if p_2=(r16.length:Int) then
    (self.p_unary left_2 end_6 deep_7).bind fun r23 =>
    some (r23.1,r23.2.1,r23.2.2.1,r23.2.2.2)
  else
    (i64 (p_2+1)).bind fun i33 =>
    (self.p_level left_2 end_6 deep_7 i33).bind fun r35 =>
    p_level_l1 self p_2 r16 fu r35.2.1 r35.2.2.1 r35.2.2.2 r35.1.Kind r35.1.N r35.1.Name r35.1.Kids
def p_unary (self:ParE) (left_2:List TToken) (end_6:Int) (deep_7:Int):Option (TExpr×List TToken×Int×Int) :=
  (p_is left_2 end_6 deep_7 [45]).bind fun r31 =>
  if r31.1=true then
    (p_into r31.2.1 r31.2.2.1 r31.2.2.2).bind fun r38 =>
    (self.p_unary r38.1 r38.2.1 r38.2.2).bind fun r45 =>
    (p_out r45.2.1 r45.2.2.1 r45.2.2.2).bind fun r56 =>
    some ((TExpr.mk 4 0 [] [r45.1]),r56.1,r56.2.1,r56.2.2)
  else
    (p_is r31.2.1 r31.2.2.1 r31.2.2.2 [110,111,116]).bind fun r64 =>
    if r64.1=true then
      (p_into r64.2.1 r64.2.2.1 r64.2.2.2).bind fun r71 =>
      (self.p_unary r71.1 r71.2.1 r71.2.2).bind fun r78 =>
      (p_out r78.2.1 r78.2.2.1 r78.2.2.2).bind fun r89 =>
      some ((TExpr.mk 5 0 [] [r78.1]),r89.1,r89.2.1,r89.2.2)
    else
      (self.p_primary r64.2.1 r64.2.2.1 r64.2.2.2).bind fun r97 =>
      some (r97.1,r97.2.1,r97.2.2.1,r97.2.2.2)
def p_primary_j1 (fu:Nat) (self:ParE) (left_2:List TToken) (end_6:Int) (deep_7:Int) (b16:Bool):Option (TExpr×List TToken×Int×Int) :=
  if b16=true then
    (p_number left_2 end_6 deep_7).bind fun r28 =>
    some ((TExpr.mk 1 r28.1 [] ([]:List TExpr)),r28.2.1,r28.2.2.1,r28.2.2.2)
  else
    (p_is left_2 end_6 deep_7 [116,114,117,101]).bind fun r34 =>
    if r34.1=true then
      some ((TExpr.mk 2 1 [] ([]:List TExpr)),r34.2.1,r34.2.2.1,r34.2.2.2)
    else
      (p_is r34.2.1 r34.2.2.1 r34.2.2.2 [102,97,108,115,101]).bind fun r41 =>
      if r41.1=true then
        some ((TExpr.mk 2 0 [] ([]:List TExpr)),r41.2.1,r41.2.2.1,r41.2.2.2)
      else
        (p_is r41.2.1 r41.2.2.1 r41.2.2.2 [40]).bind fun r48 =>
        if r48.1=true then
          (self.p_expr r48.2.1 r48.2.2.1 r48.2.2.2).bind fun r55 =>
          (p_need r55.2.1 r55.2.2.1 r55.2.2.2 [[41]]).bind fun r70 =>
          some (r55.1,r70.1,r70.2.1,r70.2.2)
        else
          (p_is r48.2.1 r48.2.2.1 r48.2.2.2 [114,101,99,118]).bind fun r76 =>
          if r76.1=true then
            (p_need r76.2.1 r76.2.2.1 r76.2.2.2 [[40]]).bind fun r87 =>
            (p_name fu r87.1 r87.2.1 r87.2.2).bind fun r93 =>
            (p_need r93.2.1 r93.2.2.1 r93.2.2.2 [[41]]).bind fun r105 =>
            some ((TExpr.mk 20 0 r93.1 ([]:List TExpr)),r105.1,r105.2.1,r105.2.2)
          else
            (p_is r76.2.1 r76.2.2.1 r76.2.2.2 [121,105,101,108,100]).bind fun r111 =>
            if r111.1=true then
              (self.p_fixed r111.2.1 r111.2.2.1 r111.2.2.2 21 1).bind fun r118 =>
              some (r118.1,r118.2.1,r118.2.2.1,r118.2.2.2)
            else
              (p_is r111.2.1 r111.2.2.1 r111.2.2.2 [114,101,115,117,109,101]).bind fun r127 =>
              if r127.1=true then
                (self.p_fixed r127.2.1 r127.2.2.1 r127.2.2.2 23 2).bind fun r134 =>
                some (r134.1,r134.2.1,r134.2.2.1,r134.2.2.2)
              else
                (p_is r127.2.1 r127.2.2.1 r127.2.2.2 [97,108,105,118,101]).bind fun r143 =>
                if r143.1=true then
                  (self.p_fixed r143.2.1 r143.2.2.1 r143.2.2.2 24 1).bind fun r150 =>
                  some (r150.1,r150.2.1,r150.2.2.1,r150.2.2.2)
                else
                  (p_is r143.2.1 r143.2.2.1 r143.2.2.2 [115,116,97,114,116]).bind fun r159 =>
                  if r159.1=true then
                    (p_name fu r159.2.1 r159.2.2.1 r159.2.2.2).bind fun r166 =>
                    (self.p_args r166.2.1 r166.2.2.1 r166.2.2.2).bind fun r172 =>
                    some ((TExpr.mk 22 0 r166.1 r172.1),r172.2.1,r172.2.2.1,r172.2.2.2)
                  else
                    (p_name fu r159.2.1 r159.2.2.1 r159.2.2.2).bind fun r181 =>
                    (p_sees r181.2.1 r181.2.2.1 r181.2.2.2 [40]).bind fun r187 =>
                    if r187=true then
                      (self.p_args r181.2.1 r181.2.2.1 r181.2.2.2).bind fun r191 =>
                      some ((TExpr.mk 19 0 r181.1 r191.1),r191.2.1,r191.2.2.1,r191.2.2.2)
                    else
                      some ((TExpr.mk 3 0 r181.1 ([]:List TExpr)),r181.2.1,r181.2.2.1,r181.2.2.2)
def p_primary (fu:Nat) (self:ParE) (left_2:List TToken) (end_6:Int) (deep_7:Int):Option (TExpr×List TToken×Int×Int) :=
  if (0:Int)<(left_2.length:Int) then
    (at_ left_2 0).bind fun x18 =>
    p_primary_j1 fu self left_2 end_6 deep_7 (decide (x18.Kind=2))
  else
    p_primary_j1 fu self left_2 end_6 deep_7 false
def p_args_j1 (self:ParE) (l71:List TExpr) (k_p_args_l1:(List TToken)→Int→Int→(List TExpr)→Option (List TExpr×List TToken×Int×Int)) (l123:List TToken) (i125:Int) (i126:Int):Option (List TExpr×List TToken×Int×Int) :=
  if (l71.length:Int)=6 then
    none
  else
    (self.p_expr l123 i125 i126).bind fun r141 =>
    (app l71 [r141.1]).bind fun l154 =>
    k_p_args_l1 r141.2.1 r141.2.2.1 r141.2.2.2 l154
def p_args_l1 (self:ParE):Nat→(List TToken)→Int→Int→(List TExpr)→Option (List TExpr×List TToken×Int×Int)
  | 0,_,_,_,_=>none
  | n+1,l65,i67,i68,l71 =>
    (p_is l65 i67 i68 [41]).bind fun r114 =>
    if r114.1=true then
      some (l71,r114.2.1,r114.2.2.1,r114.2.2.2)
    else
      if (0:Int)<(l71.length:Int) then
        (p_need r114.2.1 r114.2.2.1 r114.2.2.2 [[44]]).bind fun r132 =>
        p_args_j1 self l71 (p_args_l1 self n) r132.1 r132.2.1 r132.2.2
      else
        p_args_j1 self l71 (p_args_l1 self n) r114.2.1 r114.2.2.1 r114.2.2.2
def p_args (fu:Nat) (self:ParE) (left_2:List TToken) (end_6:Int) (deep_7:Int):Option (List TExpr×List TToken×Int×Int) :=
  (p_need left_2 end_6 deep_7 [[40]]).bind fun r18 =>
  p_args_l1 self fu r18.1 r18.2.1 r18.2.2 []
def p_fixed_j2 (i63:Int) (k_p_fixed_l1:Int→(List TToken)→Int→Int→(List TExpr)→Option (TExpr×List TToken×Int×Int)) (l133:List TToken) (i135:Int) (i136:Int) (l139:List TExpr):Option (TExpr×List TToken×Int×Int) :=
  (i64 (i63+1)).bind fun i160 =>
  k_p_fixed_l1 i160 l133 i135 i136 l139
def p_fixed_j1 (self:ParE) (i63:Int) (l72:List TExpr) (k_p_fixed_l1:Int→(List TToken)→Int→Int→(List TExpr)→Option (TExpr×List TToken×Int×Int)) (l114:List TToken) (i116:Int) (i117:Int):Option (TExpr×List TToken×Int×Int) :=
  (self.p_expr l114 i116 i117).bind fun r141 =>
  (app l72 [r141.1]).bind fun l154 =>
  p_fixed_j2 i63 k_p_fixed_l1 r141.2.1 r141.2.2.1 r141.2.2.2 l154
def p_fixed_l1 (self:ParE) (p_2:Int) (p_3:Int):Nat→Int→(List TToken)→Int→Int→(List TExpr)→Option (TExpr×List TToken×Int×Int)
  | 0,_,_,_,_,_=>none
  | n+1,i63,l66,i68,i69,l72 =>
    if i63<p_3 then
      if (0:Int)<i63 then
        (p_need l66 i68 i69 [[44]]).bind fun r123 =>
        p_fixed_j1 self i63 l72 (p_fixed_l1 self p_2 p_3 n) r123.1 r123.2.1 r123.2.2
      else
        p_fixed_j1 self i63 l72 (p_fixed_l1 self p_2 p_3 n) l66 i68 i69
    else
      (p_need l66 i68 i69 [[41]]).bind fun r166 =>
      some ((TExpr.mk p_2 0 [] l72),r166.1,r166.2.1,r166.2.2)
def p_fixed (self:ParE) (left_2:List TToken) (end_6:Int) (deep_7:Int) (p_2:Int) (p_3:Int):Option (TExpr×List TToken×Int×Int) :=
  (p_need left_2 end_6 deep_7 [[40]]).bind fun r22 =>
  p_fixed_l1 self p_2 p_3 ((p_3 - 0).toNat+1) 0 r22.1 r22.2.1 r22.2.2 []
def ParE_run:Nat→ParE
  | 0=>⟨fun _ _ _=>none,fun _ _ _ _=>none,fun _ _ _=>none,fun _ _ _=>none,fun _ _ _=>none,fun _ _ _ _ _=>none⟩
  | n+1=>⟨p_expr (ParE_run n),p_level n (ParE_run n),p_unary (ParE_run n),p_primary n (ParE_run n),p_args n (ParE_run n),p_fixed (ParE_run n)⟩
structure ParS where
  p_body:(List TToken)→Int→Int→Option (List TStat×List TToken×Int×Int)
  p_stat:(List TToken)→Int→Int→Option (TStat×List TToken×Int×Int)
def p_body_l1 (self:ParS):Nat→(List TToken)→Int→Int→(List TStat)→Option (List TStat×List TToken×Int×Int)
  | 0,_,_,_,_=>none
  | n+1,l62,i65,i66,l69 =>
    (p_is l62 i65 i66 [125]).bind fun r102 =>
    if r102.1=true then
      (p_out r102.2.1 r102.2.2.1 r102.2.2.2).bind fun r132 =>
      some (l69,r132.1,r132.2.1,r132.2.2)
    else
      if (l69.length:Int)=50 then
        none
      else
        (self.p_stat r102.2.1 r102.2.2.1 r102.2.2.2).bind fun r110 =>
        (app l69 [r110.1]).bind fun l129 =>
        p_body_l1 self n r110.2.1 r110.2.2.1 r110.2.2.2 l129
def p_body (fu:Nat) (self:ParS) (left_2:List TToken) (end_6:Int) (deep_7:Int):Option (List TStat×List TToken×Int×Int) :=
  (p_into left_2 end_6 deep_7).bind fun r14 =>
  (p_need r14.1 r14.2.1 r14.2.2 [[123]]).bind fun r25 =>
  p_body_l1 self fu r25.1 r25.2.1 r25.2.2 []
def p_stat_j1  (l26:List TToken) (i28:Int) (i29:Int) (i30:Int) (s31:List UInt8) (i33:Int) (i34:Int) (s35:List UInt8) (l38:List TExpr):Option (TStat×List TToken×Int×Int) :=
  (p_need l26 i28 i29 [[59]]).bind fun r260 =>
  some ((TStat.mk i30 s31 (TExpr.mk i33 i34 s35 l38) ([]:List TStat) ([]:List TStat)),r260.1,r260.2.1,r260.2.2)
def p_stat_j2 (r47:TExpr×List TToken×Int×Int) (r56:List TStat×List TToken×Int×Int) (l73:List TToken) (i75:Int) (i76:Int) (l79:List TStat):Option (TStat×List TToken×Int×Int) :=
  some ((TStat.mk 3 [] (TExpr.mk r47.1.Kind r47.1.N r47.1.Name r47.1.Kids) r56.1 l79),l73,i75,i76)
def p_stat (fu:Nat) (self:ParS) (left_2:List TToken) (end_6:Int) (deep_7:Int):Option (TStat×List TToken×Int×Int) :=
  (p_is left_2 end_6 deep_7 [105,102]).bind fun r40 =>
  if r40.1=true then
    ((ParE_run fu).p_expr r40.2.1 r40.2.2.1 r40.2.2.2).bind fun r47 =>
    (self.p_body r47.2.1 r47.2.2.1 r47.2.2.2).bind fun r56 =>
    (p_is r56.2.1 r56.2.2.1 r56.2.2.2 [101,108,115,101]).bind fun r65 =>
    if r65.1=true then
      (self.p_body r65.2.1 r65.2.2.1 r65.2.2.2).bind fun r82 =>
      p_stat_j2 r47 r56 r82.2.1 r82.2.2.1 r82.2.2.2 r82.1
    else
      p_stat_j2 r47 r56 r65.2.1 r65.2.2.1 r65.2.2.2 []
  else
    (p_is r40.2.1 r40.2.2.1 r40.2.2.2 [119,104,105,108,101]).bind fun r94 =>
    if r94.1=true then
      ((ParE_run fu).p_expr r94.2.1 r94.2.2.1 r94.2.2.2).bind fun r101 =>
      (self.p_body r101.2.1 r101.2.2.1 r101.2.2.2).bind fun r110 =>
      some ((TStat.mk 4 [] (TExpr.mk r101.1.Kind r101.1.N r101.1.Name r101.1.Kids) r110.1 ([]:List TStat)),r110.2.1,r110.2.2.1,r110.2.2.2)
    else
      (p_is r94.2.1 r94.2.2.1 r94.2.2.2 [108,101,116]).bind fun r119 =>
      if r119.1=true then
        (p_name fu r119.2.1 r119.2.2.1 r119.2.2.2).bind fun r126 =>
        (p_need r126.2.1 r126.2.2.1 r126.2.2.2 [[61]]).bind fun r136 =>
        ((ParE_run fu).p_expr r136.1 r136.2.1 r136.2.2).bind fun r142 =>
        p_stat_j1 r142.2.1 r142.2.2.1 r142.2.2.2 1 r126.1 r142.1.Kind r142.1.N r142.1.Name r142.1.Kids
      else
        (p_is r119.2.1 r119.2.2.1 r119.2.2.2 [114,101,116,117,114,110]).bind fun r151 =>
        if r151.1=true then
          ((ParE_run fu).p_expr r151.2.1 r151.2.2.1 r151.2.2.2).bind fun r158 =>
          p_stat_j1 r158.2.1 r158.2.2.1 r158.2.2.2 5 [] r158.1.Kind r158.1.N r158.1.Name r158.1.Kids
        else
          (p_is r151.2.1 r151.2.2.1 r151.2.2.2 [115,116,111,112]).bind fun r167 =>
          if r167.1=true then
            p_stat_j1 r167.2.1 r167.2.2.1 r167.2.2.2 6 [] 0 0 [] []
          else
            (p_is r167.2.1 r167.2.2.1 r167.2.2.2 [115,101,110,100]).bind fun r174 =>
            if r174.1=true then
              (p_name fu r174.2.1 r174.2.2.1 r174.2.2.2).bind fun r181 =>
              ((ParE_run fu).p_expr r181.2.1 r181.2.2.1 r181.2.2.2).bind fun r187 =>
              p_stat_j1 r187.2.1 r187.2.2.1 r187.2.2.2 7 r181.1 r187.1.Kind r187.1.N r187.1.Name r187.1.Kids
            else
              (p_is r174.2.1 r174.2.2.1 r174.2.2.2 [111,117,116]).bind fun r196 =>
              if r196.1=true then
                ((ParE_run fu).p_expr r196.2.1 r196.2.2.1 r196.2.2.2).bind fun r203 =>
                p_stat_j1 r203.2.1 r203.2.2.1 r203.2.2.2 8 [] r203.1.Kind r203.1.N r203.1.Name r203.1.Kids
              else
                (p_is r196.2.1 r196.2.2.1 r196.2.2.2 [100,111]).bind fun r212 =>
                if r212.1=true then
                  ((ParE_run fu).p_expr r212.2.1 r212.2.2.1 r212.2.2.2).bind fun r219 =>
                  p_stat_j1 r219.2.1 r219.2.2.1 r219.2.2.2 9 [] r219.1.Kind r219.1.N r219.1.Name r219.1.Kids
                else
                  (p_name fu r212.2.1 r212.2.2.1 r212.2.2.2).bind fun r228 =>
                  (p_need r228.2.1 r228.2.2.1 r228.2.2.2 [[61]]).bind fun r238 =>
                  ((ParE_run fu).p_expr r238.1 r238.2.1 r238.2.2).bind fun r244 =>
                  p_stat_j1 r244.2.1 r244.2.2.1 r244.2.2.2 2 r228.1 r244.1.Kind r244.1.N r244.1.Name r244.1.Kids
def ParS_run:Nat→ParS
  | 0=>⟨fun _ _ _=>none,fun _ _ _=>none⟩
  | n+1=>⟨p_body n (ParS_run n),p_stat n (ParS_run n)⟩
def p_def_j1 (r29:List UInt8×List TToken×Int×Int) (r35:TType×List TToken×Int×Int) (r46:Int×List TToken×Int×Int) (b52:Bool):Option (TDef×List TToken×Int×Int) :=
  if b52=true then
    none
  else
    (p_need r46.2.1 r46.2.2.1 r46.2.2.2 [[59]]).bind fun r60 =>
    some ((TDef.mk 1 r29.1 (TType.mk r35.1.Kind r35.1.Gen) (TType.mk 0 []) r46.1 ([]:List TParam) ([]:List TStat)),r60.1,r60.2.1,r60.2.2)
def p_def (fu:Nat)  (left_2:List TToken) (end_6:Int) (deep_7:Int):Option (TDef×List TToken×Int×Int) :=
  (p_at left_2 end_6 deep_7).bind fun r19 =>
  (p_is left_2 end_6 deep_7 [98,111,120]).bind fun r22 =>
  if r22.1=true then
    (p_name fu r22.2.1 r22.2.2.1 r22.2.2.2).bind fun r29 =>
    (p_typ fu r29.2.1 r29.2.2.1 r29.2.2.2).bind fun r35 =>
    (p_at r35.2.1 r35.2.2.1 r35.2.2.2).bind fun r43 =>
    (p_number r35.2.1 r35.2.2.1 r35.2.2.2).bind fun r46 =>
    if r46.1<1 then
      p_def_j1 r29 r35 r46 true
    else
      p_def_j1 r29 r35 r46 (decide ((20:Int)<r46.1))
  else
    (p_is r22.2.1 r22.2.2.1 r22.2.2.2 [102,110]).bind fun r66 =>
    if r66.1=true then
      (p_name fu r66.2.1 r66.2.2.1 r66.2.2.2).bind fun r73 =>
      (p_params fu r73.2.1 r73.2.2.1 r73.2.2.2).bind fun r79 =>
      (p_typ fu r79.2.1 r79.2.2.1 r79.2.2.2).bind fun r90 =>
      ((ParS_run fu).p_body r90.2.1 r90.2.2.1 r90.2.2.2).bind fun r96 =>
      some ((TDef.mk 2 r73.1 (TType.mk r90.1.Kind r90.1.Gen) (TType.mk 0 []) 0 r79.1 r96.1),r96.2.1,r96.2.2.1,r96.2.2.2)
    else
      (p_is r66.2.1 r66.2.2.1 r66.2.2.2 [103,101,110]).bind fun r105 =>
      if r105.1=true then
        (p_name fu r105.2.1 r105.2.2.1 r105.2.2.2).bind fun r112 =>
        (p_params fu r112.2.1 r112.2.2.1 r112.2.2.2).bind fun r118 =>
        (p_need r118.2.1 r118.2.2.1 r118.2.2.2 [[116,97,107,101,115]]).bind fun r133 =>
        (p_typ fu r133.1 r133.2.1 r133.2.2).bind fun r139 =>
        (p_need r139.2.1 r139.2.2.1 r139.2.2.2 [[121,105,101,108,100,115]]).bind fun r149 =>
        (p_typ fu r149.1 r149.2.1 r149.2.2).bind fun r155 =>
        ((ParS_run fu).p_body r155.2.1 r155.2.2.1 r155.2.2.2).bind fun r161 =>
        some ((TDef.mk 3 r112.1 (TType.mk r155.1.Kind r155.1.Gen) (TType.mk r139.1.Kind r139.1.Gen) 0 r118.1 r161.1),r161.2.1,r161.2.2.1,r161.2.2.2)
      else
        (p_is r105.2.1 r105.2.2.1 r105.2.2.2 [116,97,115,107]).bind fun r170 =>
        if r170.1=true then
          (p_name fu r170.2.1 r170.2.2.1 r170.2.2.2).bind fun r177 =>
          ((ParS_run fu).p_body r177.2.1 r177.2.2.1 r177.2.2.2).bind fun r183 =>
          some ((TDef.mk 4 r177.1 (TType.mk 0 []) (TType.mk 0 []) 0 ([]:List TParam) r183.1),r183.2.1,r183.2.2.1,r183.2.2.2)
        else
          none
end Go.Y
namespace Go.Y
open Go.Wk Go.Xt
theorem is_swap {α:Type} {l:List TToken} {e d:Int} {k1 k2:List UInt8} (hne:¬ k1=k2) {A B C:Bool×List TToken×Int×Int→Option α} {r:α}
    (h:(Option.bind (p_is l e d k1) fun x=>if x.1=true then A x else Option.bind (p_is x.2.1 x.2.2.1 x.2.2.2 k2) fun y=>if y.1=true then B y else C y)=some r) :
    (Option.bind (p_is l e d k2) fun y=>if y.1=true then B y else Option.bind (p_is y.2.1 y.2.2.1 y.2.2.2 k1) fun x=>if x.1=true then A x else C x)=some r:=by
  have key:∀ k,(p_sees l e d k=some false∧p_is l e d k=some (false,l,e,d))∨(∃ t l',l=t::l'∧t.Text=k∧p_is l e d k=some (true,l',e,d)):=by
    intro k
    cases l with
    | nil=>first | (left; simp [p_sees,p_is]; done) | (exfalso; simp [p_sees,p_is] at h)
    | cons t l' =>
      by_cases hk:t.Text=k
      · right
        refine ⟨t,l',rfl,hk,?_⟩
        have h1:(0:Int)<((l'.length+1:Nat):Int):=by omega
        have h2:(1:Int)≤((l'.length+1:Nat):Int):=by omega
        have hc:cut (t::l') 1 ((t::l').length)=some l':=by
          unfold cut
          rw [if_pos ⟨by omega,by simpa using h2,by simp⟩]
          simp
        have hs:p_sees (t::l') e d k=some true:=by
          unfold p_sees
          rw [if_pos (by simp)]
          simp [at_,hk]
        unfold p_is
        rw [hs,Option.bind_some]
        simp only [if_true]
        rw [hc]
        rfl
      · left
        have h1:(0:Int)<((l'.length+1:Nat):Int):=by omega
        simp [p_is,p_sees,at_,hk,h1]
  rcases key k1 with ⟨s1,i1⟩ | ⟨t,l',hl,ht,i1⟩
  · rw [i1,Option.bind_some] at h
    simp only [Bool.false_eq_true,if_false] at h
    rcases key k2 with ⟨s2,i2⟩ | ⟨t,l',hl,ht,i2⟩
    · rw [i2,Option.bind_some] at h ⊢
      simp only [Bool.false_eq_true,if_false] at h ⊢
      rw [i1,Option.bind_some]
      simpa using h
    · rw [i2,Option.bind_some] at h ⊢
      simp only [if_true] at h ⊢
      exact h
  · rw [i1,Option.bind_some] at h
    simp only [if_true] at h
    rcases key k2 with ⟨s2,i2⟩ | ⟨t2,l2,hl2,ht2,i2⟩
    · rw [i2,Option.bind_some]
      simp only [Bool.false_eq_true,if_false]
      rw [i1,Option.bind_some]
      simpa using h
    · rw [hl] at hl2
      obtain ⟨rfl,rfl⟩:=List.cons.inj hl2
      exact absurd (ht.symm.trans ht2) hne
end Go.Y
namespace Go.Y
open Go.Wk Go.Xt
def p_done:Option Unit:=some ()
def syn_read_j1 (r8:List TToken×TFault) :Option (List TDef×TFault) :=
  some (([]:List TDef),r8.2)
def syn_read_j2 (k_syn_read_l1:(List TToken)→Int→Int→(List TDef)→Option (List TDef×TFault)) (l74:List TToken) (i76:Int) (i77:Int) (l80:List TDef):Option (List TDef×TFault) :=
  k_syn_read_l1 l74 i76 i77 l80
def syn_read_j3 (r109:TFault) :Option (List TDef×TFault) :=
  (p_done ).bind fun r116 =>
  some (([]:List TDef),(TFault.mk r109.Err 0))
def syn_read_j4 (r8:List TToken×TFault) (l46:List TDef) :Option (List TDef×TFault) :=
  (p_done ).bind fun r120 =>
  some (l46,r8.2)
def syn_read_l1 (fu:Nat) (r8:List TToken×TFault):Nat→(List TToken)→Int→Int→(List TDef)→Option (List TDef×TFault)
  | 0,_,_,_,_=>none
  | n+1,l40,i42,i43,l46 =>
    if (0:Int)<(l40.length:Int) then
      if (l46.length:Int)=30 then
        none
      else
        (p_def fu l40 i42 i43).bind fun r82 =>
        (app l46 [r82.1]).bind fun l98 =>
        syn_read_j2 (syn_read_l1 fu r8 n) r82.2.1 r82.2.2.1 r82.2.2.2 l98
    else
      (syn_wrong fu l46).bind fun r109 =>
      if r109.Err≠0 then
        syn_read_j3 r109
      else
        syn_read_j4 r8 l46
def syn_read (fu:Nat)  (p_1:List UInt8):Option (List TDef×TFault) :=
  (lex_tokens fu p_1).bind fun r8 =>
  if r8.2.Err≠0 then
    syn_read_j1 r8
  else
    syn_read_l1 fu r8 fu r8.1 (p_1.length:Int) 0 []
end Go.Y
namespace Go.Y
open Go.Wk Go.Xt
def sema_plain  (p_1:TType):Option Bool :=
  some (decide (p_1.Kind≠3))
def sema_find  (p_1:TSp) (p_2:Int) (p_3:List UInt8):Option (Option TDef×Bool) :=
  if (mget p_1.named p_3).isSome=true then
    ((mget p_1.named p_3)).bind fun x18 =>
    some ((mget p_1.named p_3),decide (x18.Kind=p_2))
  else
    some ((mget p_1.named p_3),false)
def sema_typ  (p_1:TSp) (p_2:TType):Option Int :=
  (sema_plain p_2).bind fun r11 =>
  if r11=true then
    some 0
  else
    (sema_find p_1 3 p_2.Gen).bind fun r15 =>
    if r15.2=true then
      some 0
    else
      some 7
def sema_bare_j1 (p_1:TType) (s8:List UInt8):Option TType :=
  some (TType.mk p_1.Kind s8)
def sema_bare  (p_1:TType):Option TType :=
  (sema_plain p_1).bind fun r5 =>
  if r5=true then
    sema_bare_j1 p_1 []
  else
    sema_bare_j1 p_1 p_1.Gen
def sema_num  :Option TType :=
  some (TType.mk 1 [])
def sema_boolean  :Option TType :=
  some (TType.mk 2 [])
def sema_look_l1 (p_2:List UInt8) (bloc_21:List (List (List UInt8×TType))):Nat→Int→Option (TType×Bool)
  | 0,_=>none
  | n+1,i48 =>
    if (0:Int)≤i48 then
      (at_ bloc_21 i48).bind fun x70 =>
      if (mget x70 p_2).isSome=true then
        some (((mget x70 p_2).getD (TType.mk 0 [])),true)
      else
        (i64 (i48 - 1)).bind fun i88 =>
        sema_look_l1 p_2 bloc_21 n i88
    else
      some ((TType.mk 0 []),false)
def sema_look (fu:Nat)  (prog_2:TSp) (def_11:TDef) (bloc_21:List (List (List UInt8×TType))) (p_2:List UInt8):Option (TType×Bool) :=
  (i64 ((bloc_21.length:Int) - 1)).bind fun i27 =>
  sema_look_l1 p_2 bloc_21 fu i27
structure SemaE where
  sema_typed:TSp→TDef→(List (List (List UInt8×TType)))→TExpr→TType→Option Int
  sema_args:TSp→TDef→(List (List (List UInt8×TType)))→TExpr→Int→Option (Option TDef×Int)
  sema_both:TSp→TDef→(List (List (List UInt8×TType)))→TExpr→Option (TType×Int)
  sema_handle:TSp→TDef→(List (List (List UInt8×TType)))→TExpr→Option (Option TDef×Int)
  sema_expr:TSp→TDef→(List (List (List UInt8×TType)))→TExpr→Option (TType×Int)
def sema_typed_j2  (i44:Int):Option Int :=
  some i44
def sema_typed_j1 (r33:TType×Int) (b38:Bool):Option Int :=
  if b38=true then
    sema_typed_j2 9
  else
    sema_typed_j2 r33.2
def sema_typed (self:SemaE) (prog_2:TSp) (def_11:TDef) (bloc_21:List (List (List UInt8×TType))) (p_2:TExpr) (p_3:TType):Option Int :=
  (self.sema_expr prog_2 def_11 bloc_21 p_2).bind fun r33 =>
  if r33.2=0 then
    (sema_bare p_3).bind fun r40 =>
    sema_typed_j1 r33 (!(andL [(decide (r33.1.Kind=r40.Kind)),(decide (r33.1.Gen=r40.Gen))]))
  else
    sema_typed_j1 r33 false
def sema_args_l1 (self:SemaE) (p_2:TExpr) (prog_2:TSp) (def_11:TDef) (bloc_21:List (List (List UInt8×TType))) (r33:Option TDef×Bool) (x65:TDef):Nat→Int→Option (Option TDef×Int)
  | 0,_=>none
  | n+1,i104 =>
    if i104<(x65.Params.length:Int) then
      (at_ x65.Params i104).bind fun x133 =>
      (at_ p_2.Kids i104).bind fun x143 =>
      (self.sema_typed prog_2 def_11 bloc_21 x143 x133.Typ).bind fun r154 =>
      if r154≠0 then
        some (none,r154)
      else
        (i64 (i104+1)).bind fun i158 =>
        sema_args_l1 self p_2 prog_2 def_11 bloc_21 r33 x65 n i158
    else
      some (r33.1,0)
def sema_args_j1 (self:SemaE) (p_2:TExpr) (prog_2:TSp) (def_11:TDef) (bloc_21:List (List (List UInt8×TType))) (r33:Option TDef×Bool) (b49:Bool):Option (Option TDef×Int) :=
  if b49=true then
    some (none,5)
  else
    (r33.1).bind fun x65 =>
    sema_args_l1 self p_2 prog_2 def_11 bloc_21 r33 x65 (x65.Params.length+1) 0
def sema_args (self:SemaE) (prog_2:TSp) (def_11:TDef) (bloc_21:List (List (List UInt8×TType))) (p_2:TExpr) (p_3:Int):Option (Option TDef×Int) :=
  (sema_find prog_2 p_3 p_2.Name).bind fun r33 =>
  if r33.2=true then
    (r33.1).bind fun x50 =>
    sema_args_j1 self p_2 prog_2 def_11 bloc_21 r33 (decide ((x50.Params.length:Int)≠(p_2.Kids.length:Int)))
  else
    some (none,7)
def sema_both_j2 (r44:TType×Int) (i73:Int):Option (TType×Int) :=
  some (r44.1,i73)
def sema_both_j1 (r44:TType×Int) (r61:TType×Int) (b66:Bool):Option (TType×Int) :=
  if b66=true then
    sema_both_j2 r44 9
  else
    sema_both_j2 r44 r61.2
def sema_both (self:SemaE) (prog_2:TSp) (def_11:TDef) (bloc_21:List (List (List UInt8×TType))) (p_2:TExpr):Option (TType×Int) :=
  (at_ p_2.Kids 0).bind fun x33 =>
  (self.sema_expr prog_2 def_11 bloc_21 x33).bind fun r44 =>
  if r44.2≠0 then
    some (r44.1,r44.2)
  else
    (at_ p_2.Kids 1).bind fun x50 =>
    (self.sema_expr prog_2 def_11 bloc_21 x50).bind fun r61 =>
    if r61.2=0 then
      if (andL [(decide (r44.1.Kind=r61.1.Kind)),(decide (r44.1.Gen=r61.1.Gen))])=true then
        (sema_plain r44.1).bind fun r69 =>
        sema_both_j1 r44 r61 (!r69)
      else
        sema_both_j1 r44 r61 true
    else
      sema_both_j1 r44 r61 false
def sema_handle (self:SemaE) (prog_2:TSp) (def_11:TDef) (bloc_21:List (List (List UInt8×TType))) (p_2:TExpr):Option (Option TDef×Int) :=
  (self.sema_expr prog_2 def_11 bloc_21 p_2).bind fun r33 =>
  if r33.2≠0 then
    some (none,r33.2)
  else
    (sema_plain r33.1).bind fun r39 =>
    if r39=true then
      some (none,9)
    else
      some ((mget prog_2.named r33.1.Gen),0)
def sema_expr_j1  (i52:Int) (i53:Int) (s54:List UInt8):Option (TType×Int) :=
  some ((TType.mk i53 s54),i52)
def sema_expr_j2  (i77:Int) (i78:Int) (s79:List UInt8):Option (TType×Int) :=
  some ((TType.mk i78 s79),i77)
def sema_expr_j4  (i170:Int) (i171:Int) (s172:List UInt8):Option (TType×Int) :=
  some ((TType.mk i171 s172),i170)
def sema_expr_j5  (i218:Int) (i219:Int) (s220:List UInt8):Option (TType×Int) :=
  some ((TType.mk i219 s220),i218)
def sema_expr_l1 (self:SemaE) (p_2:TExpr) (prog_2:TSp) (def_11:TDef) (bloc_21:List (List (List UInt8×TType))) (i282:Int) (s283:List UInt8) (i284:Int) (s285:List UInt8):Nat→Int→Option (TType×Int)
  | 0,_=>none
  | n+1,i314 =>
    if i314<(p_2.Kids.length:Int) then
      (at_ p_2.Kids i314).bind fun x333 =>
      (self.sema_typed prog_2 def_11 bloc_21 x333 (TType.mk i282 s283)).bind fun r344 =>
      if r344≠0 then
        some ((TType.mk i284 s285),r344)
      else
        (i64 (i314+1)).bind fun i348 =>
        sema_expr_l1 self p_2 prog_2 def_11 bloc_21 i282 s283 i284 s285 n i348
    else
      some ((TType.mk i284 s285),0)
def sema_expr_j6 (self:SemaE) (p_2:TExpr) (prog_2:TSp) (def_11:TDef) (bloc_21:List (List (List UInt8×TType))) (i282:Int) (s283:List UInt8) (i284:Int) (s285:List UInt8):Option (TType×Int) :=
  sema_expr_l1 self p_2 prog_2 def_11 bloc_21 i282 s283 i284 s285 (p_2.Kids.length+1) 0
def sema_expr_j3 (self:SemaE) (p_2:TExpr) (prog_2:TSp) (def_11:TDef) (bloc_21:List (List (List UInt8×TType))) (b101:Bool):Option (TType×Int) :=
  if b101=true then
    (self.sema_both prog_2 def_11 bloc_21 p_2).bind fun r105 =>
    (sema_boolean ).bind fun r110 =>
    some (r110,r105.2)
  else
    if p_2.Kind=19 then
      (self.sema_args prog_2 def_11 bloc_21 p_2 2).bind fun r114 =>
      if r114.2≠0 then
        (sema_num ).bind fun r120 =>
        some (r120,r114.2)
      else
        (r114.1).bind fun x123 =>
        (sema_bare x123.Typ).bind fun r136 =>
        some (r136,0)
    else
      if p_2.Kind=20 then
        (sema_find prog_2 1 p_2.Name).bind fun r140 =>
        if r140.2=true then
          (r140.1).bind fun x149 =>
          (sema_bare x149.Typ).bind fun r162 =>
          some (r162,0)
        else
          (sema_num ).bind fun r146 =>
          some (r146,7)
      else
        if p_2.Kind=21 then
          if def_11.Kind≠3 then
            (sema_num ).bind fun r167 =>
            some (r167,8)
          else
            (at_ p_2.Kids 0).bind fun x173 =>
            (sema_bare def_11.Takes).bind fun r184 =>
            (self.sema_typed prog_2 def_11 bloc_21 x173 def_11.Typ).bind fun r187 =>
            sema_expr_j4 r187 r184.Kind r184.Gen
        else
          if p_2.Kind=22 then
            (self.sema_args prog_2 def_11 bloc_21 p_2 3).bind fun r192 =>
            some ((TType.mk 3 p_2.Name),r192.2)
          else
            if p_2.Kind=23 then
              (at_ p_2.Kids 0).bind fun x198 =>
              (self.sema_handle prog_2 def_11 bloc_21 x198).bind fun r209 =>
              if r209.2≠0 then
                (sema_num ).bind fun r215 =>
                some (r215,r209.2)
              else
                (r209.1).bind fun x221 =>
                (at_ p_2.Kids 1).bind fun x234 =>
                (sema_bare x221.Typ).bind fun r245 =>
                (self.sema_typed prog_2 def_11 bloc_21 x234 x221.Takes).bind fun r248 =>
                sema_expr_j5 r248 r245.Kind r245.Gen
            else
              if p_2.Kind=24 then
                (at_ p_2.Kids 0).bind fun x253 =>
                (self.sema_handle prog_2 def_11 bloc_21 x253).bind fun r264 =>
                (sema_boolean ).bind fun r269 =>
                some (r269,r264.2)
              else
                (sema_num ).bind fun r272 =>
                (sema_num ).bind fun r275 =>
                if (17:Int)≤p_2.Kind then
                  (sema_boolean ).bind fun r287 =>
                  (sema_boolean ).bind fun r290 =>
                  sema_expr_j6 self p_2 prog_2 def_11 bloc_21 r287.Kind r287.Gen r290.Kind r290.Gen
                else
                  if (13:Int)≤p_2.Kind then
                    (sema_boolean ).bind fun r294 =>
                    sema_expr_j6 self p_2 prog_2 def_11 bloc_21 r272.Kind r272.Gen r294.Kind r294.Gen
                  else
                    sema_expr_j6 self p_2 prog_2 def_11 bloc_21 r272.Kind r272.Gen r275.Kind r275.Gen
def sema_expr (fu:Nat) (self:SemaE) (prog_2:TSp) (def_11:TDef) (bloc_21:List (List (List UInt8×TType))) (p_2:TExpr):Option (TType×Int) :=
  if p_2.Kind=1 then
    (sema_num ).bind fun r34 =>
    some (r34,0)
  else
    if p_2.Kind=2 then
      (sema_boolean ).bind fun r38 =>
      some (r38,0)
    else
      if p_2.Kind=3 then
        (sema_look fu prog_2 def_11 bloc_21 p_2.Name).bind fun r42 =>
        if r42.2=true then
          some (r42.1,0)
        else
          (sema_num ).bind fun r48 =>
          some (r48,7)
      else
        if p_2.Kind=4 then
          (at_ p_2.Kids 0).bind fun x55 =>
          (sema_num ).bind fun r66 =>
          (sema_num ).bind fun r69 =>
          (self.sema_typed prog_2 def_11 bloc_21 x55 r69).bind fun r72 =>
          sema_expr_j1 r72 r66.Kind r66.Gen
        else
          if p_2.Kind=5 then
            (at_ p_2.Kids 0).bind fun x80 =>
            (sema_boolean ).bind fun r91 =>
            (sema_boolean ).bind fun r94 =>
            (self.sema_typed prog_2 def_11 bloc_21 x80 r94).bind fun r97 =>
            sema_expr_j2 r97 r91.Kind r91.Gen
          else
            if p_2.Kind=11 then
              sema_expr_j3 self p_2 prog_2 def_11 bloc_21 (decide (p_2.Kind=11))
            else
              sema_expr_j3 self p_2 prog_2 def_11 bloc_21 (decide (p_2.Kind=12))
def SemaE_run:Nat→SemaE
  | 0=>⟨fun _ _ _ _ _=>none,fun _ _ _ _ _=>none,fun _ _ _ _=>none,fun _ _ _ _=>none,fun _ _ _ _=>none⟩
  | n+1=>⟨sema_typed (SemaE_run n),sema_args (SemaE_run n),sema_both (SemaE_run n),sema_handle (SemaE_run n),sema_expr n (SemaE_run n)⟩
end Go.Y
namespace Go.Y
open Go.Wk Go.Xt
def sema_pop_j1  (l31:List (List (List UInt8×TType))):Option (List (List (List UInt8×TType))) :=
  some l31
def sema_pop  (prog_3:TSp) (def_12:TDef) (bloc_22:List (List (List UInt8×TType))):Option (List (List (List UInt8×TType))) :=
  (i64 ((bloc_22.length:Int) - 1)).bind fun i33 =>
  (cut bloc_22 0 i33).bind fun l35 =>
  sema_pop_j1 l35
structure SemaS where
  sema_stats:TSp→TDef→(List (List (List UInt8×TType)))→(List TStat)→Option (Int×List (List (List UInt8×TType)))
  sema_stat:TSp→TDef→(List (List (List UInt8×TType)))→TStat→Option (Int×List (List (List UInt8×TType)))
def sema_stats_l1 (self:SemaS) (p_2:List TStat) (prog_2:TSp) (def_11:TDef):Nat→Int→(List (List (List UInt8×TType)))→Option (Int×List (List (List UInt8×TType)))
  | 0,_,_=>none
  | n+1,i74,l77 =>
    if i74<(p_2.length:Int) then
      (at_ p_2 i74).bind fun x107 =>
      (self.sema_stat prog_2 def_11 l77 x107).bind fun r124 =>
      if r124.1≠0 then
        (sema_pop prog_2 def_11 r124.2).bind fun r131 =>
        some (r124.1,r131)
      else
        (i64 (i74+1)).bind fun i137 =>
        sema_stats_l1 self p_2 prog_2 def_11 n i137 r124.2
    else
      (sema_pop prog_2 def_11 l77).bind fun r139 =>
      some (0,r139)
def sema_stats_j1 (self:SemaS) (p_2:List TStat) (prog_2:TSp) (def_11:TDef) (l35:List (List (List UInt8×TType))):Option (Int×List (List (List UInt8×TType))) :=
  sema_stats_l1 self p_2 prog_2 def_11 (p_2.length+1) 0 l35
def sema_stats (self:SemaS) (prog_2:TSp) (def_11:TDef) (bloc_21:List (List (List UInt8×TType))) (p_2:List TStat):Option (Int×List (List (List UInt8×TType))) :=
  (app bloc_21 [[]]).bind fun l41 =>
  sema_stats_j1 self p_2 prog_2 def_11 l41
def sema_stat_j1  (l42:List (List (List UInt8×TType))):Option (Int×List (List (List UInt8×TType))) :=
  some (0,l42)
def sema_stat_j3 (self:SemaS) (p_2:TStat) (prog_2:TSp) (def_11:TDef) (r95:Int×List (List (List UInt8×TType))) (b101:Bool):Option (Int×List (List (List UInt8×TType))) :=
  if b101=true then
    some (r95.1,r95.2)
  else
    (self.sema_stats prog_2 def_11 r95.2 p_2.Else).bind fun r105 =>
    some (r105.1,r105.2)
def sema_stat_j5 (bloc_21:List (List (List UInt8×TType))) (i153:Int):Option (Int×List (List (List UInt8×TType))) :=
  some (i153,bloc_21)
def sema_stat_j4 (bloc_21:List (List (List UInt8×TType))) (r142:TType×Int) (b147:Bool):Option (Int×List (List (List UInt8×TType))) :=
  if b147=true then
    sema_stat_j5 bloc_21 9
  else
    sema_stat_j5 bloc_21 r142.2
def sema_stat_j2 (fu:Nat) (self:SemaS) (p_2:TStat) (prog_2:TSp) (def_11:TDef) (bloc_21:List (List (List UInt8×TType))) (b84:Bool):Option (Int×List (List (List UInt8×TType))) :=
  if b84=true then
    (sema_boolean ).bind fun r88 =>
    ((SemaE_run fu).sema_typed prog_2 def_11 bloc_21 p_2.X r88).bind fun r91 =>
    if r91≠0 then
      some (r91,bloc_21)
    else
      (self.sema_stats prog_2 def_11 bloc_21 p_2.Body).bind fun r95 =>
      if r95.1≠0 then
        sema_stat_j3 self p_2 prog_2 def_11 r95 true
      else
        sema_stat_j3 self p_2 prog_2 def_11 r95 (decide (p_2.Kind=4))
  else
    if p_2.Kind=5 then
      if def_11.Kind≠2 then
        some (8,bloc_21)
      else
        ((SemaE_run fu).sema_typed prog_2 def_11 bloc_21 p_2.X def_11.Typ).bind fun r113 =>
        some (r113,bloc_21)
    else
      if p_2.Kind=6 then
        if def_11.Kind=2 then
          some (8,bloc_21)
        else
          sema_stat_j1 bloc_21
      else
        if p_2.Kind=7 then
          (sema_find prog_2 1 p_2.Name).bind fun r119 =>
          if r119.2=true then
            (r119.1).bind fun x125 =>
            ((SemaE_run fu).sema_typed prog_2 def_11 bloc_21 p_2.X x125.Typ).bind fun r138 =>
            some (r138,bloc_21)
          else
            some (7,bloc_21)
        else
          if p_2.Kind=8 then
            ((SemaE_run fu).sema_expr prog_2 def_11 bloc_21 p_2.X).bind fun r142 =>
            if r142.2=0 then
              (sema_plain r142.1).bind fun r149 =>
              sema_stat_j4 bloc_21 r142 (!r149)
            else
              sema_stat_j4 bloc_21 r142 false
          else
            if p_2.Kind=9 then
              ((SemaE_run fu).sema_expr prog_2 def_11 bloc_21 p_2.X).bind fun r157 =>
              some (r157.2,bloc_21)
            else
              sema_stat_j1 bloc_21
def sema_stat (fu:Nat) (self:SemaS) (prog_2:TSp) (def_11:TDef) (bloc_21:List (List (List UInt8×TType))) (p_2:TStat):Option (Int×List (List (List UInt8×TType))) :=
  if p_2.Kind=1 then
    ((SemaE_run fu).sema_expr prog_2 def_11 bloc_21 p_2.X).bind fun r45 =>
    if r45.2≠0 then
      some (r45.2,bloc_21)
    else
      (sema_look fu prog_2 def_11 bloc_21 p_2.Name).bind fun r51 =>
      if r51.2=true then
        some (7,bloc_21)
      else
        (i64 ((bloc_21.length:Int) - 1)).bind fun i57 =>
        (at_ bloc_21 i57).bind fun x59 =>
        sema_stat_j1 (bloc_21.set i57.toNat (mput x59 p_2.Name r45.1))
  else
    if p_2.Kind=2 then
      (sema_look fu prog_2 def_11 bloc_21 p_2.Name).bind fun r75 =>
      if r75.2=true then
        ((SemaE_run fu).sema_typed prog_2 def_11 bloc_21 p_2.X r75.1).bind fun r81 =>
        some (r81,bloc_21)
      else
        some (7,bloc_21)
    else
      if p_2.Kind=3 then
        sema_stat_j2 fu self p_2 prog_2 def_11 bloc_21 (decide (p_2.Kind=3))
      else
        sema_stat_j2 fu self p_2 prog_2 def_11 bloc_21 (decide (p_2.Kind=4))
def SemaS_run:Nat→SemaS
  | 0=>⟨fun _ _ _ _=>none,fun _ _ _ _=>none⟩
  | n+1=>⟨sema_stats (SemaS_run n),sema_stat n (SemaS_run n)⟩
def sema_head_j3  (b107:Bool):Option Int :=
  if b107=true then
    some 9
  else
    some 0
def sema_head_j2 (p_2:TDef) :Option Int :=
  if p_2.Kind=3 then
    (sema_plain p_2.Takes).bind fun r109 =>
    if r109=true then
      if p_2.Kind≠4 then
        (sema_plain p_2.Typ).bind fun r114 =>
        sema_head_j3 (!r114)
      else
        sema_head_j3 false
    else
      sema_head_j3 true
  else
    if p_2.Kind≠4 then
      (sema_plain p_2.Typ).bind fun r118 =>
      sema_head_j3 (!r118)
    else
      sema_head_j3 false
def sema_head_l1 (p_1:TSp) (p_2:TDef):Nat→Int→(List (List UInt8×Int))→Option Int
  | 0,_,_=>none
  | n+1,i48,l51 =>
    if i48<(p_2.Params.length:Int) then
      (at_ p_2.Params i48).bind fun x80 =>
      (i64 (((mget l51 x80.Name).getD 0)+1)).bind fun i92 =>
      if (1:Int)<((mget (mput l51 x80.Name i92) x80.Name).getD 0) then
        some 7
      else
        (sema_typ p_1 x80.Typ).bind fun r100 =>
        if r100≠0 then
          some r100
        else
          (i64 (i48+1)).bind fun i104 =>
          sema_head_l1 p_1 p_2 n i104 (mput l51 x80.Name i92)
    else
      sema_head_j2 p_2
def sema_head_j1 (p_1:TSp) (p_2:TDef) (b20:Bool):Option Int :=
  if b20=true then
    sema_head_l1 p_1 p_2 (p_2.Params.length+1) 0 ([]:List (List UInt8×Int))
  else
    sema_head_j2 p_2
def sema_head  (p_1:TSp) (p_2:TDef):Option Int :=
  if p_2.Kind=2 then
    sema_head_j1 p_1 p_2 true
  else
    sema_head_j1 p_1 p_2 (decide (p_2.Kind=3))
def sema_body_j1 (fu:Nat) (p_1:TSp) (p_2:TDef) (l30:List (List (List UInt8×TType))):Option Int :=
  ((SemaS_run fu).sema_stats p_1 p_2 l30 p_2.Body).bind fun r139 =>
  some r139.1
def sema_body_j2 (i63:Int) (k_sema_body_l1:Int→(List (List (List UInt8×TType)))→Option Int) (l113:List (List (List UInt8×TType))):Option Int :=
  (i64 (i63+1)).bind fun i135 =>
  k_sema_body_l1 i135 l113
def sema_body_l1 (fu:Nat) (p_1:TSp) (p_2:TDef):Nat→Int→(List (List (List UInt8×TType)))→Option Int
  | 0,_,_=>none
  | n+1,i63,l66 =>
    if i63<(p_2.Params.length:Int) then
      (at_ p_2.Params i63).bind fun x101 =>
      (at_ l66 0).bind fun x115 =>
      (sema_bare x101.Typ).bind fun r126 =>
      sema_body_j2 i63 (sema_body_l1 fu p_1 p_2 n) (l66.set (0:Int).toNat (mput x115 x101.Name r126))
    else
      sema_body_j1 fu p_1 p_2 l66
def sema_body (fu:Nat)  (p_1:TSp) (p_2:TDef):Option Int :=
  if p_2.Kind=1 then
    some 0
  else
    if p_2.Kind≠4 then
      sema_body_l1 fu p_1 p_2 (p_2.Params.length+1) 0 [([]:List (List UInt8×TType))]
    else
      sema_body_j1 fu p_1 p_2 [([]:List (List UInt8×TType))]
def sema_named_l3 (fu:Nat) (p_1:List TDef) (l98:List (List UInt8×TDef)):Nat→Int→Option (TSp×TFault)
  | 0,_=>none
  | n+1,i329 =>
    if i329<(p_1.length:Int) then
      (at_ p_1 i329).bind fun x351 =>
      (sema_body fu (TSp.mk p_1 l98) x351).bind fun r365 =>
      if r365≠0 then
        some ((TSp.mk p_1 l98),(TFault.mk r365 i329))
      else
        (i64 (i329+1)).bind fun i369 =>
        sema_named_l3 fu p_1 l98 n i369
    else
      some ((TSp.mk p_1 l98),(TFault.mk 0 0))
def sema_named_l2 (fu:Nat) (p_1:List TDef) (l98:List (List UInt8×TDef)):Nat→Int→Option (TSp×TFault)
  | 0,_=>none
  | n+1,i270 =>
    if i270<(p_1.length:Int) then
      (at_ p_1 i270).bind fun x292 =>
      (sema_head (TSp.mk p_1 l98) x292).bind fun r306 =>
      if r306≠0 then
        some ((TSp.mk p_1 l98),(TFault.mk r306 i270))
      else
        (i64 (i270+1)).bind fun i310 =>
        sema_named_l2 fu p_1 l98 n i310
    else
      sema_named_l3 fu p_1 l98 (p_1.length+1) 0
def sema_named_l1 (fu:Nat) (p_1:List TDef):Nat→Int→Int→(List (List UInt8×TDef))→Option (TSp×TFault)
  | 0,_,_,_=>none
  | n+1,i94,i95,l98 =>
    if i95<(p_1.length:Int) then
      (at_ p_1 i95).bind fun x169 =>
      if (mget l98 x169.Name).isSome=true then
        some ((TSp.mk p_1 l98),(TFault.mk 7 i95))
      else
        (at_ p_1 i95).bind fun x190 =>
        (at_ p_1 i95).bind fun x204 =>
        (at_ p_1 i95).bind fun x221 =>
        if x221.Kind=4 then
          (i64 (i94+1)).bind fun i236 =>
          (i64 (i95+1)).bind fun i238 =>
          sema_named_l1 fu p_1 n i236 i238 (mput l98 x190.Name x204)
        else
          (i64 (i95+1)).bind fun i240 =>
          sema_named_l1 fu p_1 n i94 i240 (mput l98 x190.Name x204)
    else
      if i94=0 then
        some ((TSp.mk p_1 l98),(TFault.mk 6 (p_1.length:Int)))
      else
        sema_named_l2 fu p_1 l98 (p_1.length+1) 0
def sema_named (fu:Nat)  (p_1:List TDef):Option (TSp×TFault) :=
  (syn_wrong fu p_1).bind fun r18 =>
  if r18.Err≠0 then
    some ((TSp.mk p_1 ([]:List (List UInt8×TDef))),r18)
  else
    sema_named_l1 fu p_1 (p_1.length+1) 0 0 ([]:List (List UInt8×TDef))
end Go.Y
namespace Go.Y
open Go.Wk Go.Xt
structure SemaU where
  uses_expr:(List (List UInt8))→(List (List UInt8))→(List (List UInt8))→TExpr→Option (List (List UInt8)×List (List UInt8)×List (List UInt8))
def uses_expr_l1 (self:SemaU) (p_2:TExpr):Nat→Int→(List (List UInt8))→(List (List UInt8))→(List (List UInt8))→Option (List (List UInt8)×List (List UInt8)×List (List UInt8))
  | 0,_,_,_,_=>none
  | n+1,i96,l99,l103,l107 =>
    if i96<(p_2.Kids.length:Int) then
      (at_ p_2.Kids i96).bind fun x139 =>
      (self.uses_expr l99 l103 l107 x139).bind fun r150 =>
      (i64 (i96+1)).bind fun i162 =>
      uses_expr_l1 self p_2 n i162 r150.1 r150.2.1 r150.2.2
    else
      some (l99,l103,l107)
def uses_expr_j1 (self:SemaU) (p_2:TExpr) (send_6:List (List UInt8)) (l31:List (List UInt8)) (l35:List (List UInt8)):Option (List (List UInt8)×List (List UInt8)×List (List UInt8)) :=
  uses_expr_l1 self p_2 (p_2.Kids.length+1) 0 l31 send_6 l35
def uses_expr_j3 (self:SemaU) (p_2:TExpr) (send_6:List (List UInt8)) (recv_10:List (List UInt8)) (l43:List (List UInt8)):Option (List (List UInt8)×List (List UInt8)×List (List UInt8)) :=
  uses_expr_j1 self p_2 send_6 l43 recv_10
def uses_expr_j4 (self:SemaU) (call_2:List (List UInt8)) (p_2:TExpr) (send_6:List (List UInt8)) (l57:List (List UInt8)):Option (List (List UInt8)×List (List UInt8)×List (List UInt8)) :=
  uses_expr_j1 self p_2 send_6 call_2 l57
def uses_expr_j2 (self:SemaU) (call_2:List (List UInt8)) (p_2:TExpr) (send_6:List (List UInt8)) (recv_10:List (List UInt8)) (b37:Bool):Option (List (List UInt8)×List (List UInt8)×List (List UInt8)) :=
  if b37=true then
    (app call_2 [p_2.Name]).bind fun l49 =>
    uses_expr_j3 self p_2 send_6 recv_10 l49
  else
    if p_2.Kind=20 then
      (app recv_10 [p_2.Name]).bind fun l63 =>
      uses_expr_j4 self call_2 p_2 send_6 l63
    else
      uses_expr_j1 self p_2 send_6 call_2 recv_10
def uses_expr (self:SemaU) (call_2:List (List UInt8)) (send_6:List (List UInt8)) (recv_10:List (List UInt8)) (p_2:TExpr):Option (List (List UInt8)×List (List UInt8)×List (List UInt8)) :=
  if p_2.Kind=19 then
    uses_expr_j2 self call_2 p_2 send_6 recv_10 (decide (p_2.Kind=19))
  else
    uses_expr_j2 self call_2 p_2 send_6 recv_10 (decide (p_2.Kind=22))
def SemaU_run:Nat→SemaU
  | 0=>⟨fun _ _ _ _=>none⟩
  | n+1=>⟨uses_expr (SemaU_run n)⟩
structure SemaV where
  uses_stats:(List (List UInt8))→(List (List UInt8))→(List (List UInt8))→(List TStat)→Option (List (List UInt8)×List (List UInt8)×List (List UInt8))
def uses_stats_j5 (self:SemaV) (i130:Int) (x252:TStat) (k_uses_stats_l1:Int→(List (List UInt8))→(List (List UInt8))→(List (List UInt8))→Option (List (List UInt8)×List (List UInt8)×List (List UInt8))) (l323:List (List UInt8)) (l327:List (List UInt8)) (l331:List (List UInt8)):Option (List (List UInt8)×List (List UInt8)×List (List UInt8)) :=
  if x252.Kind=3 then
    (self.uses_stats l323 l327 l331 x252.Else).bind fun r351 =>
    (i64 (i130+1)).bind fun i363 =>
    k_uses_stats_l1 i363 r351.1 r351.2.1 r351.2.2
  else
    (i64 (i130+1)).bind fun i365 =>
    k_uses_stats_l1 i365 l323 l327 l331
def uses_stats_j4 (self:SemaV) (i130:Int) (x252:TStat) (l291:List (List UInt8)) (l295:List (List UInt8)) (l299:List (List UInt8)) (k_uses_stats_l1:Int→(List (List UInt8))→(List (List UInt8))→(List (List UInt8))→Option (List (List UInt8)×List (List UInt8)×List (List UInt8))) (b318:Bool):Option (List (List UInt8)×List (List UInt8)×List (List UInt8)) :=
  if b318=true then
    (self.uses_stats l291 l295 l299 x252.Body).bind fun r334 =>
    uses_stats_j5 self i130 x252 k_uses_stats_l1 r334.1 r334.2.1 r334.2.2
  else
    uses_stats_j5 self i130 x252 k_uses_stats_l1 l291 l295 l299
def uses_stats_j3 (self:SemaV) (i130:Int) (x252:TStat) (k_uses_stats_l1:Int→(List (List UInt8))→(List (List UInt8))→(List (List UInt8))→Option (List (List UInt8)×List (List UInt8)×List (List UInt8))) (l291:List (List UInt8)) (l295:List (List UInt8)) (l299:List (List UInt8)):Option (List (List UInt8)×List (List UInt8)×List (List UInt8)) :=
  if x252.Kind=3 then
    uses_stats_j4 self i130 x252 l291 l295 l299 k_uses_stats_l1 true
  else
    uses_stats_j4 self i130 x252 l291 l295 l299 k_uses_stats_l1 (decide (x252.Kind=4))
def uses_stats_j1 (fu:Nat) (self:SemaV) (i130:Int) (l133:List (List UInt8)) (l141:List (List UInt8)) (x252:TStat) (k_uses_stats_l1:Int→(List (List UInt8))→(List (List UInt8))→(List (List UInt8))→Option (List (List UInt8)×List (List UInt8)×List (List UInt8))) (l271:List (List UInt8)):Option (List (List UInt8)×List (List UInt8)×List (List UInt8)) :=
  if x252.Kind≠6 then
    ((SemaU_run fu).uses_expr l133 l271 l141 x252.X).bind fun r302 =>
    uses_stats_j3 self i130 x252 k_uses_stats_l1 r302.1 r302.2.1 r302.2.2
  else
    uses_stats_j3 self i130 x252 k_uses_stats_l1 l133 l271 l141
def uses_stats_j2 (fu:Nat) (self:SemaV) (i130:Int) (l133:List (List UInt8)) (l141:List (List UInt8)) (x252:TStat) (k_uses_stats_l1:Int→(List (List UInt8))→(List (List UInt8))→(List (List UInt8))→Option (List (List UInt8)×List (List UInt8)×List (List UInt8))) (l276:List (List UInt8)):Option (List (List UInt8)×List (List UInt8)×List (List UInt8)) :=
  uses_stats_j1 fu self i130 l133 l141 x252 k_uses_stats_l1 l276
def uses_stats_l1 (fu:Nat) (self:SemaV) (p_2:List TStat):Nat→Int→(List (List UInt8))→(List (List UInt8))→(List (List UInt8))→Option (List (List UInt8)×List (List UInt8)×List (List UInt8))
  | 0,_,_,_,_=>none
  | n+1,i130,l133,l137,l141 =>
    if i130<(p_2.length:Int) then
      (at_ p_2 i130).bind fun x252 =>
      if x252.Kind=7 then
        (app l137 [x252.Name]).bind fun l282 =>
        uses_stats_j2 fu self i130 l133 l141 x252 (uses_stats_l1 fu self p_2 n) l282
      else
        uses_stats_j1 fu self i130 l133 l141 x252 (uses_stats_l1 fu self p_2 n) l137
    else
      some (l133,l137,l141)
def uses_stats (fu:Nat) (self:SemaV) (call_2:List (List UInt8)) (send_6:List (List UInt8)) (recv_10:List (List UInt8)) (p_2:List TStat):Option (List (List UInt8)×List (List UInt8)×List (List UInt8)) :=
  uses_stats_l1 fu self p_2 (p_2.length+1) 0 call_2 send_6 recv_10
def SemaV_run:Nat→SemaV
  | 0=>⟨fun _ _ _ _=>none⟩
  | n+1=>⟨uses_stats n (SemaV_run n)⟩
def sema_reach_l2 (p_1:TSp) (r550:List (List UInt8)×List (List UInt8)×List (List UInt8)) (l572:List (List UInt8)) (l576:List (List UInt8)) (k_sema_reach_l1:(List (List UInt8))→(List (Option TDef))→(List (List UInt8))→(List (List UInt8))→Option TSemaUses):Nat→Int→(List (List UInt8))→(List (Option TDef))→Option TSemaUses
  | 0,_,_,_=>none
  | n+1,i652,l655,l659 =>
    if i652<(r550.1.length:Int) then
      (at_ r550.1 i652).bind fun x710 =>
      if l655.contains x710=true then
        (i64 (i652+1)).bind fun i748 =>
        sema_reach_l2 p_1 r550 l572 l576 k_sema_reach_l1 n i748 l655 l659
      else
        (app l655 [x710]).bind fun l730 =>
        (app l659 [(mget p_1.named x710)]).bind fun l743 =>
        (i64 (i652+1)).bind fun i746 =>
        sema_reach_l2 p_1 r550 l572 l576 k_sema_reach_l1 n i746 l730 l743
    else
      k_sema_reach_l1 l655 l659 l572 l576
def sema_reach_j1 (p_1:TSp) (l264:List (List UInt8)) (l523:List (Option TDef)) (r550:List (List UInt8)×List (List UInt8)×List (List UInt8)) (k_sema_reach_l1:(List (List UInt8))→(List (Option TDef))→(List (List UInt8))→(List (List UInt8))→Option TSemaUses) (l564:List (List UInt8)) (l568:List (List UInt8)) (l572:List (List UInt8)) (l576:List (List UInt8)):Option TSemaUses :=
  sema_reach_l2 p_1 r550 l572 l576 k_sema_reach_l1 (r550.1.length+1) 0 l264 l523
def sema_reach_l1 (fu:Nat) (p_1:TSp):Nat→(List (List UInt8))→(List (Option TDef))→(List (List UInt8))→(List (List UInt8))→Option TSemaUses
  | 0,_,_,_,_=>none
  | n+1,l264,l268,l272,l276 =>
    if (0:Int)<(l268.length:Int) then
      (at_ l268 0).bind fun x507 =>
      (cut l268 1 l268.length).bind fun l523 =>
      (x507).bind fun x534 =>
      ((SemaV_run fu).uses_stats ([]:List (List UInt8)) ([]:List (List UInt8)) ([]:List (List UInt8)) x534.Body).bind fun r550 =>
      (app l272 r550.2.1).bind fun l585 =>
      (app l276 r550.2.2).bind fun l597 =>
      sema_reach_j1 p_1 l264 l523 r550 (sema_reach_l1 fu p_1 n) r550.2.1 r550.2.2 l585 l597
    else
      some (TSemaUses.mk ([]:List (List UInt8)) l272 l276)
def sema_reach (fu:Nat)  (p_1:TSp) (p_2:TDef):Option TSemaUses :=
  sema_reach_l1 fu p_1 fu ([]:List (List UInt8)) ([(some p_2)]:List (Option TDef)) [] []
def sema_owners_j1 (i88:Int) (k_sema_owners_l1:Int→(List (List UInt8×TSemaUses))→Option (List TOwner×TFault)) (l176:List (List UInt8×TSemaUses)):Option (List TOwner×TFault) :=
  (i64 (i88+1)).bind fun i223 =>
  k_sema_owners_l1 i223 l176
def sema_owners_j3 (i717:Int) (s825:List UInt8) (k_sema_owners_l3:Int→(List UInt8)→(List UInt8)→Option (List TOwner×TFault)) (s832:List UInt8):Option (List TOwner×TFault) :=
  (i64 (i717+1)).bind fun i839 =>
  k_sema_owners_l3 i839 s825 s832
def sema_owners_j2 (l91:List (List UInt8×TSemaUses)) (i430:Int) (x640:TDef) (i717:Int) (s719:List UInt8) (x778:TDef) (k_sema_owners_l3:Int→(List UInt8)→(List UInt8)→Option (List TOwner×TFault)) (s825:List UInt8):Option (List TOwner×TFault) :=
  if (((mget l91 x778.Name).getD (TSemaUses.mk ([]:List (List UInt8)) ([]:List (List UInt8)) ([]:List (List UInt8)))).recvs).contains x640.Name=true then
    if s719≠[] then
      some (([]:List TOwner),(TFault.mk 8 i430))
    else
      sema_owners_j3 i717 s825 k_sema_owners_l3 x778.Name
  else
    sema_owners_j3 i717 s825 k_sema_owners_l3 s719
def sema_owners_l3 (p_1:List TDef) (l91:List (List UInt8×TSemaUses)) (i430:Int) (l433:List TOwner) (x640:TDef) (k_sema_owners_l2:Int→(List TOwner)→Option (List TOwner×TFault)):Nat→Int→(List UInt8)→(List UInt8)→Option (List TOwner×TFault)
  | 0,_,_,_=>none
  | n+1,i717,s718,s719 =>
    if i717<(p_1.length:Int) then
      (at_ p_1 i717).bind fun x778 =>
      if x778.Kind≠4 then
        (i64 (i717+1)).bind fun i795 =>
        sema_owners_l3 p_1 l91 i430 l433 x640 k_sema_owners_l2 n i795 s718 s719
      else
        if (((mget l91 x778.Name).getD (TSemaUses.mk ([]:List (List UInt8)) ([]:List (List UInt8)) ([]:List (List UInt8)))).sends).contains x640.Name=true then
          if s718≠[] then
            some (([]:List TOwner),(TFault.mk 8 i430))
          else
            sema_owners_j2 l91 i430 x640 i717 s719 x778 (sema_owners_l3 p_1 l91 i430 l433 x640 k_sema_owners_l2 n) x778.Name
        else
          sema_owners_j2 l91 i430 x640 i717 s719 x778 (sema_owners_l3 p_1 l91 i430 l433 x640 k_sema_owners_l2 n) s718
    else
      (app l433 [(TOwner.mk x640.Name s718 s719)]).bind fun l845 =>
      (i64 (i430+1)).bind fun i848 =>
      k_sema_owners_l2 i848 l845
def sema_owners_l2 (p_1:List TDef) (l91:List (List UInt8×TSemaUses)):Nat→Int→(List TOwner)→Option (List TOwner×TFault)
  | 0,_,_=>none
  | n+1,i430,l433 =>
    if i430<(p_1.length:Int) then
      (at_ p_1 i430).bind fun x640 =>
      if x640.Kind≠1 then
        (i64 (i430+1)).bind fun i657 =>
        sema_owners_l2 p_1 l91 n i657 l433
      else
        sema_owners_l3 p_1 l91 i430 l433 x640 (sema_owners_l2 p_1 l91 n) (p_1.length+1) 0 [] []
    else
      some (l433,(TFault.mk 0 0))
def sema_owners_l1 (fu:Nat) (p_1:List TDef) (r9:TSp×TFault):Nat→Int→(List (List UInt8×TSemaUses))→Option (List TOwner×TFault)
  | 0,_,_=>none
  | n+1,i88,l91 =>
    if i88<(p_1.length:Int) then
      (at_ p_1 i88).bind fun x159 =>
      if x159.Kind=4 then
        (at_ p_1 i88).bind fun x178 =>
        (at_ p_1 i88).bind fun x192 =>
        (sema_reach fu r9.1 x192).bind fun r206 =>
        sema_owners_j1 i88 (sema_owners_l1 fu p_1 r9 n) (mput l91 x178.Name r206)
      else
        (i64 (i88+1)).bind fun i225 =>
        sema_owners_l1 fu p_1 r9 n i225 l91
    else
      sema_owners_l2 p_1 l91 (p_1.length+1) 0 []
def sema_owners (fu:Nat)  (p_1:List TDef):Option (List TOwner×TFault) :=
  (sema_named fu p_1).bind fun r9 =>
  if r9.2.Err≠0 then
    some (([]:List TOwner),r9.2)
  else
    sema_owners_l1 fu p_1 r9 (p_1.length+1) 0 ([]:List (List UInt8×TSemaUses))
def sema_check (fu:Nat)  (p_1:List TDef):Option TFault :=
  (sema_owners fu p_1).bind fun r6 =>
  some r6.2
end Go.Y
