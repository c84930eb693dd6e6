/- Texts of Md. -/
import Derived.Test.YtbdiobhgejmgoaaDoorCXu
set_option linter.unusedSimpArgs false
set_option linter.unusedVariables false
set_option linter.unusedSectionVars false
namespace Go.Y
open Go.Wk Go.Xt
structure TExpr where
  Kind:Int
  N:Int
  Name:List UInt8
  Kids:List TExpr
  deriving Inhabited,Repr
structure TStat where
  Kind:Int
  Name:List UInt8
  X:TExpr
  Body:List TStat
  Else:List TStat
  deriving Inhabited,Repr
def Els {α:Type} (sz:Nat) (μ:M) (a:Option Addr) (c:Nat) (xs:List α) (g:Nat→List Value):Prop :=
  xs.length≤c∧c≤maxLen∧(xs=[]∨∃ b o,a=some ⟨b,o,none⟩∧∀ (i:Nat) (y:α),xs[i]?=some y→At μ b (o+i*sz) (g i))
inductive ExprCs (μ:M):List Value→TExpr→Prop where
  | mk (x:TExpr) (a:Option Addr) (c:Nat) (g:Nat→List Value) (h:Els 4 μ a c x.Kids g) (k:∀ (i:Nat) (y:TExpr),x.Kids[i]?=some y→ExprCs μ (g i) y) :
    ExprCs μ [.int .i64 x.Kind,.int .i64 x.N,S x.Name,.slice a x.Kids.length c] x
theorem Els.sl {α:Type} {sz:Nat} {μ:M} {a:Option Addr} {c:Nat} {xs:List α} {g:Nat→List Value} {R:List Value→α→Prop} (h:Els sz μ a c xs g) (k:∀ (i:Nat) (y:α),xs[i]?=some y→R (g i) y):SlR sz R μ a c xs:=by
  refine ⟨h.1,h.2.1,?_⟩
  rcases h.2.2 with h | ⟨b,o,ha,hg⟩
  · exact .inl h
  · exact .inr ⟨b,o,ha,g,fun i x hx=>⟨hg i x hx,k i x hx⟩⟩
theorem Els.of {α:Type} {sz:Nat} {μ:M} {a:Option Addr} {c:Nat} {xs:List α} {R:List Value→α→Prop} (h:SlR sz R μ a c xs):∃ g,Els sz μ a c xs g∧∀ (i:Nat) (y:α),xs[i]?=some y→R (g i) y:=by
  rcases h.el with h1 | ⟨b,o,ha,g,hg⟩
  · exact ⟨fun _=>[],⟨h.le,h.cap,.inl h1⟩,fun i y hy=>by simp [h1] at hy⟩
  · exact ⟨g,⟨h.le,h.cap,.inr ⟨b,o,ha,fun i y hy=>(hg i y hy).1⟩⟩,fun i y hy=>(hg i y hy).2⟩
theorem Els.up {α:Type} {sz:Nat} {μ μ':M} {a:Option Addr} {c:Nat} {xs:List α} {g:Nat→List Value} (h:Els sz μ a c xs g) (l:Le μ μ'):Els sz μ' a c xs g:=by
  refine ⟨h.1,h.2.1,?_⟩
  rcases h.2.2 with h | ⟨b,o,ha,hg⟩
  · exact .inl h
  · exact .inr ⟨b,o,ha,fun i y hy=>(hg i y hy).up l⟩
theorem ExprCs.up {μ μ':M} (l:Le μ μ') {cs:List Value} {x:TExpr} (h:ExprCs μ cs x):ExprCs μ' cs x:=by
  induction h with
  | mk x a c g h k ih=>exact .mk x a c g (h.up l) ih
instance:Mo TExpr where
  sz:=4
  pos:=by decide
  cs:=ExprCs
  ln h:=by cases h; rfl
  up l h:=ExprCs.up l h
  cv h:=by cases h; rfl
theorem TExpr.o {μ:M} {l:List Value} {x:TExpr} (h:Mo.cs μ l x):∃ a c,l=[.int .i64 x.Kind,.int .i64 x.N,S x.Name,.slice a x.Kids.length c]∧Sl μ a c x.Kids:=by
  have hh:ExprCs μ l x:=h
  cases hh with
  | mk _ a c g h1 k1=>exact ⟨a,c,rfl,h1.sl k1⟩
theorem TExpr.i {μ:M} {l:List Value} {x:TExpr} (h:∃ a c,l=[.int .i64 x.Kind,.int .i64 x.N,S x.Name,.slice a x.Kids.length c]∧Sl μ a c x.Kids):Mo.cs μ l x:=by
  obtain ⟨a,c,rfl,h⟩:=h
  obtain ⟨g,h,k⟩:=Els.of h
  exact ExprCs.mk x a c g h k
inductive StatCs (μ:M):List Value→TStat→Prop where
  | mk (x:TStat) (a1:Option Addr) (c1:Nat) (a2:Option Addr) (c2:Nat) (a3:Option Addr) (c3:Nat) (g2 g3:Nat→List Value) (h1:Sl μ a1 c1 x.X.Kids)
      (h2:Els 8 μ a2 c2 x.Body g2) (k2:∀ (i:Nat) (y:TStat),x.Body[i]?=some y→StatCs μ (g2 i) y)
      (h3:Els 8 μ a3 c3 x.Else g3) (k3:∀ (i:Nat) (y:TStat),x.Else[i]?=some y→StatCs μ (g3 i) y) :
    StatCs μ [.int .i64 x.Kind,S x.Name,.int .i64 x.X.Kind,.int .i64 x.X.N,S x.X.Name,.slice a1 x.X.Kids.length c1,.slice a2 x.Body.length c2,.slice a3 x.Else.length c3] x
theorem StatCs.up {μ μ':M} (l:Le μ μ') {cs:List Value} {x:TStat} (h:StatCs μ cs x):StatCs μ' cs x:=by
  induction h with
  | mk x a1 c1 a2 c2 a3 c3 g2 g3 h1 h2 k2 h3 k3 ih2 ih3=>exact .mk x a1 c1 a2 c2 a3 c3 g2 g3 (h1.up l) (h2.up l) ih2 (h3.up l) ih3
instance:Mo TStat where
  sz:=8
  pos:=by decide
  cs:=StatCs
  ln h:=by cases h; rfl
  up l h:=StatCs.up l h
  cv h:=by cases h; rfl
theorem TStat.o {μ:M} {l:List Value} {x:TStat} (h:Mo.cs μ l x):∃ a1 c1 a2 c2 a3 c3,l=[.int .i64 x.Kind,S x.Name,.int .i64 x.X.Kind,.int .i64 x.X.N,S x.X.Name,.slice a1 x.X.Kids.length c1,.slice a2 x.Body.length c2,.slice a3 x.Else.length c3]∧Sl μ a1 c1 x.X.Kids∧Sl μ a2 c2 x.Body∧Sl μ a3 c3 x.Else:=by
  have hh:StatCs μ l x:=h
  cases hh with
  | mk _ a1 c1 a2 c2 a3 c3 g2 g3 h1 h2 k2 h3 k3=>exact ⟨a1,c1,a2,c2,a3,c3,rfl,h1,h2.sl k2,h3.sl k3⟩
theorem TStat.i {μ:M} {l:List Value} {x:TStat} (h:∃ a1 c1 a2 c2 a3 c3,l=[.int .i64 x.Kind,S x.Name,.int .i64 x.X.Kind,.int .i64 x.X.N,S x.X.Name,.slice a1 x.X.Kids.length c1,.slice a2 x.Body.length c2,.slice a3 x.Else.length c3]∧Sl μ a1 c1 x.X.Kids∧Sl μ a2 c2 x.Body∧Sl μ a3 c3 x.Else):Mo.cs μ l x:=by
  obtain ⟨a1,c1,a2,c2,a3,c3,rfl,h1,h2,h3⟩:=h
  obtain ⟨g2,h2,k2⟩:=Els.of h2
  obtain ⟨g3,h3,k3⟩:=Els.of h3
  exact StatCs.mk x a1 c1 a2 c2 a3 c3 g2 g3 h1 h2 k2 h3 k3
structure TToken where
  Kind:Int
  Text:List UInt8
  Num:Int
  At:Int
  deriving DecidableEq,Inhabited,Repr
instance:Mo TToken where
  sz:=4
  pos:=by decide
  cs μ l x:=l=[.int .i64 x.Kind,S x.Text,.int .i64 x.Num,.int .i64 x.At]
  ln h:=by obtain rfl:=h; rfl
  up le h:=by exact h
  cv h:=by obtain rfl:=h; rfl
structure TFault where
  Err:Int
  At:Int
  deriving DecidableEq,Inhabited,Repr
structure TType where
  Kind:Int
  Gen:List UInt8
  deriving DecidableEq,Inhabited,Repr
structure TParam where
  Name:List UInt8
  Typ:TType
  deriving DecidableEq,Inhabited,Repr
instance:Mo TParam where
  sz:=3
  pos:=by decide
  cs μ l x:=l=[S x.Name,.int .i64 x.Typ.Kind,S x.Typ.Gen]
  ln h:=by obtain rfl:=h; rfl
  up le h:=by exact h
  cv h:=by obtain rfl:=h; rfl
structure TDef where
  Kind:Int
  Name:List UInt8
  Typ:TType
  Takes:TType
  Cap:Int
  Params:List TParam
  Body:List TStat
  deriving Inhabited,Repr
instance:Mo TDef where
  sz:=9
  pos:=by decide
  cs μ l x:=∃ a1 c1 a2 c2,l=[.int .i64 x.Kind,S x.Name,.int .i64 x.Typ.Kind,S x.Typ.Gen,.int .i64 x.Takes.Kind,S x.Takes.Gen,.int .i64 x.Cap,.slice a1 x.Params.length c1,.slice a2 x.Body.length c2]∧Sl μ a1 c1 x.Params∧Sl μ a2 c2 x.Body
  ln h:=by obtain ⟨a1,c1,a2,c2,rfl,m1,m2⟩:=h; rfl
  up le h:=by obtain ⟨a1,c1,a2,c2,rfl,m1,m2⟩:=h; exact ⟨a1,c1,a2,c2,rfl,m1.up le,m2.up le⟩
  cv h:=by obtain ⟨a1,c1,a2,c2,rfl,m1,m2⟩:=h; rfl
structure TSynLevel where
  signs:List (List UInt8×Int)
  once:Bool
  deriving DecidableEq,Inhabited,Repr
instance:Mo TSynLevel where
  sz:=2
  pos:=by decide
  cs μ l x:=∃ b1,l=[.map (some b1),.bool x.once]∧Mr μ b1 x.signs
  ln h:=by obtain ⟨b1,rfl,m1⟩:=h; rfl
  up le h:=by obtain ⟨b1,rfl,m1⟩:=h; exact ⟨b1,rfl,m1.up le⟩
  cv h:=by obtain ⟨b1,rfl,m1⟩:=h; rfl
end Go.Y
namespace Go.Y
open Go.Wk Go.Xt
def tx_0:List UInt8:=[32,98,111,120,32,102,110,32,103,101,110,32,116,97,115,107,32,116,97,107,101,115,32,121,105,101,108,100,115,32,108,101,116,32,105,102,32,101,108,115,101,32,119,104,105,108,101,32,114,101,116,117,114,110,32,115,116,111,112,32,115,101,110,100,32,111,117,116,32,100,111,32,114,101,99,118,32,121,105,101,108,100,32,115,116,97,114,116,32,114,101,115,117,109,101,32,97,108,105,118,101,32,110,117,109,32,98,111,111,108,32,116,114,117,101,32,102,97,108,115,101,32,97,110,100,32,111,114,32,110,111,116,32]
def lx_letter  (p_1:UInt8):Option Bool :=
  if (97:Int)≤(p_1.toNat:Int) then
    if (p_1.toNat:Int)≤122 then
      some true
    else
      some (decide ((p_1.toNat:Int)=95))
  else
    some (decide ((p_1.toNat:Int)=95))
def lx_digit  (p_1:UInt8):Option Bool :=
  if (48:Int)≤(p_1.toNat:Int) then
    some (decide ((p_1.toNat:Int)≤57))
  else
    some false
def lx_while_j1 (i13:Int) (k_lx_while_l1:Int→Option Int) (b24:Bool):Option Int :=
  if b24=true then
    (i64 (i13+1)).bind fun i33 =>
    k_lx_while_l1 i33
  else
    some i13
def lx_while_l1 (p_1:List UInt8) (p_2:UInt8→Option Bool):Nat→Int→Option Int
  | 0,_=>none
  | n+1,i13 =>
    if i13<(p_1.length:Int) then
      (at_ p_1 i13).bind fun u26 =>
      (p_2 u26).bind fun b28 =>
      lx_while_j1 i13 (lx_while_l1 p_1 p_2 n) b28
    else
      lx_while_j1 i13 (lx_while_l1 p_1 p_2 n) false
def lx_while (fu:Nat)  (p_1:List UInt8) (p_2:UInt8→Option Bool):Option Int :=
  lx_while_l1 p_1 p_2 fu 0
def lx_t1  (p_1:UInt8):Option Bool :=
  (lx_letter p_1).bind fun r1 =>
  if r1=true then
    some true
  else
    (lx_digit p_1).bind fun r5 =>
    some r5
def lx_s1  (p_1:UInt8):Option Bool :=
  some (decide ((p_1.toNat:Int)≠10))
def lx_n1  (p_1:UInt8):Option Bool :=
  (lx_letter p_1).bind fun r1 =>
  if r1=true then
    some true
  else
    (lx_digit p_1).bind fun r5 =>
    some r5
def lx_hp0  (p_1:List UInt8) (p_2:List UInt8):Option Bool :=
  if (p_2.length:Int)≤(p_1.length:Int) then
    (cut p_1 0 (p_2.length:Int)).bind fun s2 =>
    some (decide (s2=p_2))
  else
    some false
def lx_hp  (p_1:List UInt8) (p_2:List UInt8):Option Bool :=
  (lx_hp0 p_1 p_2).bind fun r1 =>
  some r1
def lx_sign_l1 (p_1:List UInt8):Nat→Int→Option (List UInt8)
  | 0,_=>none
  | n+1,i18 =>
    if i18<18 then
      (at_ [[61,61],[33,61],[60,61],[62,61],[60],[62],[61],[43],[45],[42],[47],[37],[40],[41],[123],[125],[44],[59]] i18).bind fun x34 =>
      (lx_hp p_1 x34).bind fun r42 =>
      if r42=true then
        some x34
      else
        (i64 (i18+1)).bind fun i46 =>
        lx_sign_l1 p_1 n i46
    else
      some []
def lx_sign  (p_1:List UInt8):Option (List UInt8) :=
  lx_sign_l1 p_1 19 0
def lx_space_j1 (fu:Nat) (p_1:List UInt8) (i13:Int) (u28:UInt8) (k_lx_space_l1:Int→Option Int) (b30:Bool):Option Int :=
  if b30=true then
    (i64 (i13+1)).bind fun i35 =>
    k_lx_space_l1 i35
  else
    if (u28.toNat:Int)=35 then
      (cut p_1 i13 p_1.length).bind fun s38 =>
      (lx_while fu s38 lx_s1).bind fun r40 =>
      (i64 (i13+r40)).bind fun i43 =>
      k_lx_space_l1 i43
    else
      some i13
def lx_space_l1 (fu:Nat) (p_1:List UInt8):Nat→Int→Option Int
  | 0,_=>none
  | n+1,i13 =>
    if i13<(p_1.length:Int) then
      (at_ p_1 i13).bind fun u28 =>
      if (u28.toNat:Int)=32 then
        lx_space_j1 fu p_1 i13 u28 (lx_space_l1 fu p_1 n) (decide ((u28.toNat:Int)=32))
      else
        if (u28.toNat:Int)=9 then
          lx_space_j1 fu p_1 i13 u28 (lx_space_l1 fu p_1 n) (decide ((u28.toNat:Int)=9))
        else
          lx_space_j1 fu p_1 i13 u28 (lx_space_l1 fu p_1 n) (decide ((u28.toNat:Int)=10))
    else
      some i13
def lx_space (fu:Nat)  (p_1:List UInt8):Option Int :=
  lx_space_l1 fu p_1 fu 0
def lex_named_j1 (fu:Nat) (p_1:List UInt8) (b1:Bool):Option Bool :=
  if b1=true then
    some false
  else
    (lx_while fu p_1 lx_n1).bind fun r18 =>
    some (decide (r18=(p_1.length:Int)))
def lex_named (fu:Nat)  (p_1:List UInt8):Option Bool :=
  if (p_1.length:Int)<1 then
    lex_named_j1 fu p_1 true
  else
    if (12:Int)<(p_1.length:Int) then
      lex_named_j1 fu p_1 true
    else
      (at_ p_1 0).bind fun u4 =>
      (lx_letter u4).bind fun r6 =>
      if r6=true then
        (cat [32] p_1).bind fun s10 =>
        (cat s10 [32]).bind fun s12 =>
        (scont tx_0 s12).bind fun b14 =>
        lex_named_j1 fu p_1 b14
      else
        lex_named_j1 fu p_1 true
def lex_tokens_j1 (fu:Nat) (p_1:List UInt8) (i58:Int) (l61:List TToken) (k_lex_tokens_l1:Int→(List TToken)→Option (List TToken×TFault)) (i118:Int) (s119:List UInt8) (i120:Int):Option (List TToken×TFault) :=
  (app l61 [(TToken.mk i118 s119 i120 i58)]).bind fun l151 =>
  (i64 (i58+(s119.length:Int))).bind fun i154 =>
  (cut p_1 i154 p_1.length).bind fun s156 =>
  (lx_space fu s156).bind fun r158 =>
  (i64 (i154+r158)).bind fun i161 =>
  k_lex_tokens_l1 i161 l151
def lex_tokens_l1 (fu:Nat) (p_1:List UInt8):Nat→Int→(List TToken)→Option (List TToken×TFault)
  | 0,_,_=>none
  | n+1,i58,l61 =>
    if i58<(p_1.length:Int) then
      (cut p_1 i58 p_1.length).bind fun s112 =>
      (at_ s112 0).bind fun u116 =>
      (lx_letter u116).bind fun r121 =>
      if r121=true then
        (lx_while fu s112 lx_t1).bind fun r125 =>
        (cut s112 0 r125).bind fun s128 =>
        lex_tokens_j1 fu p_1 i58 l61 (lex_tokens_l1 fu p_1 n) 1 s128 0
      else
        (lx_digit u116).bind fun r130 =>
        if r130=true then
          (lx_while fu s112 lx_digit).bind fun r134 =>
          (cut s112 0 r134).bind fun s137 =>
          if (15:Int)<(s137.length:Int) then
            some (([]:List TToken),(TFault.mk 3 i58))
          else
            (pint s137).bind fun i140 =>
            lex_tokens_j1 fu p_1 i58 l61 (lex_tokens_l1 fu p_1 n) 2 s137 i140
        else
          (lx_sign s112).bind fun r142 =>
          if r142=[] then
            some (([]:List TToken),(TFault.mk 2 i58))
          else
            lex_tokens_j1 fu p_1 i58 l61 (lex_tokens_l1 fu p_1 n) 3 r142 0
    else
      some (l61,(TFault.mk 0 0))
def lex_tokens (fu:Nat)  (p_1:List UInt8):Option (List TToken×TFault) :=
  if (6000:Int)<(p_1.length:Int) then
    some (([]:List TToken),(TFault.mk 4 0))
  else
    (lx_space fu p_1).bind fun r7 =>
    lex_tokens_l1 fu p_1 fu r7 []
end Go.Y
namespace Go.Y
open Go.Wk Go.Xt
def syn_kids_j3  (b10:Bool):Option Int :=
  if b10=true then
    some 2
  else
    some (-1)
def syn_kids_j2 (p_1:Int) (b5:Bool):Option Int :=
  if b5=true then
    some 1
  else
    if p_1≤18 then
      syn_kids_j3 true
    else
      syn_kids_j3 (decide (p_1=23))
def syn_kids_j1 (p_1:Int) (b1:Bool):Option Int :=
  if b1=true then
    some 0
  else
    if p_1≤5 then
      syn_kids_j2 p_1 true
    else
      if p_1=21 then
        syn_kids_j2 p_1 true
      else
        syn_kids_j2 p_1 (decide (p_1=24))
def syn_kids  (p_1:Int):Option Int :=
  if p_1≤3 then
    syn_kids_j1 p_1 true
  else
    syn_kids_j1 p_1 (decide (p_1=20))
def syn_node_j1 (i3:Int) (b5:Bool):Option (Int×Int) :=
  if b5=true then
    some (4,i3)
  else
    some (0,i3)
def syn_node  (node_2:Int) (p_2:Int):Option (Int×Int) :=
  (i64 (node_2+1)).bind fun i3 =>
  if (2000:Int)<i3 then
    syn_node_j1 i3 true
  else
    syn_node_j1 i3 (decide ((40:Int)<p_2))
def syn_typ_j2  (b7:Bool):Option Int :=
  if b7=true then
    some 7
  else
    some 0
def syn_typ_j1 (fu:Nat) (p_1:TType) (b3:Bool):Option Int :=
  if b3=true then
    some 1
  else
    if p_1.Kind=3 then
      (lex_named fu p_1.Gen).bind fun r9 =>
      syn_typ_j2 (!r9)
    else
      syn_typ_j2 false
def syn_typ (fu:Nat)  (p_1:TType):Option Int :=
  if p_1.Kind<1 then
    syn_typ_j1 fu p_1 true
  else
    syn_typ_j1 fu p_1 (decide ((3:Int)<p_1.Kind))
structure SynExpr where
  syn_expr:Int→TExpr→Int→Option (Int×Int)
def syn_expr_l1 (self:SynExpr) (p_2:TExpr) (p_3:Int):Nat→Int→Int→Option (Int×Int)
  | 0,_,_=>none
  | n+1,i72,i73 =>
    if i72<(p_2.Kids.length:Int) then
      (at_ p_2.Kids i72).bind fun x94 =>
      (i64 (p_3+1)).bind fun i105 =>
      (self.syn_expr i73 x94 i105).bind fun r107 =>
      if r107.1≠0 then
        some (r107.1,r107.2)
      else
        (i64 (i72+1)).bind fun i111 =>
        syn_expr_l1 self p_2 p_3 n i111 r107.2
    else
      some (0,i73)
def syn_expr_j6 (self:SynExpr) (p_2:TExpr) (p_3:Int) (r9:Int×Int) (b48:Bool):Option (Int×Int) :=
  if b48=true then
    some (5,r9.2)
  else
    syn_expr_l1 self p_2 p_3 (p_2.Kids.length+1) 0 r9.2
def syn_expr_j5 (self:SynExpr) (p_2:TExpr) (p_3:Int) (r9:Int×Int) (r17:Int) (b45:Bool):Option (Int×Int) :=
  if b45=true then
    syn_expr_j6 self p_2 p_3 r9 b45
  else
    if r17<0 then
      syn_expr_j6 self p_2 p_3 r9 (decide ((6:Int)<(p_2.Kids.length:Int)))
    else
      syn_expr_j6 self p_2 p_3 r9 false
def syn_expr_j4 (self:SynExpr) (p_2:TExpr) (p_3:Int) (r9:Int×Int) (r17:Int) (b30:Bool):Option (Int×Int) :=
  if b30=true then
    some (7,r9.2)
  else
    if (0:Int)≤r17 then
      syn_expr_j5 self p_2 p_3 r9 r17 (decide ((p_2.Kids.length:Int)≠r17))
    else
      syn_expr_j5 self p_2 p_3 r9 r17 false
def syn_expr_j3 (fu:Nat) (self:SynExpr) (p_2:TExpr) (p_3:Int) (r9:Int×Int) (r17:Int) (b24:Bool):Option (Int×Int) :=
  if b24=true then
    some (3,r9.2)
  else
    if p_2.Kind=3 then
      (lex_named fu p_2.Name).bind fun r32 =>
      syn_expr_j4 self p_2 p_3 r9 r17 (!r32)
    else
      if p_2.Kind=20 then
        (lex_named fu p_2.Name).bind fun r36 =>
        syn_expr_j4 self p_2 p_3 r9 r17 (!r36)
      else
        if r17<0 then
          (lex_named fu p_2.Name).bind fun r40 =>
          syn_expr_j4 self p_2 p_3 r9 r17 (!r40)
        else
          syn_expr_j4 self p_2 p_3 r9 r17 false
def syn_expr_j2 (fu:Nat) (self:SynExpr) (p_2:TExpr) (p_3:Int) (r9:Int×Int) (r17:Int) (b20:Bool):Option (Int×Int) :=
  if b20=true then
    syn_expr_j3 fu self p_2 p_3 r9 r17 b20
  else
    if p_2.Kind=2 then
      if p_2.N≠0 then
        syn_expr_j3 fu self p_2 p_3 r9 r17 (decide (p_2.N≠1))
      else
        syn_expr_j3 fu self p_2 p_3 r9 r17 false
    else
      syn_expr_j3 fu self p_2 p_3 r9 r17 false
def syn_expr_j1 (fu:Nat) (self:SynExpr) (p_2:TExpr) (p_3:Int) (r9:Int×Int) (b13:Bool):Option (Int×Int) :=
  if b13=true then
    some (1,r9.2)
  else
    (syn_kids p_2.Kind).bind fun r17 =>
    if p_2.Kind=1 then
      if p_2.N<0 then
        syn_expr_j2 fu self p_2 p_3 r9 r17 true
      else
        syn_expr_j2 fu self p_2 p_3 r9 r17 (decide ((999999999999999:Int)<p_2.N))
    else
      syn_expr_j2 fu self p_2 p_3 r9 r17 false
def syn_expr (fu:Nat) (self:SynExpr) (node_2:Int) (p_2:TExpr) (p_3:Int):Option (Int×Int) :=
  (syn_node node_2 p_3).bind fun r9 =>
  if r9.1≠0 then
    some (r9.1,r9.2)
  else
    if p_2.Kind<1 then
      syn_expr_j1 fu self p_2 p_3 r9 true
    else
      syn_expr_j1 fu self p_2 p_3 r9 (decide ((24:Int)<p_2.Kind))
def SynExpr_run:Nat→SynExpr
  | 0=>⟨fun _ _ _=>none⟩
  | n+1=>⟨syn_expr n (SynExpr_run n)⟩
structure SynStat where
  syn_stats:Int→(List TStat)→Int→Option (Int×Int)
  syn_stat:Int→TStat→Int→Option (Int×Int)
def syn_stats_l1 (self:SynStat) (p_2:List TStat) (p_3:Int):Nat→Int→Int→Option (Int×Int)
  | 0,_,_=>none
  | n+1,i29,i30 =>
    if i29<(p_2.length:Int) then
      (at_ p_2 i29).bind fun x55 =>
      (self.syn_stat i30 x55 p_3).bind fun r72 =>
      if r72.1≠0 then
        some (r72.1,r72.2)
      else
        (i64 (i29+1)).bind fun i76 =>
        syn_stats_l1 self p_2 p_3 n i76 r72.2
    else
      some (0,i30)
def syn_stats (self:SynStat) (node_2:Int) (p_2:List TStat) (p_3:Int):Option (Int×Int) :=
  if (50:Int)<(p_2.length:Int) then
    some (5,node_2)
  else
    syn_stats_l1 self p_2 p_3 (p_2.length+1) 0 node_2
def syn_stat_j4 (self:SynStat) (p_2:TStat) (p_3:Int) (i48:Int):Option (Int×Int) :=
  if p_2.Kind=3 then
    (i64 (p_3+1)).bind fun i58 =>
    (self.syn_stats i48 p_2.Else i58).bind fun r60 =>
    some (r60.1,r60.2)
  else
    some (0,i48)
def syn_stat_j3 (self:SynStat) (p_2:TStat) (p_3:Int) (r41:Int×Int) (b45:Bool):Option (Int×Int) :=
  if b45=true then
    (i64 (p_3+1)).bind fun i50 =>
    (self.syn_stats r41.2 p_2.Body i50).bind fun r52 =>
    if r52.1≠0 then
      some (r52.1,r52.2)
    else
      syn_stat_j4 self p_2 p_3 r52.2
  else
    syn_stat_j4 self p_2 p_3 r41.2
def syn_stat_j2 (fu:Nat) (self:SynStat) (p_2:TStat) (p_3:Int) (r15:Int×Int) (b23:Bool):Option (Int×Int) :=
  if b23=true then
    some (7,r15.2)
  else
    if p_2.Kind=6 then
      some (0,r15.2)
    else
      (i64 (p_3+1)).bind fun i39 =>
      ((SynExpr_run fu).syn_expr r15.2 p_2.X i39).bind fun r41 =>
      if r41.1≠0 then
        some (r41.1,r41.2)
      else
        if p_2.Kind=3 then
          syn_stat_j3 self p_2 p_3 r41 true
        else
          syn_stat_j3 self p_2 p_3 r41 (decide (p_2.Kind=4))
def syn_stat_j1 (fu:Nat) (self:SynStat) (p_2:TStat) (p_3:Int) (r15:Int×Int) (b19:Bool):Option (Int×Int) :=
  if b19=true then
    some (1,r15.2)
  else
    if p_2.Kind=1 then
      (lex_named fu p_2.Name).bind fun r25 =>
      syn_stat_j2 fu self p_2 p_3 r15 (!r25)
    else
      if p_2.Kind=2 then
        (lex_named fu p_2.Name).bind fun r29 =>
        syn_stat_j2 fu self p_2 p_3 r15 (!r29)
      else
        if p_2.Kind=7 then
          (lex_named fu p_2.Name).bind fun r33 =>
          syn_stat_j2 fu self p_2 p_3 r15 (!r33)
        else
          syn_stat_j2 fu self p_2 p_3 r15 false
def syn_stat (fu:Nat) (self:SynStat) (node_2:Int) (p_2:TStat) (p_3:Int):Option (Int×Int) :=
  (syn_node node_2 p_3).bind fun r15 =>
  if r15.1≠0 then
    some (r15.1,r15.2)
  else
    if p_2.Kind<1 then
      syn_stat_j1 fu self p_2 p_3 r15 true
    else
      syn_stat_j1 fu self p_2 p_3 r15 (decide ((9:Int)<p_2.Kind))
def SynStat_run:Nat→SynStat
  | 0=>⟨fun _ _ _=>none,fun _ _ _=>none⟩
  | n+1=>⟨syn_stats (SynStat_run n),syn_stat n (SynStat_run n)⟩
def syn_def_j6 (r12:Int×Int) (b106:Bool):Option (Int×Int) :=
  if b106=true then
    some (3,r12.2)
  else
    some (0,r12.2)
def syn_def_j5 (fu:Nat) (p_2:TDef) (r12:Int×Int) :Option (Int×Int) :=
  if p_2.Kind≠1 then
    ((SynStat_run fu).syn_stats r12.2 p_2.Body 2).bind fun r103 =>
    some (r103.1,r103.2)
  else
    if p_2.Cap<1 then
      syn_def_j6 r12 true
    else
      syn_def_j6 r12 (decide ((20:Int)<p_2.Cap))
def syn_def_j4 (fu:Nat) (p_2:TDef) (r12:Int×Int) :Option (Int×Int) :=
  if p_2.Kind≠4 then
    (syn_typ fu p_2.Typ).bind fun r97 =>
    if r97≠0 then
      some (r97,r12.2)
    else
      syn_def_j5 fu p_2 r12
  else
    syn_def_j5 fu p_2 r12
def syn_def_j3 (fu:Nat) (p_2:TDef) (r12:Int×Int) :Option (Int×Int) :=
  if p_2.Kind=3 then
    (syn_typ fu p_2.Takes).bind fun r91 =>
    if r91≠0 then
      some (r91,r12.2)
    else
      syn_def_j4 fu p_2 r12
  else
    syn_def_j4 fu p_2 r12
def syn_def_l1 (fu:Nat) (p_2:TDef) (r12:Int×Int):Nat→Int→Option (Int×Int)
  | 0,_=>none
  | n+1,i47 =>
    if i47<(p_2.Params.length:Int) then
      (at_ p_2.Params i47).bind fun x69 =>
      (lex_named fu x69.Name).bind fun r79 =>
      if r79=true then
        (syn_typ fu x69.Typ).bind fun r83 =>
        if r83≠0 then
          some (r83,r12.2)
        else
          (i64 (i47+1)).bind fun i87 =>
          syn_def_l1 fu p_2 r12 n i87
      else
        some (7,r12.2)
    else
      syn_def_j3 fu p_2 r12
def syn_def_j2 (fu:Nat) (p_2:TDef) (r12:Int×Int) (b24:Bool):Option (Int×Int) :=
  if b24=true then
    if (6:Int)<(p_2.Params.length:Int) then
      some (5,r12.2)
    else
      syn_def_l1 fu p_2 r12 (p_2.Params.length+1) 0
  else
    syn_def_j3 fu p_2 r12
def syn_def_j1 (fu:Nat) (p_2:TDef) (r12:Int×Int) (b16:Bool):Option (Int×Int) :=
  if b16=true then
    some (1,r12.2)
  else
    (lex_named fu p_2.Name).bind fun r20 =>
    if r20=true then
      if p_2.Kind=2 then
        syn_def_j2 fu p_2 r12 true
      else
        syn_def_j2 fu p_2 r12 (decide (p_2.Kind=3))
    else
      some (7,r12.2)
def syn_def (fu:Nat)  (node_2:Int) (p_2:TDef):Option (Int×Int) :=
  (syn_node node_2 1).bind fun r12 =>
  if r12.1≠0 then
    some (r12.1,r12.2)
  else
    if p_2.Kind<1 then
      syn_def_j1 fu p_2 r12 true
    else
      syn_def_j1 fu p_2 r12 (decide ((4:Int)<p_2.Kind))
def syn_wrong_l1 (fu:Nat) (p_1:List TDef):Nat→Int→Int→Option TFault
  | 0,_,_=>none
  | n+1,i28,i29 =>
    if i28<(p_1.length:Int) then
      (at_ p_1 i28).bind fun x51 =>
      (syn_def fu i29 x51).bind fun r65 =>
      if r65.1≠0 then
        some (TFault.mk r65.1 i28)
      else
        (i64 (i28+1)).bind fun i69 =>
        syn_wrong_l1 fu p_1 n i69 r65.2
    else
      some (TFault.mk 0 0)
def syn_wrong (fu:Nat)  (p_1:List TDef):Option TFault :=
  if (30:Int)<(p_1.length:Int) then
    some (TFault.mk 5 0)
  else
    syn_wrong_l1 fu p_1 (p_1.length+1) 0 0
end Go.Y
namespace Go.Y
open Go.Wk Go.Xt
def p_at  (left_2:List TToken) (end_6:Int) (deep_7:Int):Option Int :=
  if (left_2.length:Int)=0 then
    some end_6
  else
    (at_ left_2 0).bind fun x9 =>
    some x9.At
def p_sees  (left_2:List TToken) (end_6:Int) (deep_7:Int) (p_2:List UInt8):Option Bool :=
  if (0:Int)<(left_2.length:Int) then
    (at_ left_2 0).bind fun x9 =>
    some (decide (x9.Text=p_2))
  else
    some false
def p_is  (left_2:List TToken) (end_6:Int) (deep_7:Int) (p_2:List UInt8):Option (Bool×List TToken×Int×Int) :=
  (p_sees left_2 end_6 deep_7 p_2).bind fun r11 =>
  if r11=true then
    (cut left_2 1 left_2.length).bind fun l15 =>
    some (true,l15,end_6,deep_7)
  else
    some (false,left_2,end_6,deep_7)
def p_need_l1 (p_2:List (List UInt8)):Nat→Int→(List TToken)→Int→Int→Option (Except TFault (List TToken×Int×Int))
  | 0,_,_,_,_=>none
  | n+1,i33,l36,i38,i39 =>
    if i33<(p_2.length:Int) then
      (at_ p_2 i33).bind fun x62 =>
      (p_is l36 i38 i39 x62).bind fun r70 =>
      if r70.1=true then
        (i64 (i33+1)).bind fun i80 =>
        p_need_l1 p_2 n i80 r70.2.1 r70.2.2.1 r70.2.2.2
      else
        (p_at r70.2.1 r70.2.2.1 r70.2.2.2).bind fun r77 =>
        some (.error (TFault.mk 2 r77))
    else
      some (.ok (l36,i38,i39))
def p_need  (left_2:List TToken) (end_6:Int) (deep_7:Int) (p_2:List (List UInt8)):Option (Except TFault (List TToken×Int×Int)) :=
  p_need_l1 p_2 (p_2.length+1) 0 left_2 end_6 deep_7
def p_name_j1 (fu:Nat) (left_2:List TToken) (end_6:Int) (deep_7:Int) (b11:Bool):Option (Except TFault (List UInt8×List TToken×Int×Int)) :=
  if b11=true then
    (p_at left_2 end_6 deep_7).bind fun r23 =>
    some (.error (TFault.mk 2 r23))
  else
    (at_ left_2 0).bind fun x26 =>
    (lex_named fu x26.Text).bind fun r34 =>
    if r34=true then
      (cut left_2 1 left_2.length).bind fun l41 =>
      some (.ok (x26.Text,l41,end_6,deep_7))
    else
      (p_at left_2 end_6 deep_7).bind fun r38 =>
      some (.error (TFault.mk 7 r38))
def p_name (fu:Nat)  (left_2:List TToken) (end_6:Int) (deep_7:Int):Option (Except TFault (List UInt8×List TToken×Int×Int)) :=
  if (left_2.length:Int)=0 then
    p_name_j1 fu left_2 end_6 deep_7 true
  else
    (at_ left_2 0).bind fun x13 =>
    p_name_j1 fu left_2 end_6 deep_7 (decide (x13.Kind≠1))
def p_number_j1 (left_2:List TToken) (end_6:Int) (deep_7:Int) (b11:Bool):Option (Except TFault (Int×List TToken×Int×Int)) :=
  if b11=true then
    (p_at left_2 end_6 deep_7).bind fun r23 =>
    some (.error (TFault.mk 2 r23))
  else
    (at_ left_2 0).bind fun x26 =>
    (cut left_2 1 left_2.length).bind fun l34 =>
    some (.ok (x26.Num,l34,end_6,deep_7))
def p_number  (left_2:List TToken) (end_6:Int) (deep_7:Int):Option (Except TFault (Int×List TToken×Int×Int)) :=
  if (left_2.length:Int)=0 then
    p_number_j1 left_2 end_6 deep_7 true
  else
    (at_ left_2 0).bind fun x13 =>
    p_number_j1 left_2 end_6 deep_7 (decide (x13.Kind≠2))
def p_typ (fu:Nat)  (left_2:List TToken) (end_6:Int) (deep_7:Int):Option (Except TFault (TType×List TToken×Int×Int)) :=
  (p_is left_2 end_6 deep_7 [110,117,109]).bind fun r13 =>
  if r13.1=true then
    some (.ok ((TType.mk 1 []),r13.2.1,r13.2.2.1,r13.2.2.2))
  else
    (p_is r13.2.1 r13.2.2.1 r13.2.2.2 [98,111,111,108]).bind fun r20 =>
    if r20.1=true then
      some (.ok ((TType.mk 2 []),r20.2.1,r20.2.2.1,r20.2.2.2))
    else
      bT (p_name fu r20.2.1 r20.2.2.1 r20.2.2.2) fun r27 =>
      some (.ok ((TType.mk 3 r27.1),r27.2.1,r27.2.2.1,r27.2.2.2))
def p_params_j1 (fu:Nat) (l77:List TParam) (k_p_params_l1:(List TToken)→Int→Int→(List TParam)→Option (Except TFault (List TParam×List TToken×Int×Int))) (l135:List TToken) (i137:Int) (i138:Int):Option (Except TFault (List TParam×List TToken×Int×Int)) :=
  if (l77.length:Int)=6 then
    (p_at l135 i137 i138).bind fun r153 =>
    some (.error (TFault.mk 5 r153))
  else
    bT (p_name fu l135 i137 i138) fun r156 =>
    bT (p_typ fu r156.2.1 r156.2.2.1 r156.2.2.2) fun r162 =>
    (app l77 [(TParam.mk r156.1 (TType.mk r162.1.Kind r162.1.Gen))]).bind fun l172 =>
    k_p_params_l1 r162.2.1 r162.2.2.1 r162.2.2.2 l172
def p_params_l1 (fu:Nat):Nat→(List TToken)→Int→Int→(List TParam)→Option (Except TFault (List TParam×List TToken×Int×Int))
  | 0,_,_,_,_=>none
  | n+1,l71,i73,i74,l77 =>
    (p_is l71 i73 i74 [41]).bind fun r126 =>
    if r126.1=true then
      some (.ok (l77,r126.2.1,r126.2.2.1,r126.2.2.2))
    else
      if (0:Int)<(l77.length:Int) then
        bT (p_need r126.2.1 r126.2.2.1 r126.2.2.2 [[44]]) fun r144 =>
        p_params_j1 fu l77 (p_params_l1 fu n) r144.1 r144.2.1 r144.2.2
      else
        p_params_j1 fu l77 (p_params_l1 fu n) r126.2.1 r126.2.2.1 r126.2.2.2
def p_params (fu:Nat)  (left_2:List TToken) (end_6:Int) (deep_7:Int):Option (Except TFault (List TParam×List TToken×Int×Int)) :=
  bT (p_need left_2 end_6 deep_7 [[40]]) fun r18 =>
  p_params_l1 fu fu r18.1 r18.2.1 r18.2.2 []
def p_levels  :Option (List TSynLevel) :=
  some [(TSynLevel.mk (mput ([]:List (List UInt8×Int)) [111,114] 18) false),(TSynLevel.mk (mput ([]:List (List UInt8×Int)) [97,110,100] 17) false),(TSynLevel.mk (mput (mput (mput (mput (mput (mput ([]:List (List UInt8×Int)) [61,61] 11) [33,61] 12) [60] 13) [60,61] 14) [62] 15) [62,61] 16) true),(TSynLevel.mk (mput (mput ([]:List (List UInt8×Int)) [43] 6) [45] 7) false),(TSynLevel.mk (mput (mput (mput ([]:List (List UInt8×Int)) [42] 8) [47] 9) [37] 10) false)]
def p_into  (left_2:List TToken) (end_6:Int) (deep_7:Int):Option (Except TFault (List TToken×Int×Int)) :=
  (i64 (deep_7+1)).bind fun i14 =>
  if (200:Int)<i14 then
    (p_at left_2 end_6 i14).bind fun r17 =>
    some (.error (TFault.mk 4 r17))
  else
    some (.ok (left_2,end_6,i14))
def p_out  (left_3:List TToken) (end_7:Int) (deep_8:Int):Option (List TToken×Int×Int) :=
  (i64 (deep_8 - 1)).bind fun i12 =>
  some (left_3,end_7,i12)
end Go.Y
namespace Go.Y
open Go.Wk Go.Xt
structure ParE where
  p_expr:(List TToken)→Int→Int→Option (Except TFault (TExpr×List TToken×Int×Int))
  p_level:(List TToken)→Int→Int→Int→Option (Except TFault (TExpr×List TToken×Int×Int))
  p_unary:(List TToken)→Int→Int→Option (Except TFault (TExpr×List TToken×Int×Int))
  p_primary:(List TToken)→Int→Int→Option (Except TFault (TExpr×List TToken×Int×Int))
  p_args:(List TToken)→Int→Int→Option (Except TFault (List TExpr×List TToken×Int×Int))
  p_fixed:(List TToken)→Int→Int→Int→Int→Option (Except TFault (TExpr×List TToken×Int×Int))
def p_expr (self:ParE) (left_2:List TToken) (end_6:Int) (deep_7:Int):Option (Except TFault (TExpr×List TToken×Int×Int)) :=
  bT (p_into left_2 end_6 deep_7) fun r16 =>
  bT (self.p_level r16.1 r16.2.1 r16.2.2 0) fun r23 =>
  (p_out r23.2.1 r23.2.2.1 r23.2.2.2).bind fun r32 =>
  some (.ok (r23.1,r32.1,r32.2.1,r32.2.2))
def p_level_j1  (l48:List TToken) (i50:Int) (i51:Int) (i52:Int) (i53:Int) (s54:List UInt8) (l57:List TExpr):Option (Except TFault (TExpr×List TToken×Int×Int)) :=
  some (.ok ((TExpr.mk i52 i53 s54 l57),l48,i50,i51))
def p_level_j2 (p_2:Int) (r16:List TSynLevel) (x182:TSynLevel) (x192:TToken) (k_p_level_l1:(List TToken)→Int→Int→Int→Int→(List UInt8)→(List TExpr)→Option (Except TFault (TExpr×List TToken×Int×Int))) (l215:List TToken) (i217:Int) (i218:Int) (l221:List TExpr):Option (Except TFault (TExpr×List TToken×Int×Int)) :=
  (at_ r16 p_2).bind fun x249 =>
  if x249.once=true then
    p_level_j1 l215 i217 i218 ((mget x182.signs x192.Text).getD 0) 0 [] l221
  else
    k_p_level_l1 l215 i217 i218 ((mget x182.signs x192.Text).getD 0) 0 [] l221
def p_level_l1 (self:ParE) (p_2:Int) (r16:List TSynLevel):Nat→(List TToken)→Int→Int→Int→Int→(List UInt8)→(List TExpr)→Option (Except TFault (TExpr×List TToken×Int×Int))
  | 0,_,_,_,_,_,_,_=>none
  | n+1,l114,i116,i117,i118,i119,s120,l123 =>
    if (0:Int)<(l114.length:Int) then
      (at_ r16 p_2).bind fun x182 =>
      (at_ l114 0).bind fun x192 =>
      if ((mget x182.signs x192.Text).getD 0)=0 then
        p_level_j1 l114 i116 i117 i118 i119 s120 l123
      else
        (cut l114 1 l114.length).bind fun l207 =>
        (i64 (p_2+1)).bind fun i231 =>
        bT (self.p_level l207 i116 i117 i231) fun r233 =>
        p_level_j2 p_2 r16 x182 x192 (p_level_l1 self p_2 r16 n) r233.2.1 r233.2.2.1 r233.2.2.2 [(TExpr.mk i118 i119 s120 l123),r233.1]
    else
      p_level_j1 l114 i116 i117 i118 i119 s120 l123
def p_level (fu:Nat) (self:ParE) (left_2:List TToken) (end_6:Int) (deep_7:Int) (p_2:Int):Option (Except TFault (TExpr×List TToken×Int×Int)) :=
  (p_levels ).bind fun r16 =>
  if p_2=(r16.length:Int) then
    bT (self.p_unary left_2 end_6 deep_7) fun r23 =>
    some (.ok (r23.1,r23.2.1,r23.2.2.1,r23.2.2.2))
  else
    (i64 (p_2+1)).bind fun i33 =>
    bT (self.p_level left_2 end_6 deep_7 i33) fun r35 =>
    p_level_l1 self p_2 r16 fu r35.2.1 r35.2.2.1 r35.2.2.2 r35.1.Kind r35.1.N r35.1.Name r35.1.Kids
def p_unary (self:ParE) (left_2:List TToken) (end_6:Int) (deep_7:Int):Option (Except TFault (TExpr×List TToken×Int×Int)) :=
  (p_is left_2 end_6 deep_7 [45]).bind fun r31 =>
  if r31.1=true then
    bT (p_into r31.2.1 r31.2.2.1 r31.2.2.2) fun r38 =>
    bT (self.p_unary r38.1 r38.2.1 r38.2.2) fun r45 =>
    (p_out r45.2.1 r45.2.2.1 r45.2.2.2).bind fun r56 =>
    some (.ok ((TExpr.mk 4 0 [] [r45.1]),r56.1,r56.2.1,r56.2.2))
  else
    (p_is r31.2.1 r31.2.2.1 r31.2.2.2 [110,111,116]).bind fun r64 =>
    if r64.1=true then
      bT (p_into r64.2.1 r64.2.2.1 r64.2.2.2) fun r71 =>
      bT (self.p_unary r71.1 r71.2.1 r71.2.2) fun r78 =>
      (p_out r78.2.1 r78.2.2.1 r78.2.2.2).bind fun r89 =>
      some (.ok ((TExpr.mk 5 0 [] [r78.1]),r89.1,r89.2.1,r89.2.2))
    else
      bT (self.p_primary r64.2.1 r64.2.2.1 r64.2.2.2) fun r97 =>
      some (.ok (r97.1,r97.2.1,r97.2.2.1,r97.2.2.2))
def p_primary_j1 (fu:Nat) (self:ParE) (left_2:List TToken) (end_6:Int) (deep_7:Int) (b16:Bool):Option (Except TFault (TExpr×List TToken×Int×Int)) :=
  if b16=true then
    bT (p_number left_2 end_6 deep_7) fun r28 =>
    some (.ok ((TExpr.mk 1 r28.1 [] ([]:List TExpr)),r28.2.1,r28.2.2.1,r28.2.2.2))
  else
    (p_is left_2 end_6 deep_7 [116,114,117,101]).bind fun r34 =>
    if r34.1=true then
      some (.ok ((TExpr.mk 2 1 [] ([]:List TExpr)),r34.2.1,r34.2.2.1,r34.2.2.2))
    else
      (p_is r34.2.1 r34.2.2.1 r34.2.2.2 [102,97,108,115,101]).bind fun r41 =>
      if r41.1=true then
        some (.ok ((TExpr.mk 2 0 [] ([]:List TExpr)),r41.2.1,r41.2.2.1,r41.2.2.2))
      else
        (p_is r41.2.1 r41.2.2.1 r41.2.2.2 [40]).bind fun r48 =>
        if r48.1=true then
          bT (self.p_expr r48.2.1 r48.2.2.1 r48.2.2.2) fun r55 =>
          bT (p_need r55.2.1 r55.2.2.1 r55.2.2.2 [[41]]) fun r70 =>
          some (.ok (r55.1,r70.1,r70.2.1,r70.2.2))
        else
          (p_is r48.2.1 r48.2.2.1 r48.2.2.2 [114,101,99,118]).bind fun r76 =>
          if r76.1=true then
            bT (p_need r76.2.1 r76.2.2.1 r76.2.2.2 [[40]]) fun r87 =>
            bT (p_name fu r87.1 r87.2.1 r87.2.2) fun r93 =>
            bT (p_need r93.2.1 r93.2.2.1 r93.2.2.2 [[41]]) fun r105 =>
            some (.ok ((TExpr.mk 20 0 r93.1 ([]:List TExpr)),r105.1,r105.2.1,r105.2.2))
          else
            (p_is r76.2.1 r76.2.2.1 r76.2.2.2 [121,105,101,108,100]).bind fun r111 =>
            if r111.1=true then
              bT (self.p_fixed r111.2.1 r111.2.2.1 r111.2.2.2 21 1) fun r118 =>
              some (.ok (r118.1,r118.2.1,r118.2.2.1,r118.2.2.2))
            else
              (p_is r111.2.1 r111.2.2.1 r111.2.2.2 [114,101,115,117,109,101]).bind fun r127 =>
              if r127.1=true then
                bT (self.p_fixed r127.2.1 r127.2.2.1 r127.2.2.2 23 2) fun r134 =>
                some (.ok (r134.1,r134.2.1,r134.2.2.1,r134.2.2.2))
              else
                (p_is r127.2.1 r127.2.2.1 r127.2.2.2 [97,108,105,118,101]).bind fun r143 =>
                if r143.1=true then
                  bT (self.p_fixed r143.2.1 r143.2.2.1 r143.2.2.2 24 1) fun r150 =>
                  some (.ok (r150.1,r150.2.1,r150.2.2.1,r150.2.2.2))
                else
                  (p_is r143.2.1 r143.2.2.1 r143.2.2.2 [115,116,97,114,116]).bind fun r159 =>
                  if r159.1=true then
                    bT (p_name fu r159.2.1 r159.2.2.1 r159.2.2.2) fun r166 =>
                    bT (self.p_args r166.2.1 r166.2.2.1 r166.2.2.2) fun r172 =>
                    some (.ok ((TExpr.mk 22 0 r166.1 r172.1),r172.2.1,r172.2.2.1,r172.2.2.2))
                  else
                    bT (p_name fu r159.2.1 r159.2.2.1 r159.2.2.2) fun r181 =>
                    (p_sees r181.2.1 r181.2.2.1 r181.2.2.2 [40]).bind fun r187 =>
                    if r187=true then
                      bT (self.p_args r181.2.1 r181.2.2.1 r181.2.2.2) fun r191 =>
                      some (.ok ((TExpr.mk 19 0 r181.1 r191.1),r191.2.1,r191.2.2.1,r191.2.2.2))
                    else
                      some (.ok ((TExpr.mk 3 0 r181.1 ([]:List TExpr)),r181.2.1,r181.2.2.1,r181.2.2.2))
def p_primary (fu:Nat) (self:ParE) (left_2:List TToken) (end_6:Int) (deep_7:Int):Option (Except TFault (TExpr×List TToken×Int×Int)) :=
  if (0:Int)<(left_2.length:Int) then
    (at_ left_2 0).bind fun x18 =>
    p_primary_j1 fu self left_2 end_6 deep_7 (decide (x18.Kind=2))
  else
    p_primary_j1 fu self left_2 end_6 deep_7 false
def p_args_j1 (self:ParE) (l74:List TExpr) (k_p_args_l1:(List TToken)→Int→Int→(List TExpr)→Option (Except TFault (List TExpr×List TToken×Int×Int))) (l129:List TToken) (i131:Int) (i132:Int):Option (Except TFault (List TExpr×List TToken×Int×Int)) :=
  if (l74.length:Int)=6 then
    (p_at l129 i131 i132).bind fun r147 =>
    some (.error (TFault.mk 5 r147))
  else
    bT (self.p_expr l129 i131 i132) fun r150 =>
    (app l74 [r150.1]).bind fun l163 =>
    k_p_args_l1 r150.2.1 r150.2.2.1 r150.2.2.2 l163
def p_args_l1 (self:ParE):Nat→(List TToken)→Int→Int→(List TExpr)→Option (Except TFault (List TExpr×List TToken×Int×Int))
  | 0,_,_,_,_=>none
  | n+1,l68,i70,i71,l74 =>
    (p_is l68 i70 i71 [41]).bind fun r120 =>
    if r120.1=true then
      some (.ok (l74,r120.2.1,r120.2.2.1,r120.2.2.2))
    else
      if (0:Int)<(l74.length:Int) then
        bT (p_need r120.2.1 r120.2.2.1 r120.2.2.2 [[44]]) fun r138 =>
        p_args_j1 self l74 (p_args_l1 self n) r138.1 r138.2.1 r138.2.2
      else
        p_args_j1 self l74 (p_args_l1 self n) r120.2.1 r120.2.2.1 r120.2.2.2
def p_args (fu:Nat) (self:ParE) (left_2:List TToken) (end_6:Int) (deep_7:Int):Option (Except TFault (List TExpr×List TToken×Int×Int)) :=
  bT (p_need left_2 end_6 deep_7 [[40]]) fun r18 =>
  p_args_l1 self fu r18.1 r18.2.1 r18.2.2 []
def p_fixed_j2 (i63:Int) (k_p_fixed_l1:Int→(List TToken)→Int→Int→(List TExpr)→Option (Except TFault (TExpr×List TToken×Int×Int))) (l133:List TToken) (i135:Int) (i136:Int) (l139:List TExpr):Option (Except TFault (TExpr×List TToken×Int×Int)) :=
  (i64 (i63+1)).bind fun i160 =>
  k_p_fixed_l1 i160 l133 i135 i136 l139
def p_fixed_j1 (self:ParE) (i63:Int) (l72:List TExpr) (k_p_fixed_l1:Int→(List TToken)→Int→Int→(List TExpr)→Option (Except TFault (TExpr×List TToken×Int×Int))) (l114:List TToken) (i116:Int) (i117:Int):Option (Except TFault (TExpr×List TToken×Int×Int)) :=
  bT (self.p_expr l114 i116 i117) fun r141 =>
  (app l72 [r141.1]).bind fun l154 =>
  p_fixed_j2 i63 k_p_fixed_l1 r141.2.1 r141.2.2.1 r141.2.2.2 l154
def p_fixed_l1 (self:ParE) (p_2:Int) (p_3:Int):Nat→Int→(List TToken)→Int→Int→(List TExpr)→Option (Except TFault (TExpr×List TToken×Int×Int))
  | 0,_,_,_,_,_=>none
  | n+1,i63,l66,i68,i69,l72 =>
    if i63<p_3 then
      if (0:Int)<i63 then
        bT (p_need l66 i68 i69 [[44]]) fun r123 =>
        p_fixed_j1 self i63 l72 (p_fixed_l1 self p_2 p_3 n) r123.1 r123.2.1 r123.2.2
      else
        p_fixed_j1 self i63 l72 (p_fixed_l1 self p_2 p_3 n) l66 i68 i69
    else
      bT (p_need l66 i68 i69 [[41]]) fun r166 =>
      some (.ok ((TExpr.mk p_2 0 [] l72),r166.1,r166.2.1,r166.2.2))
def p_fixed (self:ParE) (left_2:List TToken) (end_6:Int) (deep_7:Int) (p_2:Int) (p_3:Int):Option (Except TFault (TExpr×List TToken×Int×Int)) :=
  bT (p_need left_2 end_6 deep_7 [[40]]) fun r22 =>
  p_fixed_l1 self p_2 p_3 ((p_3 - 0).toNat+1) 0 r22.1 r22.2.1 r22.2.2 []
def ParE_run:Nat→ParE
  | 0=>⟨fun _ _ _=>none,fun _ _ _ _=>none,fun _ _ _=>none,fun _ _ _=>none,fun _ _ _=>none,fun _ _ _ _ _=>none⟩
  | n+1=>⟨p_expr (ParE_run n),p_level n (ParE_run n),p_unary (ParE_run n),p_primary n (ParE_run n),p_args n (ParE_run n),p_fixed (ParE_run n)⟩
structure ParS where
  p_body:(List TToken)→Int→Int→Option (Except TFault (List TStat×List TToken×Int×Int))
  p_stat:(List TToken)→Int→Int→Option (Except TFault (TStat×List TToken×Int×Int))
def p_body_l1 (self:ParS):Nat→(List TToken)→Int→Int→(List TStat)→Option (Except TFault (List TStat×List TToken×Int×Int))
  | 0,_,_,_,_=>none
  | n+1,l65,i67,i68,l71 =>
    (p_is l65 i67 i68 [125]).bind fun r107 =>
    if r107.1=true then
      (p_out r107.2.1 r107.2.2.1 r107.2.2.2).bind fun r140 =>
      some (.ok (l71,r140.1,r140.2.1,r140.2.2))
    else
      if (l71.length:Int)=50 then
        (p_at r107.2.1 r107.2.2.1 r107.2.2.2).bind fun r115 =>
        some (.error (TFault.mk 5 r115))
      else
        bT (self.p_stat r107.2.1 r107.2.2.1 r107.2.2.2) fun r118 =>
        (app l71 [r118.1]).bind fun l137 =>
        p_body_l1 self n r118.2.1 r118.2.2.1 r118.2.2.2 l137
def p_body (fu:Nat) (self:ParS) (left_2:List TToken) (end_6:Int) (deep_7:Int):Option (Except TFault (List TStat×List TToken×Int×Int)) :=
  bT (p_into left_2 end_6 deep_7) fun r14 =>
  bT (p_need r14.1 r14.2.1 r14.2.2 [[123]]) fun r25 =>
  p_body_l1 self fu r25.1 r25.2.1 r25.2.2 []
def p_stat_j1  (l26:List TToken) (i28:Int) (i29:Int) (i30:Int) (s31:List UInt8) (i33:Int) (i34:Int) (s35:List UInt8) (l38:List TExpr):Option (Except TFault (TStat×List TToken×Int×Int)) :=
  bT (p_need l26 i28 i29 [[59]]) fun r260 =>
  some (.ok ((TStat.mk i30 s31 (TExpr.mk i33 i34 s35 l38) ([]:List TStat) ([]:List TStat)),r260.1,r260.2.1,r260.2.2))
def p_stat_j2 (r47:TExpr×List TToken×Int×Int) (r56:List TStat×List TToken×Int×Int) (l73:List TToken) (i75:Int) (i76:Int) (l79:List TStat):Option (Except TFault (TStat×List TToken×Int×Int)) :=
  some (.ok ((TStat.mk 3 [] (TExpr.mk r47.1.Kind r47.1.N r47.1.Name r47.1.Kids) r56.1 l79),l73,i75,i76))
def p_stat (fu:Nat) (self:ParS) (left_2:List TToken) (end_6:Int) (deep_7:Int):Option (Except TFault (TStat×List TToken×Int×Int)) :=
  (p_is left_2 end_6 deep_7 [105,102]).bind fun r40 =>
  if r40.1=true then
    bT ((ParE_run fu).p_expr r40.2.1 r40.2.2.1 r40.2.2.2) fun r47 =>
    bT (self.p_body r47.2.1 r47.2.2.1 r47.2.2.2) fun r56 =>
    (p_is r56.2.1 r56.2.2.1 r56.2.2.2 [101,108,115,101]).bind fun r65 =>
    if r65.1=true then
      bT (self.p_body r65.2.1 r65.2.2.1 r65.2.2.2) fun r82 =>
      p_stat_j2 r47 r56 r82.2.1 r82.2.2.1 r82.2.2.2 r82.1
    else
      p_stat_j2 r47 r56 r65.2.1 r65.2.2.1 r65.2.2.2 []
  else
    (p_is r40.2.1 r40.2.2.1 r40.2.2.2 [119,104,105,108,101]).bind fun r94 =>
    if r94.1=true then
      bT ((ParE_run fu).p_expr r94.2.1 r94.2.2.1 r94.2.2.2) fun r101 =>
      bT (self.p_body r101.2.1 r101.2.2.1 r101.2.2.2) fun r110 =>
      some (.ok ((TStat.mk 4 [] (TExpr.mk r101.1.Kind r101.1.N r101.1.Name r101.1.Kids) r110.1 ([]:List TStat)),r110.2.1,r110.2.2.1,r110.2.2.2))
    else
      (p_is r94.2.1 r94.2.2.1 r94.2.2.2 [108,101,116]).bind fun r119 =>
      if r119.1=true then
        bT (p_name fu r119.2.1 r119.2.2.1 r119.2.2.2) fun r126 =>
        bT (p_need r126.2.1 r126.2.2.1 r126.2.2.2 [[61]]) fun r136 =>
        bT ((ParE_run fu).p_expr r136.1 r136.2.1 r136.2.2) fun r142 =>
        p_stat_j1 r142.2.1 r142.2.2.1 r142.2.2.2 1 r126.1 r142.1.Kind r142.1.N r142.1.Name r142.1.Kids
      else
        (p_is r119.2.1 r119.2.2.1 r119.2.2.2 [114,101,116,117,114,110]).bind fun r151 =>
        if r151.1=true then
          bT ((ParE_run fu).p_expr r151.2.1 r151.2.2.1 r151.2.2.2) fun r158 =>
          p_stat_j1 r158.2.1 r158.2.2.1 r158.2.2.2 5 [] r158.1.Kind r158.1.N r158.1.Name r158.1.Kids
        else
          (p_is r151.2.1 r151.2.2.1 r151.2.2.2 [115,116,111,112]).bind fun r167 =>
          if r167.1=true then
            p_stat_j1 r167.2.1 r167.2.2.1 r167.2.2.2 6 [] 0 0 [] []
          else
            (p_is r167.2.1 r167.2.2.1 r167.2.2.2 [115,101,110,100]).bind fun r174 =>
            if r174.1=true then
              bT (p_name fu r174.2.1 r174.2.2.1 r174.2.2.2) fun r181 =>
              bT ((ParE_run fu).p_expr r181.2.1 r181.2.2.1 r181.2.2.2) fun r187 =>
              p_stat_j1 r187.2.1 r187.2.2.1 r187.2.2.2 7 r181.1 r187.1.Kind r187.1.N r187.1.Name r187.1.Kids
            else
              (p_is r174.2.1 r174.2.2.1 r174.2.2.2 [111,117,116]).bind fun r196 =>
              if r196.1=true then
                bT ((ParE_run fu).p_expr r196.2.1 r196.2.2.1 r196.2.2.2) fun r203 =>
                p_stat_j1 r203.2.1 r203.2.2.1 r203.2.2.2 8 [] r203.1.Kind r203.1.N r203.1.Name r203.1.Kids
              else
                (p_is r196.2.1 r196.2.2.1 r196.2.2.2 [100,111]).bind fun r212 =>
                if r212.1=true then
                  bT ((ParE_run fu).p_expr r212.2.1 r212.2.2.1 r212.2.2.2) fun r219 =>
                  p_stat_j1 r219.2.1 r219.2.2.1 r219.2.2.2 9 [] r219.1.Kind r219.1.N r219.1.Name r219.1.Kids
                else
                  bT (p_name fu r212.2.1 r212.2.2.1 r212.2.2.2) fun r228 =>
                  bT (p_need r228.2.1 r228.2.2.1 r228.2.2.2 [[61]]) fun r238 =>
                  bT ((ParE_run fu).p_expr r238.1 r238.2.1 r238.2.2) fun r244 =>
                  p_stat_j1 r244.2.1 r244.2.2.1 r244.2.2.2 2 r228.1 r244.1.Kind r244.1.N r244.1.Name r244.1.Kids
def ParS_run:Nat→ParS
  | 0=>⟨fun _ _ _=>none,fun _ _ _=>none⟩
  | n+1=>⟨p_body n (ParS_run n),p_stat n (ParS_run n)⟩
def p_def_j1 (r29:List UInt8×List TToken×Int×Int) (r35:TType×List TToken×Int×Int) (r43:Int) (r46:Int×List TToken×Int×Int) (b52:Bool):Option (Except TFault (TDef×List TToken×Int×Int)) :=
  if b52=true then
    some (.error (TFault.mk 3 r43))
  else
    bT (p_need r46.2.1 r46.2.2.1 r46.2.2.2 [[59]]) fun r60 =>
    some (.ok ((TDef.mk 1 r29.1 (TType.mk r35.1.Kind r35.1.Gen) (TType.mk 0 []) r46.1 ([]:List TParam) ([]:List TStat)),r60.1,r60.2.1,r60.2.2))
def p_def (fu:Nat)  (left_2:List TToken) (end_6:Int) (deep_7:Int):Option (Except TFault (TDef×List TToken×Int×Int)) :=
  (p_at left_2 end_6 deep_7).bind fun r19 =>
  (p_is left_2 end_6 deep_7 [98,111,120]).bind fun r22 =>
  if r22.1=true then
    bT (p_name fu r22.2.1 r22.2.2.1 r22.2.2.2) fun r29 =>
    bT (p_typ fu r29.2.1 r29.2.2.1 r29.2.2.2) fun r35 =>
    (p_at r35.2.1 r35.2.2.1 r35.2.2.2).bind fun r43 =>
    bT (p_number r35.2.1 r35.2.2.1 r35.2.2.2) fun r46 =>
    if r46.1<1 then
      p_def_j1 r29 r35 r43 r46 true
    else
      p_def_j1 r29 r35 r43 r46 (decide ((20:Int)<r46.1))
  else
    (p_is r22.2.1 r22.2.2.1 r22.2.2.2 [102,110]).bind fun r66 =>
    if r66.1=true then
      bT (p_name fu r66.2.1 r66.2.2.1 r66.2.2.2) fun r73 =>
      bT (p_params fu r73.2.1 r73.2.2.1 r73.2.2.2) fun r79 =>
      bT (p_typ fu r79.2.1 r79.2.2.1 r79.2.2.2) fun r90 =>
      bT ((ParS_run fu).p_body r90.2.1 r90.2.2.1 r90.2.2.2) fun r96 =>
      some (.ok ((TDef.mk 2 r73.1 (TType.mk r90.1.Kind r90.1.Gen) (TType.mk 0 []) 0 r79.1 r96.1),r96.2.1,r96.2.2.1,r96.2.2.2))
    else
      (p_is r66.2.1 r66.2.2.1 r66.2.2.2 [103,101,110]).bind fun r105 =>
      if r105.1=true then
        bT (p_name fu r105.2.1 r105.2.2.1 r105.2.2.2) fun r112 =>
        bT (p_params fu r112.2.1 r112.2.2.1 r112.2.2.2) fun r118 =>
        bT (p_need r118.2.1 r118.2.2.1 r118.2.2.2 [[116,97,107,101,115]]) fun r133 =>
        bT (p_typ fu r133.1 r133.2.1 r133.2.2) fun r139 =>
        bT (p_need r139.2.1 r139.2.2.1 r139.2.2.2 [[121,105,101,108,100,115]]) fun r149 =>
        bT (p_typ fu r149.1 r149.2.1 r149.2.2) fun r155 =>
        bT ((ParS_run fu).p_body r155.2.1 r155.2.2.1 r155.2.2.2) fun r161 =>
        some (.ok ((TDef.mk 3 r112.1 (TType.mk r155.1.Kind r155.1.Gen) (TType.mk r139.1.Kind r139.1.Gen) 0 r118.1 r161.1),r161.2.1,r161.2.2.1,r161.2.2.2))
      else
        (p_is r105.2.1 r105.2.2.1 r105.2.2.2 [116,97,115,107]).bind fun r170 =>
        if r170.1=true then
          bT (p_name fu r170.2.1 r170.2.2.1 r170.2.2.2) fun r177 =>
          bT ((ParS_run fu).p_body r177.2.1 r177.2.2.1 r177.2.2.2) fun r183 =>
          some (.ok ((TDef.mk 4 r177.1 (TType.mk 0 []) (TType.mk 0 []) 0 ([]:List TParam) r183.1),r183.2.1,r183.2.2.1,r183.2.2.2))
        else
          some (.error (TFault.mk 2 r19))
end Go.Y
namespace Go.Y
open Go.Wk Go.Xt
theorem is_swap {α:Type} {l:List TToken} {e d:Int} {k1 k2:List UInt8} (hne:¬ k1=k2) {A B C:Bool×List TToken×Int×Int→Option α} {r:α}
    (h:(Option.bind (p_is l e d k1) fun x=>if x.1=true then A x else Option.bind (p_is x.2.1 x.2.2.1 x.2.2.2 k2) fun y=>if y.1=true then B y else C y)=some r) :
    (Option.bind (p_is l e d k2) fun y=>if y.1=true then B y else Option.bind (p_is y.2.1 y.2.2.1 y.2.2.2 k1) fun x=>if x.1=true then A x else C x)=some r:=by
  have key:∀ k,(p_sees l e d k=some false∧p_is l e d k=some (false,l,e,d))∨(∃ t l',l=t::l'∧t.Text=k∧p_is l e d k=some (true,l',e,d)):=by
    intro k
    cases l with
    | nil=>first | (left; simp [p_sees,p_is]; done) | (exfalso; simp [p_sees,p_is] at h)
    | cons t l' =>
      by_cases hk:t.Text=k
      · right
        refine ⟨t,l',rfl,hk,?_⟩
        have h1:(0:Int)<((l'.length+1:Nat):Int):=by omega
        have h2:(1:Int)≤((l'.length+1:Nat):Int):=by omega
        have hc:cut (t::l') 1 ((t::l').length)=some l':=by
          unfold cut
          rw [if_pos ⟨by omega,by simpa using h2,by simp⟩]
          simp
        have hs:p_sees (t::l') e d k=some true:=by
          unfold p_sees
          rw [if_pos (by simp)]
          simp [at_,hk]
        unfold p_is
        rw [hs,Option.bind_some]
        simp only [if_true]
        rw [hc]
        rfl
      · left
        have h1:(0:Int)<((l'.length+1:Nat):Int):=by omega
        simp [p_is,p_sees,at_,hk,h1]
  rcases key k1 with ⟨s1,i1⟩ | ⟨t,l',hl,ht,i1⟩
  · rw [i1,Option.bind_some] at h
    simp only [Bool.false_eq_true,if_false] at h
    rcases key k2 with ⟨s2,i2⟩ | ⟨t,l',hl,ht,i2⟩
    · rw [i2,Option.bind_some] at h ⊢
      simp only [Bool.false_eq_true,if_false] at h ⊢
      rw [i1,Option.bind_some]
      simpa using h
    · rw [i2,Option.bind_some] at h ⊢
      simp only [if_true] at h ⊢
      exact h
  · rw [i1,Option.bind_some] at h
    simp only [if_true] at h
    rcases key k2 with ⟨s2,i2⟩ | ⟨t2,l2,hl2,ht2,i2⟩
    · rw [i2,Option.bind_some]
      simp only [Bool.false_eq_true,if_false]
      rw [i1,Option.bind_some]
      simpa using h
    · rw [hl] at hl2
      obtain ⟨rfl,rfl⟩:=List.cons.inj hl2
      exact absurd (ht.symm.trans ht2) hne
end Go.Y
namespace Go.Y
open Go.Wk Go.Xt
def p_done:Option Unit:=some ()
def syn_read_j1 (r8:List TToken×TFault) :Option (List TDef×TFault) :=
  some (([]:List TDef),r8.2)
def syn_read_j2 (k_syn_read_l1:(List TToken)→Int→Int→(List TDef)→Option (List TDef×TFault)) (l83:List TToken) (i85:Int) (i86:Int) (l89:List TDef):Option (List TDef×TFault) :=
  k_syn_read_l1 l83 i85 i86 l89
def syn_read_j3 (r118:TFault) :Option (List TDef×TFault) :=
  (p_done ).bind fun r125 =>
  some (([]:List TDef),(TFault.mk r118.Err 0))
def syn_read_j4 (r8:List TToken×TFault) (l49:List TDef) :Option (List TDef×TFault) :=
  (p_done ).bind fun r129 =>
  some (l49,r8.2)
def syn_read_l1 (fu:Nat) (r8:List TToken×TFault):Nat→(List TToken)→Int→Int→(List TDef)→Option (List TDef×TFault)
  | 0,_,_,_,_=>none
  | n+1,l43,i45,i46,l49 =>
    if (0:Int)<(l43.length:Int) then
      if (l49.length:Int)=30 then
        (p_at l43 i45 i46).bind fun r78 =>
        some (([]:List TDef),TFault.mk 5 r78)
      else
        bC (p_def fu l43 i45 i46) (fun e_=>(([]:List TDef),e_)) fun r91 =>
        (app l49 [r91.1]).bind fun l107 =>
        syn_read_j2 (syn_read_l1 fu r8 n) r91.2.1 r91.2.2.1 r91.2.2.2 l107
    else
      (syn_wrong fu l49).bind fun r118 =>
      if r118.Err≠0 then
        syn_read_j3 r118
      else
        syn_read_j4 r8 l49
def syn_read (fu:Nat)  (p_1:List UInt8):Option (List TDef×TFault) :=
  (lex_tokens fu p_1).bind fun r8 =>
  if r8.2.Err≠0 then
    syn_read_j1 r8
  else
    syn_read_l1 fu r8 fu r8.1 (p_1.length:Int) 0 []
end Go.Y
namespace Go.Y
open Go.Wk Go.Xt
def tx_1:List UInt8:=[98,111,120,32,98,32,110,117,109,32,50,32,59,32,116,97,115,107,32,116,32,123,32,115,101,110,100,32,98,32,49,32,43,32,50,32,42,32,51,32,59,32,125]
structure SmE where
  sm_expr:TExpr→TExpr→Option Bool
def sm_expr_l1 (self:SmE) (p_1:TExpr) (p_2:TExpr):Nat→Int→Option Bool
  | 0,_=>none
  | n+1,i44 =>
    if i44<(p_1.Kids.length:Int) then
      (at_ p_1.Kids i44).bind fun x74 =>
      (at_ p_2.Kids i44).bind fun x85 =>
      (self.sm_expr x74 x85).bind fun r96 =>
      if r96=true then
        (i64 (i44+1)).bind fun i100 =>
        sm_expr_l1 self p_1 p_2 n i100
      else
        some false
    else
      some true
def sm_expr_j1 (self:SmE) (p_1:TExpr) (p_2:TExpr) (b11:Bool):Option Bool :=
  if b11=true then
    some false
  else
    sm_expr_l1 self p_1 p_2 (p_1.Kids.length+1) 0
def sm_expr (self:SmE) (p_1:TExpr) (p_2:TExpr):Option Bool :=
  if p_1.Kind≠p_2.Kind then
    sm_expr_j1 self p_1 p_2 true
  else
    if p_1.N≠p_2.N then
      sm_expr_j1 self p_1 p_2 true
    else
      if p_1.Name≠p_2.Name then
        sm_expr_j1 self p_1 p_2 true
      else
        sm_expr_j1 self p_1 p_2 (decide ((p_1.Kids.length:Int)≠(p_2.Kids.length:Int)))
def SmE_run:Nat→SmE
  | 0=>⟨fun _ _=>none⟩
  | n+1=>⟨sm_expr (SmE_run n)⟩
structure SmS where
  sm_stats:(List TStat)→(List TStat)→Option Bool
def sm_stats_j1 (i194:Int) (k_sm_stats_l1:Int→Option Bool) (b383:Bool):Option Bool :=
  if b383=true then
    some false
  else
    (i64 (i194+1)).bind fun i569 =>
    k_sm_stats_l1 i569
def sm_stats_l1 (fu:Nat) (self:SmS) (p_1:List TStat) (p_2:List TStat):Nat→Int→Option Bool
  | 0,_=>none
  | n+1,i194 =>
    if i194<(p_1.length:Int) then
      (at_ p_1 i194).bind fun x384 =>
      (at_ p_2 i194).bind fun x401 =>
      if x384.Kind≠x401.Kind then
        sm_stats_j1 i194 (sm_stats_l1 fu self p_1 p_2 n) true
      else
        (at_ p_1 i194).bind fun x419 =>
        (at_ p_2 i194).bind fun x436 =>
        if x419.Name≠x436.Name then
          sm_stats_j1 i194 (sm_stats_l1 fu self p_1 p_2 n) true
        else
          (at_ p_1 i194).bind fun x454 =>
          (at_ p_2 i194).bind fun x471 =>
          ((SmE_run fu).sm_expr x454.X x471.X).bind fun r488 =>
          if r488=true then
            (at_ p_1 i194).bind fun x492 =>
            (at_ p_2 i194).bind fun x509 =>
            (self.sm_stats x492.Body x509.Body).bind fun r526 =>
            if r526=true then
              (at_ p_1 i194).bind fun x530 =>
              (at_ p_2 i194).bind fun x547 =>
              (self.sm_stats x530.Else x547.Else).bind fun r564 =>
              sm_stats_j1 i194 (sm_stats_l1 fu self p_1 p_2 n) (!r564)
            else
              sm_stats_j1 i194 (sm_stats_l1 fu self p_1 p_2 n) true
          else
            sm_stats_j1 i194 (sm_stats_l1 fu self p_1 p_2 n) true
    else
      some true
def sm_stats (fu:Nat) (self:SmS) (p_1:List TStat) (p_2:List TStat):Option Bool :=
  if (p_1.length:Int)≠(p_2.length:Int) then
    some false
  else
    sm_stats_l1 fu self p_1 p_2 (p_1.length+1) 0
def SmS_run:Nat→SmS
  | 0=>⟨fun _ _=>none⟩
  | n+1=>⟨sm_stats n (SmS_run n)⟩
def sm_same_l2 (i107:Int) (l219:List TParam) (l235:List TParam) (k_sm_same_l1:Int→Option Bool):Nat→Int→Option Bool
  | 0,_=>none
  | n+1,i312 =>
    if i312<(l219.length:Int) then
      (at_ l219 i312).bind fun x333 =>
      (at_ l235 i312).bind fun x341 =>
      if (andL [(decide (x333.Name=x341.Name)),(andL [(decide (x333.Typ.Kind=x341.Typ.Kind)),(decide (x333.Typ.Gen=x341.Typ.Gen))])])=true then
        (i64 (i312+1)).bind fun i350 =>
        sm_same_l2 i107 l219 l235 k_sm_same_l1 n i350
      else
        some false
    else
      (i64 (i107+1)).bind fun i352 =>
      k_sm_same_l1 i352
def sm_same_j2 (i107:Int) (l219:List TParam) (l235:List TParam) (k_sm_same_l1:Int→Option Bool) (b282:Bool):Option Bool :=
  if b282=true then
    some false
  else
    sm_same_l2 i107 l219 l235 k_sm_same_l1 (l219.length+1) 0
def sm_same_j1 (fu:Nat) (i107:Int) (k_sm_same_l1:Int→Option Bool) (i210:Int) (s211:List UInt8) (i212:Int) (s213:List UInt8) (i214:Int) (s215:List UInt8) (i216:Int) (l219:List TParam) (l223:List TStat) (i226:Int) (s227:List UInt8) (i228:Int) (s229:List UInt8) (i230:Int) (s231:List UInt8) (i232:Int) (l235:List TParam) (l239:List TStat):Option Bool :=
  if i210≠i226 then
    sm_same_j2 i107 l219 l235 k_sm_same_l1 true
  else
    if s211≠s227 then
      sm_same_j2 i107 l219 l235 k_sm_same_l1 true
    else
      if (andL [(decide (i212=i228)),(decide (s213=s229))])=true then
        if (andL [(decide (i214=i230)),(decide (s215=s231))])=true then
          if i216≠i232 then
            sm_same_j2 i107 l219 l235 k_sm_same_l1 true
          else
            if (l219.length:Int)≠(l235.length:Int) then
              sm_same_j2 i107 l219 l235 k_sm_same_l1 true
            else
              ((SmS_run fu).sm_stats l223 l239).bind fun r289 =>
              sm_same_j2 i107 l219 l235 k_sm_same_l1 (!r289)
        else
          sm_same_j2 i107 l219 l235 k_sm_same_l1 true
      else
        sm_same_j2 i107 l219 l235 k_sm_same_l1 true
def sm_same_l1 (fu:Nat) (p_1:List TDef) (p_2:List TDef):Nat→Int→Option Bool
  | 0,_=>none
  | n+1,i107 =>
    if i107<(p_1.length:Int) then
      (at_ p_1 i107).bind fun x241 =>
      (at_ p_2 i107).bind fun x255 =>
      sm_same_j1 fu i107 (sm_same_l1 fu p_1 p_2 n) x241.Kind x241.Name x241.Typ.Kind x241.Typ.Gen x241.Takes.Kind x241.Takes.Gen x241.Cap x241.Params x241.Body x255.Kind x255.Name x255.Typ.Kind x255.Typ.Gen x255.Takes.Kind x255.Takes.Gen x255.Cap x255.Params x255.Body
    else
      some true
def sm_same (fu:Nat)  (p_1:List TDef) (p_2:List TDef):Option Bool :=
  if (p_1.length:Int)≠(p_2.length:Int) then
    some false
  else
    sm_same_l1 fu p_1 p_2 (p_1.length+1) 0
def l2_alive (fu:Nat)  :Option Bool :=
  (syn_read fu tx_1).bind fun r1 =>
  if r1.2.Err=0 then
    if (r1.1.length:Int)=2 then
      (at_ r1.1 0).bind fun x11 =>
      if x11.Cap=2 then
        (at_ r1.1 1).bind fun x26 =>
        if (x26.Body.length:Int)=1 then
          (at_ r1.1 1).bind fun x41 =>
          (at_ x41.Body 0).bind fun x55 =>
          some (decide (x55.X.Kind=6))
        else
          some false
      else
        some false
    else
      some false
  else
    some false
end Go.Y
namespace Go.Y
open Go.Wk Go.Xt
def law_synj_j1 (fu:Nat) (p_1:List UInt8) (p_2:List UInt8) (r5:List TDef×TFault) (r13:List TDef×TFault) (b21:Bool):Option Bool :=
  if b21=true then
    some true
  else
    (cat p_1 [10]).bind fun s25 =>
    (cat s25 p_2).bind fun s27 =>
    (syn_read fu s27).bind fun r29 =>
    if r29.2.Err≠0 then
      if r29.2.Err=5 then
        some true
      else
        some (decide (r29.2.Err=4))
    else
      (app ([]:List TDef) r5.1).bind fun l44 =>
      (app l44 r13.1).bind fun l51 =>
      (sm_same fu r29.1 l51).bind fun r61 =>
      some r61
def law_synj (fu:Nat)  (p_1:List UInt8) (p_2:List UInt8):Option Bool :=
  (l2_alive fu).bind fun r1 =>
  if r1=true then
    (syn_read fu p_1).bind fun r5 =>
    (syn_read fu p_2).bind fun r13 =>
    if r5.2.Err≠0 then
      law_synj_j1 fu p_1 p_2 r5 r13 true
    else
      law_synj_j1 fu p_1 p_2 r5 r13 (decide (r13.2.Err≠0))
  else
    some false
end Go.Y
