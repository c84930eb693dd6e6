/- Texts of Md. -/
import Derived.Test.YteiemedhecjgiaaCXu
set_option linter.unusedSimpArgs false
set_option linter.unusedVariables false
set_option linter.unusedSectionVars false
namespace Go.Y
open Go.Wk Go.Xt
structure TExpr where
  Kind:Int
  N:Int
  Name:List UInt8
  Kids:List TExpr
  deriving Inhabited,Repr
structure TStat where
  Kind:Int
  Name:List UInt8
  X:TExpr
  Body:List TStat
  Else:List TStat
  deriving Inhabited,Repr
def Els {α:Type} (sz:Nat) (μ:M) (a:Option Addr) (c:Nat) (xs:List α) (g:Nat→List Value):Prop :=
  xs.length≤c∧c≤maxLen∧(xs=[]∨∃ b o,a=some ⟨b,o,none⟩∧∀ (i:Nat) (y:α),xs[i]?=some y→At μ b (o+i*sz) (g i))
inductive ExprCs (μ:M):List Value→TExpr→Prop where
  | mk (x:TExpr) (a:Option Addr) (c:Nat) (g:Nat→List Value) (h:Els 4 μ a c x.Kids g) (k:∀ (i:Nat) (y:TExpr),x.Kids[i]?=some y→ExprCs μ (g i) y) :
    ExprCs μ [.int .i64 x.Kind,.int .i64 x.N,S x.Name,.slice a x.Kids.length c] x
theorem Els.sl {α:Type} {sz:Nat} {μ:M} {a:Option Addr} {c:Nat} {xs:List α} {g:Nat→List Value} {R:List Value→α→Prop} (h:Els sz μ a c xs g) (k:∀ (i:Nat) (y:α),xs[i]?=some y→R (g i) y):SlR sz R μ a c xs:=by
  refine ⟨h.1,h.2.1,?_⟩
  rcases h.2.2 with h | ⟨b,o,ha,hg⟩
  · exact .inl h
  · exact .inr ⟨b,o,ha,g,fun i x hx=>⟨hg i x hx,k i x hx⟩⟩
theorem Els.of {α:Type} {sz:Nat} {μ:M} {a:Option Addr} {c:Nat} {xs:List α} {R:List Value→α→Prop} (h:SlR sz R μ a c xs):∃ g,Els sz μ a c xs g∧∀ (i:Nat) (y:α),xs[i]?=some y→R (g i) y:=by
  rcases h.el with h1 | ⟨b,o,ha,g,hg⟩
  · exact ⟨fun _=>[],⟨h.le,h.cap,.inl h1⟩,fun i y hy=>by simp [h1] at hy⟩
  · exact ⟨g,⟨h.le,h.cap,.inr ⟨b,o,ha,fun i y hy=>(hg i y hy).1⟩⟩,fun i y hy=>(hg i y hy).2⟩
theorem Els.up {α:Type} {sz:Nat} {μ μ':M} {a:Option Addr} {c:Nat} {xs:List α} {g:Nat→List Value} (h:Els sz μ a c xs g) (l:Le μ μ'):Els sz μ' a c xs g:=by
  refine ⟨h.1,h.2.1,?_⟩
  rcases h.2.2 with h | ⟨b,o,ha,hg⟩
  · exact .inl h
  · exact .inr ⟨b,o,ha,fun i y hy=>(hg i y hy).up l⟩
theorem ExprCs.up {μ μ':M} (l:Le μ μ') {cs:List Value} {x:TExpr} (h:ExprCs μ cs x):ExprCs μ' cs x:=by
  induction h with
  | mk x a c g h k ih=>exact .mk x a c g (h.up l) ih
instance:Mo TExpr where
  sz:=4
  pos:=by decide
  cs:=ExprCs
  ln h:=by cases h; rfl
  up l h:=ExprCs.up l h
  cv h:=by cases h; rfl
theorem TExpr.o {μ:M} {l:List Value} {x:TExpr} (h:Mo.cs μ l x):∃ a c,l=[.int .i64 x.Kind,.int .i64 x.N,S x.Name,.slice a x.Kids.length c]∧Sl μ a c x.Kids:=by
  have hh:ExprCs μ l x:=h
  cases hh with
  | mk _ a c g h1 k1=>exact ⟨a,c,rfl,h1.sl k1⟩
theorem TExpr.i {μ:M} {l:List Value} {x:TExpr} (h:∃ a c,l=[.int .i64 x.Kind,.int .i64 x.N,S x.Name,.slice a x.Kids.length c]∧Sl μ a c x.Kids):Mo.cs μ l x:=by
  obtain ⟨a,c,rfl,h⟩:=h
  obtain ⟨g,h,k⟩:=Els.of h
  exact ExprCs.mk x a c g h k
inductive StatCs (μ:M):List Value→TStat→Prop where
  | mk (x:TStat) (a1:Option Addr) (c1:Nat) (a2:Option Addr) (c2:Nat) (a3:Option Addr) (c3:Nat) (g2 g3:Nat→List Value) (h1:Sl μ a1 c1 x.X.Kids)
      (h2:Els 8 μ a2 c2 x.Body g2) (k2:∀ (i:Nat) (y:TStat),x.Body[i]?=some y→StatCs μ (g2 i) y)
      (h3:Els 8 μ a3 c3 x.Else g3) (k3:∀ (i:Nat) (y:TStat),x.Else[i]?=some y→StatCs μ (g3 i) y) :
    StatCs μ [.int .i64 x.Kind,S x.Name,.int .i64 x.X.Kind,.int .i64 x.X.N,S x.X.Name,.slice a1 x.X.Kids.length c1,.slice a2 x.Body.length c2,.slice a3 x.Else.length c3] x
theorem StatCs.up {μ μ':M} (l:Le μ μ') {cs:List Value} {x:TStat} (h:StatCs μ cs x):StatCs μ' cs x:=by
  induction h with
  | mk x a1 c1 a2 c2 a3 c3 g2 g3 h1 h2 k2 h3 k3 ih2 ih3=>exact .mk x a1 c1 a2 c2 a3 c3 g2 g3 (h1.up l) (h2.up l) ih2 (h3.up l) ih3
instance:Mo TStat where
  sz:=8
  pos:=by decide
  cs:=StatCs
  ln h:=by cases h; rfl
  up l h:=StatCs.up l h
  cv h:=by cases h; rfl
theorem TStat.o {μ:M} {l:List Value} {x:TStat} (h:Mo.cs μ l x):∃ a1 c1 a2 c2 a3 c3,l=[.int .i64 x.Kind,S x.Name,.int .i64 x.X.Kind,.int .i64 x.X.N,S x.X.Name,.slice a1 x.X.Kids.length c1,.slice a2 x.Body.length c2,.slice a3 x.Else.length c3]∧Sl μ a1 c1 x.X.Kids∧Sl μ a2 c2 x.Body∧Sl μ a3 c3 x.Else:=by
  have hh:StatCs μ l x:=h
  cases hh with
  | mk _ a1 c1 a2 c2 a3 c3 g2 g3 h1 h2 k2 h3 k3=>exact ⟨a1,c1,a2,c2,a3,c3,rfl,h1,h2.sl k2,h3.sl k3⟩
theorem TStat.i {μ:M} {l:List Value} {x:TStat} (h:∃ a1 c1 a2 c2 a3 c3,l=[.int .i64 x.Kind,S x.Name,.int .i64 x.X.Kind,.int .i64 x.X.N,S x.X.Name,.slice a1 x.X.Kids.length c1,.slice a2 x.Body.length c2,.slice a3 x.Else.length c3]∧Sl μ a1 c1 x.X.Kids∧Sl μ a2 c2 x.Body∧Sl μ a3 c3 x.Else):Mo.cs μ l x:=by
  obtain ⟨a1,c1,a2,c2,a3,c3,rfl,h1,h2,h3⟩:=h
  obtain ⟨g2,h2,k2⟩:=Els.of h2
  obtain ⟨g3,h3,k3⟩:=Els.of h3
  exact StatCs.mk x a1 c1 a2 c2 a3 c3 g2 g3 h1 h2 k2 h3 k3
structure TFault where
  Err:Int
  At:Int
  deriving DecidableEq,Inhabited,Repr
structure TType where
  Kind:Int
  Gen:List UInt8
  deriving DecidableEq,Inhabited,Repr
instance:Mo TType where
  sz:=2
  pos:=by decide
  cs μ l x:=l=[.int .i64 x.Kind,S x.Gen]
  ln h:=by obtain rfl:=h; rfl
  up le h:=by exact h
  cv h:=by obtain rfl:=h; rfl
structure TParam where
  Name:List UInt8
  Typ:TType
  deriving DecidableEq,Inhabited,Repr
instance:Mo TParam where
  sz:=3
  pos:=by decide
  cs μ l x:=l=[S x.Name,.int .i64 x.Typ.Kind,S x.Typ.Gen]
  ln h:=by obtain rfl:=h; rfl
  up le h:=by exact h
  cv h:=by obtain rfl:=h; rfl
structure TDef where
  Kind:Int
  Name:List UInt8
  Typ:TType
  Takes:TType
  Cap:Int
  Params:List TParam
  Body:List TStat
  deriving Inhabited,Repr
instance:Mo TDef where
  sz:=9
  pos:=by decide
  cs μ l x:=∃ a1 c1 a2 c2,l=[.int .i64 x.Kind,S x.Name,.int .i64 x.Typ.Kind,S x.Typ.Gen,.int .i64 x.Takes.Kind,S x.Takes.Gen,.int .i64 x.Cap,.slice a1 x.Params.length c1,.slice a2 x.Body.length c2]∧Sl μ a1 c1 x.Params∧Sl μ a2 c2 x.Body
  ln h:=by obtain ⟨a1,c1,a2,c2,rfl,m1,m2⟩:=h; rfl
  up le h:=by obtain ⟨a1,c1,a2,c2,rfl,m1,m2⟩:=h; exact ⟨a1,c1,a2,c2,rfl,m1.up le,m2.up le⟩
  cv h:=by obtain ⟨a1,c1,a2,c2,rfl,m1,m2⟩:=h; rfl
structure TOwner where
  Box:List UInt8
  Writer:List UInt8
  Reader:List UInt8
  deriving DecidableEq,Inhabited,Repr
instance:Mo TOwner where
  sz:=3
  pos:=by decide
  cs μ l x:=l=[S x.Box,S x.Writer,S x.Reader]
  ln h:=by obtain rfl:=h; rfl
  up le h:=by exact h
  cv h:=by obtain rfl:=h; rfl
instance:MV TType:=⟨Av,Av.up⟩
instance:MV TDef:=⟨Pv,Pv.up⟩
structure TSp where
  defs:List TDef
  named:List (List UInt8×TDef)
  deriving Inhabited,Repr
structure TSemaUses where
  calls:List (List UInt8)
  sends:List (List UInt8)
  recvs:List (List UInt8)
  deriving DecidableEq,Inhabited,Repr
instance:Mo TSemaUses where
  sz:=3
  pos:=by decide
  cs μ l x:=∃ a1 c1 a2 c2 a3 c3,l=[.slice a1 x.calls.length c1,.slice a2 x.sends.length c2,.slice a3 x.recvs.length c3]∧Sl μ a1 c1 x.calls∧Sl μ a2 c2 x.sends∧Sl μ a3 c3 x.recvs
  ln h:=by obtain ⟨a1,c1,a2,c2,a3,c3,rfl,m1,m2,m3⟩:=h; rfl
  up le h:=by obtain ⟨a1,c1,a2,c2,a3,c3,rfl,m1,m2,m3⟩:=h; exact ⟨a1,c1,a2,c2,a3,c3,rfl,m1.up le,m2.up le,m3.up le⟩
  cv h:=by obtain ⟨a1,c1,a2,c2,a3,c3,rfl,m1,m2,m3⟩:=h; rfl
instance:MV TSemaUses:=⟨Av,Av.up⟩
end Go.Y
namespace Go.Y
open Go.Wk Go.Xt
def tx_0:List UInt8:=[32,98,111,120,32,102,110,32,103,101,110,32,116,97,115,107,32,116,97,107,101,115,32,121,105,101,108,100,115,32,108,101,116,32,105,102,32,101,108,115,101,32,119,104,105,108,101,32,114,101,116,117,114,110,32,115,116,111,112,32,115,101,110,100,32,111,117,116,32,100,111,32,114,101,99,118,32,121,105,101,108,100,32,115,116,97,114,116,32,114,101,115,117,109,101,32,97,108,105,118,101,32,110,117,109,32,98,111,111,108,32,116,114,117,101,32,102,97,108,115,101,32,97,110,100,32,111,114,32,110,111,116,32]
def lx_letter  (p_1:UInt8):Option Bool :=
  if (97:Int)≤(p_1.toNat:Int) then
    if (p_1.toNat:Int)≤122 then
      some true
    else
      some (decide ((p_1.toNat:Int)=95))
  else
    some (decide ((p_1.toNat:Int)=95))
def lx_digit  (p_1:UInt8):Option Bool :=
  if (48:Int)≤(p_1.toNat:Int) then
    some (decide ((p_1.toNat:Int)≤57))
  else
    some false
def lx_while_j1 (i13:Int) (k_lx_while_l1:Int→Option Int) (b24:Bool):Option Int :=
  if b24=true then
    (i64 (i13+1)).bind fun i33 =>
    k_lx_while_l1 i33
  else
    some i13
def lx_while_l1 (p_1:List UInt8) (p_2:UInt8→Option Bool):Nat→Int→Option Int
  | 0,_=>none
  | n+1,i13 =>
    if i13<(p_1.length:Int) then
      (at_ p_1 i13).bind fun u26 =>
      (p_2 u26).bind fun b28 =>
      lx_while_j1 i13 (lx_while_l1 p_1 p_2 n) b28
    else
      lx_while_j1 i13 (lx_while_l1 p_1 p_2 n) false
def lx_while (fu:Nat)  (p_1:List UInt8) (p_2:UInt8→Option Bool):Option Int :=
  lx_while_l1 p_1 p_2 fu 0
def lx_n1  (p_1:UInt8):Option Bool :=
  (lx_letter p_1).bind fun r1 =>
  if r1=true then
    some true
  else
    (lx_digit p_1).bind fun r5 =>
    some r5
def lex_named_j1 (fu:Nat) (p_1:List UInt8) (b1:Bool):Option Bool :=
  if b1=true then
    some false
  else
    (lx_while fu p_1 lx_n1).bind fun r18 =>
    some (decide (r18=(p_1.length:Int)))
def lex_named (fu:Nat)  (p_1:List UInt8):Option Bool :=
  if (p_1.length:Int)<1 then
    lex_named_j1 fu p_1 true
  else
    if (12:Int)<(p_1.length:Int) then
      lex_named_j1 fu p_1 true
    else
      (at_ p_1 0).bind fun u4 =>
      (lx_letter u4).bind fun r6 =>
      if r6=true then
        (cat [32] p_1).bind fun s10 =>
        (cat s10 [32]).bind fun s12 =>
        (scont tx_0 s12).bind fun b14 =>
        lex_named_j1 fu p_1 b14
      else
        lex_named_j1 fu p_1 true
end Go.Y
namespace Go.Y
open Go.Wk Go.Xt
def syn_kids_j3  (b10:Bool):Option Int :=
  if b10=true then
    some 2
  else
    some (-1)
def syn_kids_j2 (p_1:Int) (b5:Bool):Option Int :=
  if b5=true then
    some 1
  else
    if p_1≤18 then
      syn_kids_j3 true
    else
      syn_kids_j3 (decide (p_1=23))
def syn_kids_j1 (p_1:Int) (b1:Bool):Option Int :=
  if b1=true then
    some 0
  else
    if p_1≤5 then
      syn_kids_j2 p_1 true
    else
      if p_1=21 then
        syn_kids_j2 p_1 true
      else
        syn_kids_j2 p_1 (decide (p_1=24))
def syn_kids  (p_1:Int):Option Int :=
  if p_1≤3 then
    syn_kids_j1 p_1 true
  else
    syn_kids_j1 p_1 (decide (p_1=20))
def syn_node_j1 (i3:Int) (b5:Bool):Option (Int×Int) :=
  if b5=true then
    some (4,i3)
  else
    some (0,i3)
def syn_node  (node_2:Int) (p_2:Int):Option (Int×Int) :=
  (i64 (node_2+1)).bind fun i3 =>
  if (2000:Int)<i3 then
    syn_node_j1 i3 true
  else
    syn_node_j1 i3 (decide ((40:Int)<p_2))
def syn_typ_j2  (b7:Bool):Option Int :=
  if b7=true then
    some 7
  else
    some 0
def syn_typ_j1 (fu:Nat) (p_1:TType) (b3:Bool):Option Int :=
  if b3=true then
    some 1
  else
    if p_1.Kind=3 then
      (lex_named fu p_1.Gen).bind fun r9 =>
      syn_typ_j2 (!r9)
    else
      syn_typ_j2 false
def syn_typ (fu:Nat)  (p_1:TType):Option Int :=
  if p_1.Kind<1 then
    syn_typ_j1 fu p_1 true
  else
    syn_typ_j1 fu p_1 (decide ((3:Int)<p_1.Kind))
structure SynExpr where
  syn_expr:Int→TExpr→Int→Option (Int×Int)
def syn_expr_l1 (self:SynExpr) (p_2:TExpr) (p_3:Int):Nat→Int→Int→Option (Int×Int)
  | 0,_,_=>none
  | n+1,i72,i73 =>
    if i72<(p_2.Kids.length:Int) then
      (at_ p_2.Kids i72).bind fun x94 =>
      (i64 (p_3+1)).bind fun i105 =>
      (self.syn_expr i73 x94 i105).bind fun r107 =>
      if r107.1≠0 then
        some (r107.1,r107.2)
      else
        (i64 (i72+1)).bind fun i111 =>
        syn_expr_l1 self p_2 p_3 n i111 r107.2
    else
      some (0,i73)
def syn_expr_j6 (self:SynExpr) (p_2:TExpr) (p_3:Int) (r9:Int×Int) (b48:Bool):Option (Int×Int) :=
  if b48=true then
    some (5,r9.2)
  else
    syn_expr_l1 self p_2 p_3 (p_2.Kids.length+1) 0 r9.2
def syn_expr_j5 (self:SynExpr) (p_2:TExpr) (p_3:Int) (r9:Int×Int) (r17:Int) (b45:Bool):Option (Int×Int) :=
  if b45=true then
    syn_expr_j6 self p_2 p_3 r9 b45
  else
    if r17<0 then
      syn_expr_j6 self p_2 p_3 r9 (decide ((6:Int)<(p_2.Kids.length:Int)))
    else
      syn_expr_j6 self p_2 p_3 r9 false
def syn_expr_j4 (self:SynExpr) (p_2:TExpr) (p_3:Int) (r9:Int×Int) (r17:Int) (b30:Bool):Option (Int×Int) :=
  if b30=true then
    some (7,r9.2)
  else
    if (0:Int)≤r17 then
      syn_expr_j5 self p_2 p_3 r9 r17 (decide ((p_2.Kids.length:Int)≠r17))
    else
      syn_expr_j5 self p_2 p_3 r9 r17 false
def syn_expr_j3 (fu:Nat) (self:SynExpr) (p_2:TExpr) (p_3:Int) (r9:Int×Int) (r17:Int) (b24:Bool):Option (Int×Int) :=
  if b24=true then
    some (3,r9.2)
  else
    if p_2.Kind=3 then
      (lex_named fu p_2.Name).bind fun r32 =>
      syn_expr_j4 self p_2 p_3 r9 r17 (!r32)
    else
      if p_2.Kind=20 then
        (lex_named fu p_2.Name).bind fun r36 =>
        syn_expr_j4 self p_2 p_3 r9 r17 (!r36)
      else
        if r17<0 then
          (lex_named fu p_2.Name).bind fun r40 =>
          syn_expr_j4 self p_2 p_3 r9 r17 (!r40)
        else
          syn_expr_j4 self p_2 p_3 r9 r17 false
def syn_expr_j2 (fu:Nat) (self:SynExpr) (p_2:TExpr) (p_3:Int) (r9:Int×Int) (r17:Int) (b20:Bool):Option (Int×Int) :=
  if b20=true then
    syn_expr_j3 fu self p_2 p_3 r9 r17 b20
  else
    if p_2.Kind=2 then
      if p_2.N≠0 then
        syn_expr_j3 fu self p_2 p_3 r9 r17 (decide (p_2.N≠1))
      else
        syn_expr_j3 fu self p_2 p_3 r9 r17 false
    else
      syn_expr_j3 fu self p_2 p_3 r9 r17 false
def syn_expr_j1 (fu:Nat) (self:SynExpr) (p_2:TExpr) (p_3:Int) (r9:Int×Int) (b13:Bool):Option (Int×Int) :=
  if b13=true then
    some (1,r9.2)
  else
    (syn_kids p_2.Kind).bind fun r17 =>
    if p_2.Kind=1 then
      if p_2.N<0 then
        syn_expr_j2 fu self p_2 p_3 r9 r17 true
      else
        syn_expr_j2 fu self p_2 p_3 r9 r17 (decide ((999999999999999:Int)<p_2.N))
    else
      syn_expr_j2 fu self p_2 p_3 r9 r17 false
def syn_expr (fu:Nat) (self:SynExpr) (node_2:Int) (p_2:TExpr) (p_3:Int):Option (Int×Int) :=
  (syn_node node_2 p_3).bind fun r9 =>
  if r9.1≠0 then
    some (r9.1,r9.2)
  else
    if p_2.Kind<1 then
      syn_expr_j1 fu self p_2 p_3 r9 true
    else
      syn_expr_j1 fu self p_2 p_3 r9 (decide ((24:Int)<p_2.Kind))
def SynExpr_run:Nat→SynExpr
  | 0=>⟨fun _ _ _=>none⟩
  | n+1=>⟨syn_expr n (SynExpr_run n)⟩
structure SynStat where
  syn_stats:Int→(List TStat)→Int→Option (Int×Int)
  syn_stat:Int→TStat→Int→Option (Int×Int)
def syn_stats_l1 (self:SynStat) (p_2:List TStat) (p_3:Int):Nat→Int→Int→Option (Int×Int)
  | 0,_,_=>none
  | n+1,i29,i30 =>
    if i29<(p_2.length:Int) then
      (at_ p_2 i29).bind fun x55 =>
      (self.syn_stat i30 x55 p_3).bind fun r72 =>
      if r72.1≠0 then
        some (r72.1,r72.2)
      else
        (i64 (i29+1)).bind fun i76 =>
        syn_stats_l1 self p_2 p_3 n i76 r72.2
    else
      some (0,i30)
def syn_stats (self:SynStat) (node_2:Int) (p_2:List TStat) (p_3:Int):Option (Int×Int) :=
  if (50:Int)<(p_2.length:Int) then
    some (5,node_2)
  else
    syn_stats_l1 self p_2 p_3 (p_2.length+1) 0 node_2
def syn_stat_j4 (self:SynStat) (p_2:TStat) (p_3:Int) (i48:Int):Option (Int×Int) :=
  if p_2.Kind=3 then
    (i64 (p_3+1)).bind fun i58 =>
    (self.syn_stats i48 p_2.Else i58).bind fun r60 =>
    some (r60.1,r60.2)
  else
    some (0,i48)
def syn_stat_j3 (self:SynStat) (p_2:TStat) (p_3:Int) (r41:Int×Int) (b45:Bool):Option (Int×Int) :=
  if b45=true then
    (i64 (p_3+1)).bind fun i50 =>
    (self.syn_stats r41.2 p_2.Body i50).bind fun r52 =>
    if r52.1≠0 then
      some (r52.1,r52.2)
    else
      syn_stat_j4 self p_2 p_3 r52.2
  else
    syn_stat_j4 self p_2 p_3 r41.2
def syn_stat_j2 (fu:Nat) (self:SynStat) (p_2:TStat) (p_3:Int) (r15:Int×Int) (b23:Bool):Option (Int×Int) :=
  if b23=true then
    some (7,r15.2)
  else
    if p_2.Kind=6 then
      some (0,r15.2)
    else
      (i64 (p_3+1)).bind fun i39 =>
      ((SynExpr_run fu).syn_expr r15.2 p_2.X i39).bind fun r41 =>
      if r41.1≠0 then
        some (r41.1,r41.2)
      else
        if p_2.Kind=3 then
          syn_stat_j3 self p_2 p_3 r41 true
        else
          syn_stat_j3 self p_2 p_3 r41 (decide (p_2.Kind=4))
def syn_stat_j1 (fu:Nat) (self:SynStat) (p_2:TStat) (p_3:Int) (r15:Int×Int) (b19:Bool):Option (Int×Int) :=
  if b19=true then
    some (1,r15.2)
  else
    if p_2.Kind=1 then
      (lex_named fu p_2.Name).bind fun r25 =>
      syn_stat_j2 fu self p_2 p_3 r15 (!r25)
    else
      if p_2.Kind=2 then
        (lex_named fu p_2.Name).bind fun r29 =>
        syn_stat_j2 fu self p_2 p_3 r15 (!r29)
      else
        if p_2.Kind=7 then
          (lex_named fu p_2.Name).bind fun r33 =>
          syn_stat_j2 fu self p_2 p_3 r15 (!r33)
        else
          syn_stat_j2 fu self p_2 p_3 r15 false
def syn_stat (fu:Nat) (self:SynStat) (node_2:Int) (p_2:TStat) (p_3:Int):Option (Int×Int) :=
  (syn_node node_2 p_3).bind fun r15 =>
  if r15.1≠0 then
    some (r15.1,r15.2)
  else
    if p_2.Kind<1 then
      syn_stat_j1 fu self p_2 p_3 r15 true
    else
      syn_stat_j1 fu self p_2 p_3 r15 (decide ((9:Int)<p_2.Kind))
def SynStat_run:Nat→SynStat
  | 0=>⟨fun _ _ _=>none,fun _ _ _=>none⟩
  | n+1=>⟨syn_stats (SynStat_run n),syn_stat n (SynStat_run n)⟩
def syn_def_j6 (r12:Int×Int) (b106:Bool):Option (Int×Int) :=
  if b106=true then
    some (3,r12.2)
  else
    some (0,r12.2)
def syn_def_j5 (fu:Nat) (p_2:TDef) (r12:Int×Int) :Option (Int×Int) :=
  if p_2.Kind≠1 then
    ((SynStat_run fu).syn_stats r12.2 p_2.Body 2).bind fun r103 =>
    some (r103.1,r103.2)
  else
    if p_2.Cap<1 then
      syn_def_j6 r12 true
    else
      syn_def_j6 r12 (decide ((20:Int)<p_2.Cap))
def syn_def_j4 (fu:Nat) (p_2:TDef) (r12:Int×Int) :Option (Int×Int) :=
  if p_2.Kind≠4 then
    (syn_typ fu p_2.Typ).bind fun r97 =>
    if r97≠0 then
      some (r97,r12.2)
    else
      syn_def_j5 fu p_2 r12
  else
    syn_def_j5 fu p_2 r12
def syn_def_j3 (fu:Nat) (p_2:TDef) (r12:Int×Int) :Option (Int×Int) :=
  if p_2.Kind=3 then
    (syn_typ fu p_2.Takes).bind fun r91 =>
    if r91≠0 then
      some (r91,r12.2)
    else
      syn_def_j4 fu p_2 r12
  else
    syn_def_j4 fu p_2 r12
def syn_def_l1 (fu:Nat) (p_2:TDef) (r12:Int×Int):Nat→Int→Option (Int×Int)
  | 0,_=>none
  | n+1,i47 =>
    if i47<(p_2.Params.length:Int) then
      (at_ p_2.Params i47).bind fun x69 =>
      (lex_named fu x69.Name).bind fun r79 =>
      if r79=true then
        (syn_typ fu x69.Typ).bind fun r83 =>
        if r83≠0 then
          some (r83,r12.2)
        else
          (i64 (i47+1)).bind fun i87 =>
          syn_def_l1 fu p_2 r12 n i87
      else
        some (7,r12.2)
    else
      syn_def_j3 fu p_2 r12
def syn_def_j2 (fu:Nat) (p_2:TDef) (r12:Int×Int) (b24:Bool):Option (Int×Int) :=
  if b24=true then
    if (6:Int)<(p_2.Params.length:Int) then
      some (5,r12.2)
    else
      syn_def_l1 fu p_2 r12 (p_2.Params.length+1) 0
  else
    syn_def_j3 fu p_2 r12
def syn_def_j1 (fu:Nat) (p_2:TDef) (r12:Int×Int) (b16:Bool):Option (Int×Int) :=
  if b16=true then
    some (1,r12.2)
  else
    (lex_named fu p_2.Name).bind fun r20 =>
    if r20=true then
      if p_2.Kind=2 then
        syn_def_j2 fu p_2 r12 true
      else
        syn_def_j2 fu p_2 r12 (decide (p_2.Kind=3))
    else
      some (7,r12.2)
def syn_def (fu:Nat)  (node_2:Int) (p_2:TDef):Option (Int×Int) :=
  (syn_node node_2 1).bind fun r12 =>
  if r12.1≠0 then
    some (r12.1,r12.2)
  else
    if p_2.Kind<1 then
      syn_def_j1 fu p_2 r12 true
    else
      syn_def_j1 fu p_2 r12 (decide ((4:Int)<p_2.Kind))
def syn_wrong_l1 (fu:Nat) (p_1:List TDef):Nat→Int→Int→Option TFault
  | 0,_,_=>none
  | n+1,i28,i29 =>
    if i28<(p_1.length:Int) then
      (at_ p_1 i28).bind fun x51 =>
      (syn_def fu i29 x51).bind fun r65 =>
      if r65.1≠0 then
        some (TFault.mk r65.1 i28)
      else
        (i64 (i28+1)).bind fun i69 =>
        syn_wrong_l1 fu p_1 n i69 r65.2
    else
      some (TFault.mk 0 0)
def syn_wrong (fu:Nat)  (p_1:List TDef):Option TFault :=
  if (30:Int)<(p_1.length:Int) then
    some (TFault.mk 5 0)
  else
    syn_wrong_l1 fu p_1 (p_1.length+1) 0 0
end Go.Y
namespace Go.Y
open Go.Wk Go.Xt
def sema_plain  (p_1:TType):Option Bool :=
  some (decide (p_1.Kind≠3))
def sema_find  (p_1:TSp) (p_2:Int) (p_3:List UInt8):Option (Option TDef×Bool) :=
  if (mget p_1.named p_3).isSome=true then
    ((mget p_1.named p_3)).bind fun x18 =>
    some ((mget p_1.named p_3),decide (x18.Kind=p_2))
  else
    some ((mget p_1.named p_3),false)
def sema_typ  (p_1:TSp) (p_2:TType):Option Int :=
  (sema_plain p_2).bind fun r11 =>
  if r11=true then
    some 0
  else
    (sema_find p_1 3 p_2.Gen).bind fun r15 =>
    if r15.2=true then
      some 0
    else
      some 7
def sema_bare_j1 (p_1:TType) (s8:List UInt8):Option TType :=
  some (TType.mk p_1.Kind s8)
def sema_bare  (p_1:TType):Option TType :=
  (sema_plain p_1).bind fun r5 =>
  if r5=true then
    sema_bare_j1 p_1 []
  else
    sema_bare_j1 p_1 p_1.Gen
def sema_num  :Option TType :=
  some (TType.mk 1 [])
def sema_boolean  :Option TType :=
  some (TType.mk 2 [])
def sema_look_l1 (p_2:List UInt8) (bloc_21:List (List (List UInt8×TType))):Nat→Int→Option (TType×Bool)
  | 0,_=>none
  | n+1,i48 =>
    if (0:Int)≤i48 then
      (at_ bloc_21 i48).bind fun x70 =>
      if (mget x70 p_2).isSome=true then
        some (((mget x70 p_2).getD (TType.mk 0 [])),true)
      else
        (i64 (i48 - 1)).bind fun i88 =>
        sema_look_l1 p_2 bloc_21 n i88
    else
      some ((TType.mk 0 []),false)
def sema_look (fu:Nat)  (prog_2:TSp) (def_11:TDef) (bloc_21:List (List (List UInt8×TType))) (p_2:List UInt8):Option (TType×Bool) :=
  (i64 ((bloc_21.length:Int) - 1)).bind fun i27 =>
  sema_look_l1 p_2 bloc_21 fu i27
structure SemaE where
  sema_typed:TSp→TDef→(List (List (List UInt8×TType)))→TExpr→TType→Option Int
  sema_args:TSp→TDef→(List (List (List UInt8×TType)))→TExpr→Int→Option (Option TDef×Int)
  sema_both:TSp→TDef→(List (List (List UInt8×TType)))→TExpr→Option (TType×Int)
  sema_handle:TSp→TDef→(List (List (List UInt8×TType)))→TExpr→Option (Option TDef×Int)
  sema_expr:TSp→TDef→(List (List (List UInt8×TType)))→TExpr→Option (TType×Int)
def sema_typed_j2  (i44:Int):Option Int :=
  some i44
def sema_typed_j1 (r33:TType×Int) (b38:Bool):Option Int :=
  if b38=true then
    sema_typed_j2 9
  else
    sema_typed_j2 r33.2
def sema_typed (self:SemaE) (prog_2:TSp) (def_11:TDef) (bloc_21:List (List (List UInt8×TType))) (p_2:TExpr) (p_3:TType):Option Int :=
  (self.sema_expr prog_2 def_11 bloc_21 p_2).bind fun r33 =>
  if r33.2=0 then
    (sema_bare p_3).bind fun r40 =>
    sema_typed_j1 r33 (!(andL [(decide (r33.1.Kind=r40.Kind)),(decide (r33.1.Gen=r40.Gen))]))
  else
    sema_typed_j1 r33 false
def sema_args_l1 (self:SemaE) (p_2:TExpr) (prog_2:TSp) (def_11:TDef) (bloc_21:List (List (List UInt8×TType))) (r33:Option TDef×Bool) (x65:TDef):Nat→Int→Option (Option TDef×Int)
  | 0,_=>none
  | n+1,i104 =>
    if i104<(x65.Params.length:Int) then
      (at_ x65.Params i104).bind fun x133 =>
      (at_ p_2.Kids i104).bind fun x143 =>
      (self.sema_typed prog_2 def_11 bloc_21 x143 x133.Typ).bind fun r154 =>
      if r154≠0 then
        some (none,r154)
      else
        (i64 (i104+1)).bind fun i158 =>
        sema_args_l1 self p_2 prog_2 def_11 bloc_21 r33 x65 n i158
    else
      some (r33.1,0)
def sema_args_j1 (self:SemaE) (p_2:TExpr) (prog_2:TSp) (def_11:TDef) (bloc_21:List (List (List UInt8×TType))) (r33:Option TDef×Bool) (b49:Bool):Option (Option TDef×Int) :=
  if b49=true then
    some (none,5)
  else
    (r33.1).bind fun x65 =>
    sema_args_l1 self p_2 prog_2 def_11 bloc_21 r33 x65 (x65.Params.length+1) 0
def sema_args (self:SemaE) (prog_2:TSp) (def_11:TDef) (bloc_21:List (List (List UInt8×TType))) (p_2:TExpr) (p_3:Int):Option (Option TDef×Int) :=
  (sema_find prog_2 p_3 p_2.Name).bind fun r33 =>
  if r33.2=true then
    (r33.1).bind fun x50 =>
    sema_args_j1 self p_2 prog_2 def_11 bloc_21 r33 (decide ((x50.Params.length:Int)≠(p_2.Kids.length:Int)))
  else
    some (none,7)
def sema_both_j2 (r44:TType×Int) (i73:Int):Option (TType×Int) :=
  some (r44.1,i73)
def sema_both_j1 (r44:TType×Int) (r61:TType×Int) (b66:Bool):Option (TType×Int) :=
  if b66=true then
    sema_both_j2 r44 9
  else
    sema_both_j2 r44 r61.2
def sema_both (self:SemaE) (prog_2:TSp) (def_11:TDef) (bloc_21:List (List (List UInt8×TType))) (p_2:TExpr):Option (TType×Int) :=
  (at_ p_2.Kids 0).bind fun x33 =>
  (self.sema_expr prog_2 def_11 bloc_21 x33).bind fun r44 =>
  if r44.2≠0 then
    some (r44.1,r44.2)
  else
    (at_ p_2.Kids 1).bind fun x50 =>
    (self.sema_expr prog_2 def_11 bloc_21 x50).bind fun r61 =>
    if r61.2=0 then
      if (andL [(decide (r44.1.Kind=r61.1.Kind)),(decide (r44.1.Gen=r61.1.Gen))])=true then
        (sema_plain r44.1).bind fun r69 =>
        sema_both_j1 r44 r61 (!r69)
      else
        sema_both_j1 r44 r61 true
    else
      sema_both_j1 r44 r61 false
def sema_handle (self:SemaE) (prog_2:TSp) (def_11:TDef) (bloc_21:List (List (List UInt8×TType))) (p_2:TExpr):Option (Option TDef×Int) :=
  (self.sema_expr prog_2 def_11 bloc_21 p_2).bind fun r33 =>
  if r33.2≠0 then
    some (none,r33.2)
  else
    (sema_plain r33.1).bind fun r39 =>
    if r39=true then
      some (none,9)
    else
      some ((mget prog_2.named r33.1.Gen),0)
def sema_expr_j1  (i52:Int) (i53:Int) (s54:List UInt8):Option (TType×Int) :=
  some ((TType.mk i53 s54),i52)
def sema_expr_j2  (i77:Int) (i78:Int) (s79:List UInt8):Option (TType×Int) :=
  some ((TType.mk i78 s79),i77)
def sema_expr_j4  (i170:Int) (i171:Int) (s172:List UInt8):Option (TType×Int) :=
  some ((TType.mk i171 s172),i170)
def sema_expr_j5  (i218:Int) (i219:Int) (s220:List UInt8):Option (TType×Int) :=
  some ((TType.mk i219 s220),i218)
def sema_expr_l1 (self:SemaE) (p_2:TExpr) (prog_2:TSp) (def_11:TDef) (bloc_21:List (List (List UInt8×TType))) (i282:Int) (s283:List UInt8) (i284:Int) (s285:List UInt8):Nat→Int→Option (TType×Int)
  | 0,_=>none
  | n+1,i314 =>
    if i314<(p_2.Kids.length:Int) then
      (at_ p_2.Kids i314).bind fun x333 =>
      (self.sema_typed prog_2 def_11 bloc_21 x333 (TType.mk i282 s283)).bind fun r344 =>
      if r344≠0 then
        some ((TType.mk i284 s285),r344)
      else
        (i64 (i314+1)).bind fun i348 =>
        sema_expr_l1 self p_2 prog_2 def_11 bloc_21 i282 s283 i284 s285 n i348
    else
      some ((TType.mk i284 s285),0)
def sema_expr_j6 (self:SemaE) (p_2:TExpr) (prog_2:TSp) (def_11:TDef) (bloc_21:List (List (List UInt8×TType))) (i282:Int) (s283:List UInt8) (i284:Int) (s285:List UInt8):Option (TType×Int) :=
  sema_expr_l1 self p_2 prog_2 def_11 bloc_21 i282 s283 i284 s285 (p_2.Kids.length+1) 0
def sema_expr_j3 (self:SemaE) (p_2:TExpr) (prog_2:TSp) (def_11:TDef) (bloc_21:List (List (List UInt8×TType))) (b101:Bool):Option (TType×Int) :=
  if b101=true then
    (self.sema_both prog_2 def_11 bloc_21 p_2).bind fun r105 =>
    (sema_boolean ).bind fun r110 =>
    some (r110,r105.2)
  else
    if p_2.Kind=19 then
      (self.sema_args prog_2 def_11 bloc_21 p_2 2).bind fun r114 =>
      if r114.2≠0 then
        (sema_num ).bind fun r120 =>
        some (r120,r114.2)
      else
        (r114.1).bind fun x123 =>
        (sema_bare x123.Typ).bind fun r136 =>
        some (r136,0)
    else
      if p_2.Kind=20 then
        (sema_find prog_2 1 p_2.Name).bind fun r140 =>
        if r140.2=true then
          (r140.1).bind fun x149 =>
          (sema_bare x149.Typ).bind fun r162 =>
          some (r162,0)
        else
          (sema_num ).bind fun r146 =>
          some (r146,7)
      else
        if p_2.Kind=21 then
          if def_11.Kind≠3 then
            (sema_num ).bind fun r167 =>
            some (r167,8)
          else
            (at_ p_2.Kids 0).bind fun x173 =>
            (sema_bare def_11.Takes).bind fun r184 =>
            (self.sema_typed prog_2 def_11 bloc_21 x173 def_11.Typ).bind fun r187 =>
            sema_expr_j4 r187 r184.Kind r184.Gen
        else
          if p_2.Kind=22 then
            (self.sema_args prog_2 def_11 bloc_21 p_2 3).bind fun r192 =>
            some ((TType.mk 3 p_2.Name),r192.2)
          else
            if p_2.Kind=23 then
              (at_ p_2.Kids 0).bind fun x198 =>
              (self.sema_handle prog_2 def_11 bloc_21 x198).bind fun r209 =>
              if r209.2≠0 then
                (sema_num ).bind fun r215 =>
                some (r215,r209.2)
              else
                (r209.1).bind fun x221 =>
                (at_ p_2.Kids 1).bind fun x234 =>
                (sema_bare x221.Typ).bind fun r245 =>
                (self.sema_typed prog_2 def_11 bloc_21 x234 x221.Takes).bind fun r248 =>
                sema_expr_j5 r248 r245.Kind r245.Gen
            else
              if p_2.Kind=24 then
                (at_ p_2.Kids 0).bind fun x253 =>
                (self.sema_handle prog_2 def_11 bloc_21 x253).bind fun r264 =>
                (sema_boolean ).bind fun r269 =>
                some (r269,r264.2)
              else
                (sema_num ).bind fun r272 =>
                (sema_num ).bind fun r275 =>
                if (17:Int)≤p_2.Kind then
                  (sema_boolean ).bind fun r287 =>
                  (sema_boolean ).bind fun r290 =>
                  sema_expr_j6 self p_2 prog_2 def_11 bloc_21 r287.Kind r287.Gen r290.Kind r290.Gen
                else
                  if (13:Int)≤p_2.Kind then
                    (sema_boolean ).bind fun r294 =>
                    sema_expr_j6 self p_2 prog_2 def_11 bloc_21 r272.Kind r272.Gen r294.Kind r294.Gen
                  else
                    sema_expr_j6 self p_2 prog_2 def_11 bloc_21 r272.Kind r272.Gen r275.Kind r275.Gen
def sema_expr (fu:Nat) (self:SemaE) (prog_2:TSp) (def_11:TDef) (bloc_21:List (List (List UInt8×TType))) (p_2:TExpr):Option (TType×Int) :=
  if p_2.Kind=1 then
    (sema_num ).bind fun r34 =>
    some (r34,0)
  else
    if p_2.Kind=2 then
      (sema_boolean ).bind fun r38 =>
      some (r38,0)
    else
      if p_2.Kind=3 then
        (sema_look fu prog_2 def_11 bloc_21 p_2.Name).bind fun r42 =>
        if r42.2=true then
          some (r42.1,0)
        else
          (sema_num ).bind fun r48 =>
          some (r48,7)
      else
        if p_2.Kind=4 then
          (at_ p_2.Kids 0).bind fun x55 =>
          (sema_num ).bind fun r66 =>
          (sema_num ).bind fun r69 =>
          (self.sema_typed prog_2 def_11 bloc_21 x55 r69).bind fun r72 =>
          sema_expr_j1 r72 r66.Kind r66.Gen
        else
          if p_2.Kind=5 then
            (at_ p_2.Kids 0).bind fun x80 =>
            (sema_boolean ).bind fun r91 =>
            (sema_boolean ).bind fun r94 =>
            (self.sema_typed prog_2 def_11 bloc_21 x80 r94).bind fun r97 =>
            sema_expr_j2 r97 r91.Kind r91.Gen
          else
            if p_2.Kind=11 then
              sema_expr_j3 self p_2 prog_2 def_11 bloc_21 (decide (p_2.Kind=11))
            else
              sema_expr_j3 self p_2 prog_2 def_11 bloc_21 (decide (p_2.Kind=12))
def SemaE_run:Nat→SemaE
  | 0=>⟨fun _ _ _ _ _=>none,fun _ _ _ _ _=>none,fun _ _ _ _=>none,fun _ _ _ _=>none,fun _ _ _ _=>none⟩
  | n+1=>⟨sema_typed (SemaE_run n),sema_args (SemaE_run n),sema_both (SemaE_run n),sema_handle (SemaE_run n),sema_expr n (SemaE_run n)⟩
end Go.Y
namespace Go.Y
open Go.Wk Go.Xt
def sema_pop_j1  (l31:List (List (List UInt8×TType))):Option (List (List (List UInt8×TType))) :=
  some l31
def sema_pop  (prog_3:TSp) (def_12:TDef) (bloc_22:List (List (List UInt8×TType))):Option (List (List (List UInt8×TType))) :=
  (i64 ((bloc_22.length:Int) - 1)).bind fun i33 =>
  (cut bloc_22 0 i33).bind fun l35 =>
  sema_pop_j1 l35
structure SemaS where
  sema_stats:TSp→TDef→(List (List (List UInt8×TType)))→(List TStat)→Option (Int×List (List (List UInt8×TType)))
  sema_stat:TSp→TDef→(List (List (List UInt8×TType)))→TStat→Option (Int×List (List (List UInt8×TType)))
def sema_stats_l1 (self:SemaS) (p_2:List TStat) (prog_2:TSp) (def_11:TDef):Nat→Int→(List (List (List UInt8×TType)))→Option (Int×List (List (List UInt8×TType)))
  | 0,_,_=>none
  | n+1,i74,l77 =>
    if i74<(p_2.length:Int) then
      (at_ p_2 i74).bind fun x107 =>
      (self.sema_stat prog_2 def_11 l77 x107).bind fun r124 =>
      if r124.1≠0 then
        (sema_pop prog_2 def_11 r124.2).bind fun r131 =>
        some (r124.1,r131)
      else
        (i64 (i74+1)).bind fun i137 =>
        sema_stats_l1 self p_2 prog_2 def_11 n i137 r124.2
    else
      (sema_pop prog_2 def_11 l77).bind fun r139 =>
      some (0,r139)
def sema_stats_j1 (self:SemaS) (p_2:List TStat) (prog_2:TSp) (def_11:TDef) (l35:List (List (List UInt8×TType))):Option (Int×List (List (List UInt8×TType))) :=
  sema_stats_l1 self p_2 prog_2 def_11 (p_2.length+1) 0 l35
def sema_stats (self:SemaS) (prog_2:TSp) (def_11:TDef) (bloc_21:List (List (List UInt8×TType))) (p_2:List TStat):Option (Int×List (List (List UInt8×TType))) :=
  (app bloc_21 [[]]).bind fun l41 =>
  sema_stats_j1 self p_2 prog_2 def_11 l41
def sema_stat_j1  (l42:List (List (List UInt8×TType))):Option (Int×List (List (List UInt8×TType))) :=
  some (0,l42)
def sema_stat_j3 (self:SemaS) (p_2:TStat) (prog_2:TSp) (def_11:TDef) (r95:Int×List (List (List UInt8×TType))) (b101:Bool):Option (Int×List (List (List UInt8×TType))) :=
  if b101=true then
    some (r95.1,r95.2)
  else
    (self.sema_stats prog_2 def_11 r95.2 p_2.Else).bind fun r105 =>
    some (r105.1,r105.2)
def sema_stat_j5 (bloc_21:List (List (List UInt8×TType))) (i153:Int):Option (Int×List (List (List UInt8×TType))) :=
  some (i153,bloc_21)
def sema_stat_j4 (bloc_21:List (List (List UInt8×TType))) (r142:TType×Int) (b147:Bool):Option (Int×List (List (List UInt8×TType))) :=
  if b147=true then
    sema_stat_j5 bloc_21 9
  else
    sema_stat_j5 bloc_21 r142.2
def sema_stat_j2 (fu:Nat) (self:SemaS) (p_2:TStat) (prog_2:TSp) (def_11:TDef) (bloc_21:List (List (List UInt8×TType))) (b84:Bool):Option (Int×List (List (List UInt8×TType))) :=
  if b84=true then
    (sema_boolean ).bind fun r88 =>
    ((SemaE_run fu).sema_typed prog_2 def_11 bloc_21 p_2.X r88).bind fun r91 =>
    if r91≠0 then
      some (r91,bloc_21)
    else
      (self.sema_stats prog_2 def_11 bloc_21 p_2.Body).bind fun r95 =>
      if r95.1≠0 then
        sema_stat_j3 self p_2 prog_2 def_11 r95 true
      else
        sema_stat_j3 self p_2 prog_2 def_11 r95 (decide (p_2.Kind=4))
  else
    if p_2.Kind=5 then
      if def_11.Kind≠2 then
        some (8,bloc_21)
      else
        ((SemaE_run fu).sema_typed prog_2 def_11 bloc_21 p_2.X def_11.Typ).bind fun r113 =>
        some (r113,bloc_21)
    else
      if p_2.Kind=6 then
        if def_11.Kind=2 then
          some (8,bloc_21)
        else
          sema_stat_j1 bloc_21
      else
        if p_2.Kind=7 then
          (sema_find prog_2 1 p_2.Name).bind fun r119 =>
          if r119.2=true then
            (r119.1).bind fun x125 =>
            ((SemaE_run fu).sema_typed prog_2 def_11 bloc_21 p_2.X x125.Typ).bind fun r138 =>
            some (r138,bloc_21)
          else
            some (7,bloc_21)
        else
          if p_2.Kind=8 then
            ((SemaE_run fu).sema_expr prog_2 def_11 bloc_21 p_2.X).bind fun r142 =>
            if r142.2=0 then
              (sema_plain r142.1).bind fun r149 =>
              sema_stat_j4 bloc_21 r142 (!r149)
            else
              sema_stat_j4 bloc_21 r142 false
          else
            if p_2.Kind=9 then
              ((SemaE_run fu).sema_expr prog_2 def_11 bloc_21 p_2.X).bind fun r157 =>
              some (r157.2,bloc_21)
            else
              sema_stat_j1 bloc_21
def sema_stat (fu:Nat) (self:SemaS) (prog_2:TSp) (def_11:TDef) (bloc_21:List (List (List UInt8×TType))) (p_2:TStat):Option (Int×List (List (List UInt8×TType))) :=
  if p_2.Kind=1 then
    ((SemaE_run fu).sema_expr prog_2 def_11 bloc_21 p_2.X).bind fun r45 =>
    if r45.2≠0 then
      some (r45.2,bloc_21)
    else
      (sema_look fu prog_2 def_11 bloc_21 p_2.Name).bind fun r51 =>
      if r51.2=true then
        some (7,bloc_21)
      else
        (i64 ((bloc_21.length:Int) - 1)).bind fun i57 =>
        (at_ bloc_21 i57).bind fun x59 =>
        sema_stat_j1 (bloc_21.set i57.toNat (mput x59 p_2.Name r45.1))
  else
    if p_2.Kind=2 then
      (sema_look fu prog_2 def_11 bloc_21 p_2.Name).bind fun r75 =>
      if r75.2=true then
        ((SemaE_run fu).sema_typed prog_2 def_11 bloc_21 p_2.X r75.1).bind fun r81 =>
        some (r81,bloc_21)
      else
        some (7,bloc_21)
    else
      if p_2.Kind=3 then
        sema_stat_j2 fu self p_2 prog_2 def_11 bloc_21 (decide (p_2.Kind=3))
      else
        sema_stat_j2 fu self p_2 prog_2 def_11 bloc_21 (decide (p_2.Kind=4))
def SemaS_run:Nat→SemaS
  | 0=>⟨fun _ _ _ _=>none,fun _ _ _ _=>none⟩
  | n+1=>⟨sema_stats (SemaS_run n),sema_stat n (SemaS_run n)⟩
def sema_head_j3  (b107:Bool):Option Int :=
  if b107=true then
    some 9
  else
    some 0
def sema_head_j2 (p_2:TDef) :Option Int :=
  if p_2.Kind=3 then
    (sema_plain p_2.Takes).bind fun r109 =>
    if r109=true then
      if p_2.Kind≠4 then
        (sema_plain p_2.Typ).bind fun r114 =>
        sema_head_j3 (!r114)
      else
        sema_head_j3 false
    else
      sema_head_j3 true
  else
    if p_2.Kind≠4 then
      (sema_plain p_2.Typ).bind fun r118 =>
      sema_head_j3 (!r118)
    else
      sema_head_j3 false
def sema_head_l1 (p_1:TSp) (p_2:TDef):Nat→Int→(List (List UInt8×Int))→Option Int
  | 0,_,_=>none
  | n+1,i48,l51 =>
    if i48<(p_2.Params.length:Int) then
      (at_ p_2.Params i48).bind fun x80 =>
      (i64 (((mget l51 x80.Name).getD 0)+1)).bind fun i92 =>
      if (1:Int)<((mget (mput l51 x80.Name i92) x80.Name).getD 0) then
        some 7
      else
        (sema_typ p_1 x80.Typ).bind fun r100 =>
        if r100≠0 then
          some r100
        else
          (i64 (i48+1)).bind fun i104 =>
          sema_head_l1 p_1 p_2 n i104 (mput l51 x80.Name i92)
    else
      sema_head_j2 p_2
def sema_head_j1 (p_1:TSp) (p_2:TDef) (b20:Bool):Option Int :=
  if b20=true then
    sema_head_l1 p_1 p_2 (p_2.Params.length+1) 0 ([]:List (List UInt8×Int))
  else
    sema_head_j2 p_2
def sema_head  (p_1:TSp) (p_2:TDef):Option Int :=
  if p_2.Kind=2 then
    sema_head_j1 p_1 p_2 true
  else
    sema_head_j1 p_1 p_2 (decide (p_2.Kind=3))
def sema_body_j1 (fu:Nat) (p_1:TSp) (p_2:TDef) (l30:List (List (List UInt8×TType))):Option Int :=
  ((SemaS_run fu).sema_stats p_1 p_2 l30 p_2.Body).bind fun r139 =>
  some r139.1
def sema_body_j2 (i63:Int) (k_sema_body_l1:Int→(List (List (List UInt8×TType)))→Option Int) (l113:List (List (List UInt8×TType))):Option Int :=
  (i64 (i63+1)).bind fun i135 =>
  k_sema_body_l1 i135 l113
def sema_body_l1 (fu:Nat) (p_1:TSp) (p_2:TDef):Nat→Int→(List (List (List UInt8×TType)))→Option Int
  | 0,_,_=>none
  | n+1,i63,l66 =>
    if i63<(p_2.Params.length:Int) then
      (at_ p_2.Params i63).bind fun x101 =>
      (at_ l66 0).bind fun x115 =>
      (sema_bare x101.Typ).bind fun r126 =>
      sema_body_j2 i63 (sema_body_l1 fu p_1 p_2 n) (l66.set (0:Int).toNat (mput x115 x101.Name r126))
    else
      sema_body_j1 fu p_1 p_2 l66
def sema_body (fu:Nat)  (p_1:TSp) (p_2:TDef):Option Int :=
  if p_2.Kind=1 then
    some 0
  else
    if p_2.Kind≠4 then
      sema_body_l1 fu p_1 p_2 (p_2.Params.length+1) 0 [([]:List (List UInt8×TType))]
    else
      sema_body_j1 fu p_1 p_2 [([]:List (List UInt8×TType))]
def sema_named_l3 (fu:Nat) (p_1:List TDef) (l98:List (List UInt8×TDef)):Nat→Int→Option (TSp×TFault)
  | 0,_=>none
  | n+1,i329 =>
    if i329<(p_1.length:Int) then
      (at_ p_1 i329).bind fun x351 =>
      (sema_body fu (TSp.mk p_1 l98) x351).bind fun r365 =>
      if r365≠0 then
        some ((TSp.mk p_1 l98),(TFault.mk r365 i329))
      else
        (i64 (i329+1)).bind fun i369 =>
        sema_named_l3 fu p_1 l98 n i369
    else
      some ((TSp.mk p_1 l98),(TFault.mk 0 0))
def sema_named_l2 (fu:Nat) (p_1:List TDef) (l98:List (List UInt8×TDef)):Nat→Int→Option (TSp×TFault)
  | 0,_=>none
  | n+1,i270 =>
    if i270<(p_1.length:Int) then
      (at_ p_1 i270).bind fun x292 =>
      (sema_head (TSp.mk p_1 l98) x292).bind fun r306 =>
      if r306≠0 then
        some ((TSp.mk p_1 l98),(TFault.mk r306 i270))
      else
        (i64 (i270+1)).bind fun i310 =>
        sema_named_l2 fu p_1 l98 n i310
    else
      sema_named_l3 fu p_1 l98 (p_1.length+1) 0
def sema_named_l1 (fu:Nat) (p_1:List TDef):Nat→Int→Int→(List (List UInt8×TDef))→Option (TSp×TFault)
  | 0,_,_,_=>none
  | n+1,i94,i95,l98 =>
    if i95<(p_1.length:Int) then
      (at_ p_1 i95).bind fun x169 =>
      if (mget l98 x169.Name).isSome=true then
        some ((TSp.mk p_1 l98),(TFault.mk 7 i95))
      else
        (at_ p_1 i95).bind fun x190 =>
        (at_ p_1 i95).bind fun x204 =>
        (at_ p_1 i95).bind fun x221 =>
        if x221.Kind=4 then
          (i64 (i94+1)).bind fun i236 =>
          (i64 (i95+1)).bind fun i238 =>
          sema_named_l1 fu p_1 n i236 i238 (mput l98 x190.Name x204)
        else
          (i64 (i95+1)).bind fun i240 =>
          sema_named_l1 fu p_1 n i94 i240 (mput l98 x190.Name x204)
    else
      if i94=0 then
        some ((TSp.mk p_1 l98),(TFault.mk 6 (p_1.length:Int)))
      else
        sema_named_l2 fu p_1 l98 (p_1.length+1) 0
def sema_named (fu:Nat)  (p_1:List TDef):Option (TSp×TFault) :=
  (syn_wrong fu p_1).bind fun r18 =>
  if r18.Err≠0 then
    some ((TSp.mk p_1 ([]:List (List UInt8×TDef))),r18)
  else
    sema_named_l1 fu p_1 (p_1.length+1) 0 0 ([]:List (List UInt8×TDef))
end Go.Y
namespace Go.Y
open Go.Wk Go.Xt
structure SemaU where
  uses_expr:(List (List UInt8))→(List (List UInt8))→(List (List UInt8))→TExpr→Option (List (List UInt8)×List (List UInt8)×List (List UInt8))
def uses_expr_l1 (self:SemaU) (p_2:TExpr):Nat→Int→(List (List UInt8))→(List (List UInt8))→(List (List UInt8))→Option (List (List UInt8)×List (List UInt8)×List (List UInt8))
  | 0,_,_,_,_=>none
  | n+1,i96,l99,l103,l107 =>
    if i96<(p_2.Kids.length:Int) then
      (at_ p_2.Kids i96).bind fun x139 =>
      (self.uses_expr l99 l103 l107 x139).bind fun r150 =>
      (i64 (i96+1)).bind fun i162 =>
      uses_expr_l1 self p_2 n i162 r150.1 r150.2.1 r150.2.2
    else
      some (l99,l103,l107)
def uses_expr_j1 (self:SemaU) (p_2:TExpr) (send_6:List (List UInt8)) (l31:List (List UInt8)) (l35:List (List UInt8)):Option (List (List UInt8)×List (List UInt8)×List (List UInt8)) :=
  uses_expr_l1 self p_2 (p_2.Kids.length+1) 0 l31 send_6 l35
def uses_expr_j3 (self:SemaU) (p_2:TExpr) (send_6:List (List UInt8)) (recv_10:List (List UInt8)) (l43:List (List UInt8)):Option (List (List UInt8)×List (List UInt8)×List (List UInt8)) :=
  uses_expr_j1 self p_2 send_6 l43 recv_10
def uses_expr_j4 (self:SemaU) (call_2:List (List UInt8)) (p_2:TExpr) (send_6:List (List UInt8)) (l57:List (List UInt8)):Option (List (List UInt8)×List (List UInt8)×List (List UInt8)) :=
  uses_expr_j1 self p_2 send_6 call_2 l57
def uses_expr_j2 (self:SemaU) (call_2:List (List UInt8)) (p_2:TExpr) (send_6:List (List UInt8)) (recv_10:List (List UInt8)) (b37:Bool):Option (List (List UInt8)×List (List UInt8)×List (List UInt8)) :=
  if b37=true then
    (app call_2 [p_2.Name]).bind fun l49 =>
    uses_expr_j3 self p_2 send_6 recv_10 l49
  else
    if p_2.Kind=20 then
      (app recv_10 [p_2.Name]).bind fun l63 =>
      uses_expr_j4 self call_2 p_2 send_6 l63
    else
      uses_expr_j1 self p_2 send_6 call_2 recv_10
def uses_expr (self:SemaU) (call_2:List (List UInt8)) (send_6:List (List UInt8)) (recv_10:List (List UInt8)) (p_2:TExpr):Option (List (List UInt8)×List (List UInt8)×List (List UInt8)) :=
  if p_2.Kind=19 then
    uses_expr_j2 self call_2 p_2 send_6 recv_10 (decide (p_2.Kind=19))
  else
    uses_expr_j2 self call_2 p_2 send_6 recv_10 (decide (p_2.Kind=22))
def SemaU_run:Nat→SemaU
  | 0=>⟨fun _ _ _ _=>none⟩
  | n+1=>⟨uses_expr (SemaU_run n)⟩
structure SemaV where
  uses_stats:(List (List UInt8))→(List (List UInt8))→(List (List UInt8))→(List TStat)→Option (List (List UInt8)×List (List UInt8)×List (List UInt8))
def uses_stats_j5 (self:SemaV) (i130:Int) (x252:TStat) (k_uses_stats_l1:Int→(List (List UInt8))→(List (List UInt8))→(List (List UInt8))→Option (List (List UInt8)×List (List UInt8)×List (List UInt8))) (l323:List (List UInt8)) (l327:List (List UInt8)) (l331:List (List UInt8)):Option (List (List UInt8)×List (List UInt8)×List (List UInt8)) :=
  if x252.Kind=3 then
    (self.uses_stats l323 l327 l331 x252.Else).bind fun r351 =>
    (i64 (i130+1)).bind fun i363 =>
    k_uses_stats_l1 i363 r351.1 r351.2.1 r351.2.2
  else
    (i64 (i130+1)).bind fun i365 =>
    k_uses_stats_l1 i365 l323 l327 l331
def uses_stats_j4 (self:SemaV) (i130:Int) (x252:TStat) (l291:List (List UInt8)) (l295:List (List UInt8)) (l299:List (List UInt8)) (k_uses_stats_l1:Int→(List (List UInt8))→(List (List UInt8))→(List (List UInt8))→Option (List (List UInt8)×List (List UInt8)×List (List UInt8))) (b318:Bool):Option (List (List UInt8)×List (List UInt8)×List (List UInt8)) :=
  if b318=true then
    (self.uses_stats l291 l295 l299 x252.Body).bind fun r334 =>
    uses_stats_j5 self i130 x252 k_uses_stats_l1 r334.1 r334.2.1 r334.2.2
  else
    uses_stats_j5 self i130 x252 k_uses_stats_l1 l291 l295 l299
def uses_stats_j3 (self:SemaV) (i130:Int) (x252:TStat) (k_uses_stats_l1:Int→(List (List UInt8))→(List (List UInt8))→(List (List UInt8))→Option (List (List UInt8)×List (List UInt8)×List (List UInt8))) (l291:List (List UInt8)) (l295:List (List UInt8)) (l299:List (List UInt8)):Option (List (List UInt8)×List (List UInt8)×List (List UInt8)) :=
  if x252.Kind=3 then
    uses_stats_j4 self i130 x252 l291 l295 l299 k_uses_stats_l1 true
  else
    uses_stats_j4 self i130 x252 l291 l295 l299 k_uses_stats_l1 (decide (x252.Kind=4))
def uses_stats_j1 (fu:Nat) (self:SemaV) (i130:Int) (l133:List (List UInt8)) (l141:List (List UInt8)) (x252:TStat) (k_uses_stats_l1:Int→(List (List UInt8))→(List (List UInt8))→(List (List UInt8))→Option (List (List UInt8)×List (List UInt8)×List (List UInt8))) (l271:List (List UInt8)):Option (List (List UInt8)×List (List UInt8)×List (List UInt8)) :=
  if x252.Kind≠6 then
    ((SemaU_run fu).uses_expr l133 l271 l141 x252.X).bind fun r302 =>
    uses_stats_j3 self i130 x252 k_uses_stats_l1 r302.1 r302.2.1 r302.2.2
  else
    uses_stats_j3 self i130 x252 k_uses_stats_l1 l133 l271 l141
def uses_stats_j2 (fu:Nat) (self:SemaV) (i130:Int) (l133:List (List UInt8)) (l141:List (List UInt8)) (x252:TStat) (k_uses_stats_l1:Int→(List (List UInt8))→(List (List UInt8))→(List (List UInt8))→Option (List (List UInt8)×List (List UInt8)×List (List UInt8))) (l276:List (List UInt8)):Option (List (List UInt8)×List (List UInt8)×List (List UInt8)) :=
  uses_stats_j1 fu self i130 l133 l141 x252 k_uses_stats_l1 l276
def uses_stats_l1 (fu:Nat) (self:SemaV) (p_2:List TStat):Nat→Int→(List (List UInt8))→(List (List UInt8))→(List (List UInt8))→Option (List (List UInt8)×List (List UInt8)×List (List UInt8))
  | 0,_,_,_,_=>none
  | n+1,i130,l133,l137,l141 =>
    if i130<(p_2.length:Int) then
      (at_ p_2 i130).bind fun x252 =>
      if x252.Kind=7 then
        (app l137 [x252.Name]).bind fun l282 =>
        uses_stats_j2 fu self i130 l133 l141 x252 (uses_stats_l1 fu self p_2 n) l282
      else
        uses_stats_j1 fu self i130 l133 l141 x252 (uses_stats_l1 fu self p_2 n) l137
    else
      some (l133,l137,l141)
def uses_stats (fu:Nat) (self:SemaV) (call_2:List (List UInt8)) (send_6:List (List UInt8)) (recv_10:List (List UInt8)) (p_2:List TStat):Option (List (List UInt8)×List (List UInt8)×List (List UInt8)) :=
  uses_stats_l1 fu self p_2 (p_2.length+1) 0 call_2 send_6 recv_10
def SemaV_run:Nat→SemaV
  | 0=>⟨fun _ _ _ _=>none⟩
  | n+1=>⟨uses_stats n (SemaV_run n)⟩
def sema_reach_l2 (p_1:TSp) (r550:List (List UInt8)×List (List UInt8)×List (List UInt8)) (l572:List (List UInt8)) (l576:List (List UInt8)) (k_sema_reach_l1:(List (List UInt8))→(List (Option TDef))→(List (List UInt8))→(List (List UInt8))→Option TSemaUses):Nat→Int→(List (List UInt8))→(List (Option TDef))→Option TSemaUses
  | 0,_,_,_=>none
  | n+1,i652,l655,l659 =>
    if i652<(r550.1.length:Int) then
      (at_ r550.1 i652).bind fun x710 =>
      if l655.contains x710=true then
        (i64 (i652+1)).bind fun i748 =>
        sema_reach_l2 p_1 r550 l572 l576 k_sema_reach_l1 n i748 l655 l659
      else
        (app l655 [x710]).bind fun l730 =>
        (app l659 [(mget p_1.named x710)]).bind fun l743 =>
        (i64 (i652+1)).bind fun i746 =>
        sema_reach_l2 p_1 r550 l572 l576 k_sema_reach_l1 n i746 l730 l743
    else
      k_sema_reach_l1 l655 l659 l572 l576
def sema_reach_j1 (p_1:TSp) (l264:List (List UInt8)) (l523:List (Option TDef)) (r550:List (List UInt8)×List (List UInt8)×List (List UInt8)) (k_sema_reach_l1:(List (List UInt8))→(List (Option TDef))→(List (List UInt8))→(List (List UInt8))→Option TSemaUses) (l564:List (List UInt8)) (l568:List (List UInt8)) (l572:List (List UInt8)) (l576:List (List UInt8)):Option TSemaUses :=
  sema_reach_l2 p_1 r550 l572 l576 k_sema_reach_l1 (r550.1.length+1) 0 l264 l523
def sema_reach_l1 (fu:Nat) (p_1:TSp):Nat→(List (List UInt8))→(List (Option TDef))→(List (List UInt8))→(List (List UInt8))→Option TSemaUses
  | 0,_,_,_,_=>none
  | n+1,l264,l268,l272,l276 =>
    if (0:Int)<(l268.length:Int) then
      (at_ l268 0).bind fun x507 =>
      (cut l268 1 l268.length).bind fun l523 =>
      (x507).bind fun x534 =>
      ((SemaV_run fu).uses_stats ([]:List (List UInt8)) ([]:List (List UInt8)) ([]:List (List UInt8)) x534.Body).bind fun r550 =>
      (app l272 r550.2.1).bind fun l585 =>
      (app l276 r550.2.2).bind fun l597 =>
      sema_reach_j1 p_1 l264 l523 r550 (sema_reach_l1 fu p_1 n) r550.2.1 r550.2.2 l585 l597
    else
      some (TSemaUses.mk ([]:List (List UInt8)) l272 l276)
def sema_reach (fu:Nat)  (p_1:TSp) (p_2:TDef):Option TSemaUses :=
  sema_reach_l1 fu p_1 fu ([]:List (List UInt8)) ([(some p_2)]:List (Option TDef)) [] []
def sema_owners_j1 (i88:Int) (k_sema_owners_l1:Int→(List (List UInt8×TSemaUses))→Option (List TOwner×TFault)) (l176:List (List UInt8×TSemaUses)):Option (List TOwner×TFault) :=
  (i64 (i88+1)).bind fun i223 =>
  k_sema_owners_l1 i223 l176
def sema_owners_j3 (i717:Int) (s825:List UInt8) (k_sema_owners_l3:Int→(List UInt8)→(List UInt8)→Option (List TOwner×TFault)) (s832:List UInt8):Option (List TOwner×TFault) :=
  (i64 (i717+1)).bind fun i839 =>
  k_sema_owners_l3 i839 s825 s832
def sema_owners_j2 (l91:List (List UInt8×TSemaUses)) (i430:Int) (x640:TDef) (i717:Int) (s719:List UInt8) (x778:TDef) (k_sema_owners_l3:Int→(List UInt8)→(List UInt8)→Option (List TOwner×TFault)) (s825:List UInt8):Option (List TOwner×TFault) :=
  if (((mget l91 x778.Name).getD (TSemaUses.mk ([]:List (List UInt8)) ([]:List (List UInt8)) ([]:List (List UInt8)))).recvs).contains x640.Name=true then
    if s719≠[] then
      some (([]:List TOwner),(TFault.mk 8 i430))
    else
      sema_owners_j3 i717 s825 k_sema_owners_l3 x778.Name
  else
    sema_owners_j3 i717 s825 k_sema_owners_l3 s719
def sema_owners_l3 (p_1:List TDef) (l91:List (List UInt8×TSemaUses)) (i430:Int) (l433:List TOwner) (x640:TDef) (k_sema_owners_l2:Int→(List TOwner)→Option (List TOwner×TFault)):Nat→Int→(List UInt8)→(List UInt8)→Option (List TOwner×TFault)
  | 0,_,_,_=>none
  | n+1,i717,s718,s719 =>
    if i717<(p_1.length:Int) then
      (at_ p_1 i717).bind fun x778 =>
      if x778.Kind≠4 then
        (i64 (i717+1)).bind fun i795 =>
        sema_owners_l3 p_1 l91 i430 l433 x640 k_sema_owners_l2 n i795 s718 s719
      else
        if (((mget l91 x778.Name).getD (TSemaUses.mk ([]:List (List UInt8)) ([]:List (List UInt8)) ([]:List (List UInt8)))).sends).contains x640.Name=true then
          if s718≠[] then
            some (([]:List TOwner),(TFault.mk 8 i430))
          else
            sema_owners_j2 l91 i430 x640 i717 s719 x778 (sema_owners_l3 p_1 l91 i430 l433 x640 k_sema_owners_l2 n) x778.Name
        else
          sema_owners_j2 l91 i430 x640 i717 s719 x778 (sema_owners_l3 p_1 l91 i430 l433 x640 k_sema_owners_l2 n) s718
    else
      (app l433 [(TOwner.mk x640.Name s718 s719)]).bind fun l845 =>
      (i64 (i430+1)).bind fun i848 =>
      k_sema_owners_l2 i848 l845
def sema_owners_l2 (p_1:List TDef) (l91:List (List UInt8×TSemaUses)):Nat→Int→(List TOwner)→Option (List TOwner×TFault)
  | 0,_,_=>none
  | n+1,i430,l433 =>
    if i430<(p_1.length:Int) then
      (at_ p_1 i430).bind fun x640 =>
      if x640.Kind≠1 then
        (i64 (i430+1)).bind fun i657 =>
        sema_owners_l2 p_1 l91 n i657 l433
      else
        sema_owners_l3 p_1 l91 i430 l433 x640 (sema_owners_l2 p_1 l91 n) (p_1.length+1) 0 [] []
    else
      some (l433,(TFault.mk 0 0))
def sema_owners_l1 (fu:Nat) (p_1:List TDef) (r9:TSp×TFault):Nat→Int→(List (List UInt8×TSemaUses))→Option (List TOwner×TFault)
  | 0,_,_=>none
  | n+1,i88,l91 =>
    if i88<(p_1.length:Int) then
      (at_ p_1 i88).bind fun x159 =>
      if x159.Kind=4 then
        (at_ p_1 i88).bind fun x178 =>
        (at_ p_1 i88).bind fun x192 =>
        (sema_reach fu r9.1 x192).bind fun r206 =>
        sema_owners_j1 i88 (sema_owners_l1 fu p_1 r9 n) (mput l91 x178.Name r206)
      else
        (i64 (i88+1)).bind fun i225 =>
        sema_owners_l1 fu p_1 r9 n i225 l91
    else
      sema_owners_l2 p_1 l91 (p_1.length+1) 0 []
def sema_owners (fu:Nat)  (p_1:List TDef):Option (List TOwner×TFault) :=
  (sema_named fu p_1).bind fun r9 =>
  if r9.2.Err≠0 then
    some (([]:List TOwner),r9.2)
  else
    sema_owners_l1 fu p_1 r9 (p_1.length+1) 0 ([]:List (List UInt8×TSemaUses))
end Go.Y
