/- Texts of Md. -/
import Derived.Test.YteiemedhecjgiaaDoorCXu
set_option linter.unusedSimpArgs false
set_option linter.unusedVariables false
set_option linter.unusedSectionVars false
namespace Go.Y
open Go.Wk Go.Xt
structure TExpr where
  Kind:Int
  N:Int
  Name:List UInt8
  Kids:List TExpr
  deriving Inhabited,Repr
structure TStat where
  Kind:Int
  Name:List UInt8
  X:TExpr
  Body:List TStat
  Else:List TStat
  deriving Inhabited,Repr
def Els {α:Type} (sz:Nat) (μ:M) (a:Option Addr) (c:Nat) (xs:List α) (g:Nat→List Value):Prop :=
  xs.length≤c∧c≤maxLen∧(xs=[]∨∃ b o,a=some ⟨b,o,none⟩∧∀ (i:Nat) (y:α),xs[i]?=some y→At μ b (o+i*sz) (g i))
inductive ExprCs (μ:M):List Value→TExpr→Prop where
  | mk (x:TExpr) (a:Option Addr) (c:Nat) (g:Nat→List Value) (h:Els 4 μ a c x.Kids g) (k:∀ (i:Nat) (y:TExpr),x.Kids[i]?=some y→ExprCs μ (g i) y) :
    ExprCs μ [.int .i64 x.Kind,.int .i64 x.N,S x.Name,.slice a x.Kids.length c] x
theorem Els.sl {α:Type} {sz:Nat} {μ:M} {a:Option Addr} {c:Nat} {xs:List α} {g:Nat→List Value} {R:List Value→α→Prop} (h:Els sz μ a c xs g) (k:∀ (i:Nat) (y:α),xs[i]?=some y→R (g i) y):SlR sz R μ a c xs:=by
  refine ⟨h.1,h.2.1,?_⟩
  rcases h.2.2 with h | ⟨b,o,ha,hg⟩
  · exact .inl h
  · exact .inr ⟨b,o,ha,g,fun i x hx=>⟨hg i x hx,k i x hx⟩⟩
theorem Els.of {α:Type} {sz:Nat} {μ:M} {a:Option Addr} {c:Nat} {xs:List α} {R:List Value→α→Prop} (h:SlR sz R μ a c xs):∃ g,Els sz μ a c xs g∧∀ (i:Nat) (y:α),xs[i]?=some y→R (g i) y:=by
  rcases h.el with h1 | ⟨b,o,ha,g,hg⟩
  · exact ⟨fun _=>[],⟨h.le,h.cap,.inl h1⟩,fun i y hy=>by simp [h1] at hy⟩
  · exact ⟨g,⟨h.le,h.cap,.inr ⟨b,o,ha,fun i y hy=>(hg i y hy).1⟩⟩,fun i y hy=>(hg i y hy).2⟩
theorem Els.up {α:Type} {sz:Nat} {μ μ':M} {a:Option Addr} {c:Nat} {xs:List α} {g:Nat→List Value} (h:Els sz μ a c xs g) (l:Le μ μ'):Els sz μ' a c xs g:=by
  refine ⟨h.1,h.2.1,?_⟩
  rcases h.2.2 with h | ⟨b,o,ha,hg⟩
  · exact .inl h
  · exact .inr ⟨b,o,ha,fun i y hy=>(hg i y hy).up l⟩
theorem ExprCs.up {μ μ':M} (l:Le μ μ') {cs:List Value} {x:TExpr} (h:ExprCs μ cs x):ExprCs μ' cs x:=by
  induction h with
  | mk x a c g h k ih=>exact .mk x a c g (h.up l) ih
instance:Mo TExpr where
  sz:=4
  pos:=by decide
  cs:=ExprCs
  ln h:=by cases h; rfl
  up l h:=ExprCs.up l h
  cv h:=by cases h; rfl
theorem TExpr.o {μ:M} {l:List Value} {x:TExpr} (h:Mo.cs μ l x):∃ a c,l=[.int .i64 x.Kind,.int .i64 x.N,S x.Name,.slice a x.Kids.length c]∧Sl μ a c x.Kids:=by
  have hh:ExprCs μ l x:=h
  cases hh with
  | mk _ a c g h1 k1=>exact ⟨a,c,rfl,h1.sl k1⟩
theorem TExpr.i {μ:M} {l:List Value} {x:TExpr} (h:∃ a c,l=[.int .i64 x.Kind,.int .i64 x.N,S x.Name,.slice a x.Kids.length c]∧Sl μ a c x.Kids):Mo.cs μ l x:=by
  obtain ⟨a,c,rfl,h⟩:=h
  obtain ⟨g,h,k⟩:=Els.of h
  exact ExprCs.mk x a c g h k
inductive StatCs (μ:M):List Value→TStat→Prop where
  | mk (x:TStat) (a1:Option Addr) (c1:Nat) (a2:Option Addr) (c2:Nat) (a3:Option Addr) (c3:Nat) (g2 g3:Nat→List Value) (h1:Sl μ a1 c1 x.X.Kids)
      (h2:Els 8 μ a2 c2 x.Body g2) (k2:∀ (i:Nat) (y:TStat),x.Body[i]?=some y→StatCs μ (g2 i) y)
      (h3:Els 8 μ a3 c3 x.Else g3) (k3:∀ (i:Nat) (y:TStat),x.Else[i]?=some y→StatCs μ (g3 i) y) :
    StatCs μ [.int .i64 x.Kind,S x.Name,.int .i64 x.X.Kind,.int .i64 x.X.N,S x.X.Name,.slice a1 x.X.Kids.length c1,.slice a2 x.Body.length c2,.slice a3 x.Else.length c3] x
theorem StatCs.up {μ μ':M} (l:Le μ μ') {cs:List Value} {x:TStat} (h:StatCs μ cs x):StatCs μ' cs x:=by
  induction h with
  | mk x a1 c1 a2 c2 a3 c3 g2 g3 h1 h2 k2 h3 k3 ih2 ih3=>exact .mk x a1 c1 a2 c2 a3 c3 g2 g3 (h1.up l) (h2.up l) ih2 (h3.up l) ih3
instance:Mo TStat where
  sz:=8
  pos:=by decide
  cs:=StatCs
  ln h:=by cases h; rfl
  up l h:=StatCs.up l h
  cv h:=by cases h; rfl
theorem TStat.o {μ:M} {l:List Value} {x:TStat} (h:Mo.cs μ l x):∃ a1 c1 a2 c2 a3 c3,l=[.int .i64 x.Kind,S x.Name,.int .i64 x.X.Kind,.int .i64 x.X.N,S x.X.Name,.slice a1 x.X.Kids.length c1,.slice a2 x.Body.length c2,.slice a3 x.Else.length c3]∧Sl μ a1 c1 x.X.Kids∧Sl μ a2 c2 x.Body∧Sl μ a3 c3 x.Else:=by
  have hh:StatCs μ l x:=h
  cases hh with
  | mk _ a1 c1 a2 c2 a3 c3 g2 g3 h1 h2 k2 h3 k3=>exact ⟨a1,c1,a2,c2,a3,c3,rfl,h1,h2.sl k2,h3.sl k3⟩
theorem TStat.i {μ:M} {l:List Value} {x:TStat} (h:∃ a1 c1 a2 c2 a3 c3,l=[.int .i64 x.Kind,S x.Name,.int .i64 x.X.Kind,.int .i64 x.X.N,S x.X.Name,.slice a1 x.X.Kids.length c1,.slice a2 x.Body.length c2,.slice a3 x.Else.length c3]∧Sl μ a1 c1 x.X.Kids∧Sl μ a2 c2 x.Body∧Sl μ a3 c3 x.Else):Mo.cs μ l x:=by
  obtain ⟨a1,c1,a2,c2,a3,c3,rfl,h1,h2,h3⟩:=h
  obtain ⟨g2,h2,k2⟩:=Els.of h2
  obtain ⟨g3,h3,k3⟩:=Els.of h3
  exact StatCs.mk x a1 c1 a2 c2 a3 c3 g2 g3 h1 h2 k2 h3 k3
structure TFault where
  Err:Int
  At:Int
  deriving DecidableEq,Inhabited,Repr
structure TType where
  Kind:Int
  Gen:List UInt8
  deriving DecidableEq,Inhabited,Repr
structure TParam where
  Name:List UInt8
  Typ:TType
  deriving DecidableEq,Inhabited,Repr
instance:Mo TParam where
  sz:=3
  pos:=by decide
  cs μ l x:=l=[S x.Name,.int .i64 x.Typ.Kind,S x.Typ.Gen]
  ln h:=by obtain rfl:=h; rfl
  up le h:=by exact h
  cv h:=by obtain rfl:=h; rfl
structure TDef where
  Kind:Int
  Name:List UInt8
  Typ:TType
  Takes:TType
  Cap:Int
  Params:List TParam
  Body:List TStat
  deriving Inhabited,Repr
instance:Mo TDef where
  sz:=9
  pos:=by decide
  cs μ l x:=∃ a1 c1 a2 c2,l=[.int .i64 x.Kind,S x.Name,.int .i64 x.Typ.Kind,S x.Typ.Gen,.int .i64 x.Takes.Kind,S x.Takes.Gen,.int .i64 x.Cap,.slice a1 x.Params.length c1,.slice a2 x.Body.length c2]∧Sl μ a1 c1 x.Params∧Sl μ a2 c2 x.Body
  ln h:=by obtain ⟨a1,c1,a2,c2,rfl,m1,m2⟩:=h; rfl
  up le h:=by obtain ⟨a1,c1,a2,c2,rfl,m1,m2⟩:=h; exact ⟨a1,c1,a2,c2,rfl,m1.up le,m2.up le⟩
  cv h:=by obtain ⟨a1,c1,a2,c2,rfl,m1,m2⟩:=h; rfl
structure TSynLevel where
  signs:List (List UInt8×Int)
  once:Bool
  deriving DecidableEq,Inhabited,Repr
instance:Mo TSynLevel where
  sz:=2
  pos:=by decide
  cs μ l x:=∃ b1,l=[.map (some b1),.bool x.once]∧Mr μ b1 x.signs
  ln h:=by obtain ⟨b1,rfl,m1⟩:=h; rfl
  up le h:=by obtain ⟨b1,rfl,m1⟩:=h; exact ⟨b1,rfl,m1.up le⟩
  cv h:=by obtain ⟨b1,rfl,m1⟩:=h; rfl
end Go.Y
namespace Go.Y
open Go.Wk Go.Xt
def tx_0:List UInt8:=[32,98,111,120,32,102,110,32,103,101,110,32,116,97,115,107,32,116,97,107,101,115,32,121,105,101,108,100,115,32,108,101,116,32,105,102,32,101,108,115,101,32,119,104,105,108,101,32,114,101,116,117,114,110,32,115,116,111,112,32,115,101,110,100,32,111,117,116,32,100,111,32,114,101,99,118,32,121,105,101,108,100,32,115,116,97,114,116,32,114,101,115,117,109,101,32,97,108,105,118,101,32,110,117,109,32,98,111,111,108,32,116,114,117,101,32,102,97,108,115,101,32,97,110,100,32,111,114,32,110,111,116,32]
def lx_letter  (p_1:UInt8):Option Bool :=
  if (97:Int)≤(p_1.toNat:Int) then
    if (p_1.toNat:Int)≤122 then
      some true
    else
      some (decide ((p_1.toNat:Int)=95))
  else
    some (decide ((p_1.toNat:Int)=95))
def lx_digit  (p_1:UInt8):Option Bool :=
  if (48:Int)≤(p_1.toNat:Int) then
    some (decide ((p_1.toNat:Int)≤57))
  else
    some false
def lx_while_j1 (i13:Int) (k_lx_while_l1:Int→Option Int) (b24:Bool):Option Int :=
  if b24=true then
    (i64 (i13+1)).bind fun i33 =>
    k_lx_while_l1 i33
  else
    some i13
def lx_while_l1 (p_1:List UInt8) (p_2:UInt8→Option Bool):Nat→Int→Option Int
  | 0,_=>none
  | n+1,i13 =>
    if i13<(p_1.length:Int) then
      (at_ p_1 i13).bind fun u26 =>
      (p_2 u26).bind fun b28 =>
      lx_while_j1 i13 (lx_while_l1 p_1 p_2 n) b28
    else
      lx_while_j1 i13 (lx_while_l1 p_1 p_2 n) false
def lx_while (fu:Nat)  (p_1:List UInt8) (p_2:UInt8→Option Bool):Option Int :=
  lx_while_l1 p_1 p_2 fu 0
def lx_n1  (p_1:UInt8):Option Bool :=
  (lx_letter p_1).bind fun r1 =>
  if r1=true then
    some true
  else
    (lx_digit p_1).bind fun r5 =>
    some r5
def lex_named_j1 (fu:Nat) (p_1:List UInt8) (b1:Bool):Option Bool :=
  if b1=true then
    some false
  else
    (lx_while fu p_1 lx_n1).bind fun r18 =>
    some (decide (r18=(p_1.length:Int)))
def lex_named (fu:Nat)  (p_1:List UInt8):Option Bool :=
  if (p_1.length:Int)<1 then
    lex_named_j1 fu p_1 true
  else
    if (12:Int)<(p_1.length:Int) then
      lex_named_j1 fu p_1 true
    else
      (at_ p_1 0).bind fun u4 =>
      (lx_letter u4).bind fun r6 =>
      if r6=true then
        (cat [32] p_1).bind fun s10 =>
        (cat s10 [32]).bind fun s12 =>
        (scont tx_0 s12).bind fun b14 =>
        lex_named_j1 fu p_1 b14
      else
        lex_named_j1 fu p_1 true
end Go.Y
namespace Go.Y
open Go.Wk Go.Xt
def syn_kids_j3  (b10:Bool):Option Int :=
  if b10=true then
    some 2
  else
    some (-1)
def syn_kids_j2 (p_1:Int) (b5:Bool):Option Int :=
  if b5=true then
    some 1
  else
    if p_1≤18 then
      syn_kids_j3 true
    else
      syn_kids_j3 (decide (p_1=23))
def syn_kids_j1 (p_1:Int) (b1:Bool):Option Int :=
  if b1=true then
    some 0
  else
    if p_1≤5 then
      syn_kids_j2 p_1 true
    else
      if p_1=21 then
        syn_kids_j2 p_1 true
      else
        syn_kids_j2 p_1 (decide (p_1=24))
def syn_kids  (p_1:Int):Option Int :=
  if p_1≤3 then
    syn_kids_j1 p_1 true
  else
    syn_kids_j1 p_1 (decide (p_1=20))
def syn_node_j1 (i3:Int) (b5:Bool):Option (Int×Int) :=
  if b5=true then
    some (4,i3)
  else
    some (0,i3)
def syn_node  (node_2:Int) (p_2:Int):Option (Int×Int) :=
  (i64 (node_2+1)).bind fun i3 =>
  if (2000:Int)<i3 then
    syn_node_j1 i3 true
  else
    syn_node_j1 i3 (decide ((40:Int)<p_2))
def syn_typ_j2  (b7:Bool):Option Int :=
  if b7=true then
    some 7
  else
    some 0
def syn_typ_j1 (fu:Nat) (p_1:TType) (b3:Bool):Option Int :=
  if b3=true then
    some 1
  else
    if p_1.Kind=3 then
      (lex_named fu p_1.Gen).bind fun r9 =>
      syn_typ_j2 (!r9)
    else
      syn_typ_j2 false
def syn_typ (fu:Nat)  (p_1:TType):Option Int :=
  if p_1.Kind<1 then
    syn_typ_j1 fu p_1 true
  else
    syn_typ_j1 fu p_1 (decide ((3:Int)<p_1.Kind))
structure SynExpr where
  syn_expr:Int→TExpr→Int→Option (Int×Int)
def syn_expr_l1 (self:SynExpr) (p_2:TExpr) (p_3:Int):Nat→Int→Int→Option (Int×Int)
  | 0,_,_=>none
  | n+1,i72,i73 =>
    if i72<(p_2.Kids.length:Int) then
      (at_ p_2.Kids i72).bind fun x94 =>
      (i64 (p_3+1)).bind fun i105 =>
      (self.syn_expr i73 x94 i105).bind fun r107 =>
      if r107.1≠0 then
        some (r107.1,r107.2)
      else
        (i64 (i72+1)).bind fun i111 =>
        syn_expr_l1 self p_2 p_3 n i111 r107.2
    else
      some (0,i73)
def syn_expr_j6 (self:SynExpr) (p_2:TExpr) (p_3:Int) (r9:Int×Int) (b48:Bool):Option (Int×Int) :=
  if b48=true then
    some (5,r9.2)
  else
    syn_expr_l1 self p_2 p_3 (p_2.Kids.length+1) 0 r9.2
def syn_expr_j5 (self:SynExpr) (p_2:TExpr) (p_3:Int) (r9:Int×Int) (r17:Int) (b45:Bool):Option (Int×Int) :=
  if b45=true then
    syn_expr_j6 self p_2 p_3 r9 b45
  else
    if r17<0 then
      syn_expr_j6 self p_2 p_3 r9 (decide ((6:Int)<(p_2.Kids.length:Int)))
    else
      syn_expr_j6 self p_2 p_3 r9 false
def syn_expr_j4 (self:SynExpr) (p_2:TExpr) (p_3:Int) (r9:Int×Int) (r17:Int) (b30:Bool):Option (Int×Int) :=
  if b30=true then
    some (7,r9.2)
  else
    if (0:Int)≤r17 then
      syn_expr_j5 self p_2 p_3 r9 r17 (decide ((p_2.Kids.length:Int)≠r17))
    else
      syn_expr_j5 self p_2 p_3 r9 r17 false
def syn_expr_j3 (fu:Nat) (self:SynExpr) (p_2:TExpr) (p_3:Int) (r9:Int×Int) (r17:Int) (b24:Bool):Option (Int×Int) :=
  if b24=true then
    some (3,r9.2)
  else
    if p_2.Kind=3 then
      (lex_named fu p_2.Name).bind fun r32 =>
      syn_expr_j4 self p_2 p_3 r9 r17 (!r32)
    else
      if p_2.Kind=20 then
        (lex_named fu p_2.Name).bind fun r36 =>
        syn_expr_j4 self p_2 p_3 r9 r17 (!r36)
      else
        if r17<0 then
          (lex_named fu p_2.Name).bind fun r40 =>
          syn_expr_j4 self p_2 p_3 r9 r17 (!r40)
        else
          syn_expr_j4 self p_2 p_3 r9 r17 false
def syn_expr_j2 (fu:Nat) (self:SynExpr) (p_2:TExpr) (p_3:Int) (r9:Int×Int) (r17:Int) (b20:Bool):Option (Int×Int) :=
  if b20=true then
    syn_expr_j3 fu self p_2 p_3 r9 r17 b20
  else
    if p_2.Kind=2 then
      if p_2.N≠0 then
        syn_expr_j3 fu self p_2 p_3 r9 r17 (decide (p_2.N≠1))
      else
        syn_expr_j3 fu self p_2 p_3 r9 r17 false
    else
      syn_expr_j3 fu self p_2 p_3 r9 r17 false
def syn_expr_j1 (fu:Nat) (self:SynExpr) (p_2:TExpr) (p_3:Int) (r9:Int×Int) (b13:Bool):Option (Int×Int) :=
  if b13=true then
    some (1,r9.2)
  else
    (syn_kids p_2.Kind).bind fun r17 =>
    if p_2.Kind=1 then
      if p_2.N<0 then
        syn_expr_j2 fu self p_2 p_3 r9 r17 true
      else
        syn_expr_j2 fu self p_2 p_3 r9 r17 (decide ((999999999999999:Int)<p_2.N))
    else
      syn_expr_j2 fu self p_2 p_3 r9 r17 false
def syn_expr (fu:Nat) (self:SynExpr) (node_2:Int) (p_2:TExpr) (p_3:Int):Option (Int×Int) :=
  (syn_node node_2 p_3).bind fun r9 =>
  if r9.1≠0 then
    some (r9.1,r9.2)
  else
    if p_2.Kind<1 then
      syn_expr_j1 fu self p_2 p_3 r9 true
    else
      syn_expr_j1 fu self p_2 p_3 r9 (decide ((24:Int)<p_2.Kind))
def SynExpr_run:Nat→SynExpr
  | 0=>⟨fun _ _ _=>none⟩
  | n+1=>⟨syn_expr n (SynExpr_run n)⟩
structure SynStat where
  syn_stats:Int→(List TStat)→Int→Option (Int×Int)
  syn_stat:Int→TStat→Int→Option (Int×Int)
def syn_stats_l1 (self:SynStat) (p_2:List TStat) (p_3:Int):Nat→Int→Int→Option (Int×Int)
  | 0,_,_=>none
  | n+1,i29,i30 =>
    if i29<(p_2.length:Int) then
      (at_ p_2 i29).bind fun x55 =>
      (self.syn_stat i30 x55 p_3).bind fun r72 =>
      if r72.1≠0 then
        some (r72.1,r72.2)
      else
        (i64 (i29+1)).bind fun i76 =>
        syn_stats_l1 self p_2 p_3 n i76 r72.2
    else
      some (0,i30)
def syn_stats (self:SynStat) (node_2:Int) (p_2:List TStat) (p_3:Int):Option (Int×Int) :=
  if (50:Int)<(p_2.length:Int) then
    some (5,node_2)
  else
    syn_stats_l1 self p_2 p_3 (p_2.length+1) 0 node_2
def syn_stat_j4 (self:SynStat) (p_2:TStat) (p_3:Int) (i48:Int):Option (Int×Int) :=
  if p_2.Kind=3 then
    (i64 (p_3+1)).bind fun i58 =>
    (self.syn_stats i48 p_2.Else i58).bind fun r60 =>
    some (r60.1,r60.2)
  else
    some (0,i48)
def syn_stat_j3 (self:SynStat) (p_2:TStat) (p_3:Int) (r41:Int×Int) (b45:Bool):Option (Int×Int) :=
  if b45=true then
    (i64 (p_3+1)).bind fun i50 =>
    (self.syn_stats r41.2 p_2.Body i50).bind fun r52 =>
    if r52.1≠0 then
      some (r52.1,r52.2)
    else
      syn_stat_j4 self p_2 p_3 r52.2
  else
    syn_stat_j4 self p_2 p_3 r41.2
def syn_stat_j2 (fu:Nat) (self:SynStat) (p_2:TStat) (p_3:Int) (r15:Int×Int) (b23:Bool):Option (Int×Int) :=
  if b23=true then
    some (7,r15.2)
  else
    if p_2.Kind=6 then
      some (0,r15.2)
    else
      (i64 (p_3+1)).bind fun i39 =>
      ((SynExpr_run fu).syn_expr r15.2 p_2.X i39).bind fun r41 =>
      if r41.1≠0 then
        some (r41.1,r41.2)
      else
        if p_2.Kind=3 then
          syn_stat_j3 self p_2 p_3 r41 true
        else
          syn_stat_j3 self p_2 p_3 r41 (decide (p_2.Kind=4))
def syn_stat_j1 (fu:Nat) (self:SynStat) (p_2:TStat) (p_3:Int) (r15:Int×Int) (b19:Bool):Option (Int×Int) :=
  if b19=true then
    some (1,r15.2)
  else
    if p_2.Kind=1 then
      (lex_named fu p_2.Name).bind fun r25 =>
      syn_stat_j2 fu self p_2 p_3 r15 (!r25)
    else
      if p_2.Kind=2 then
        (lex_named fu p_2.Name).bind fun r29 =>
        syn_stat_j2 fu self p_2 p_3 r15 (!r29)
      else
        if p_2.Kind=7 then
          (lex_named fu p_2.Name).bind fun r33 =>
          syn_stat_j2 fu self p_2 p_3 r15 (!r33)
        else
          syn_stat_j2 fu self p_2 p_3 r15 false
def syn_stat (fu:Nat) (self:SynStat) (node_2:Int) (p_2:TStat) (p_3:Int):Option (Int×Int) :=
  (syn_node node_2 p_3).bind fun r15 =>
  if r15.1≠0 then
    some (r15.1,r15.2)
  else
    if p_2.Kind<1 then
      syn_stat_j1 fu self p_2 p_3 r15 true
    else
      syn_stat_j1 fu self p_2 p_3 r15 (decide ((9:Int)<p_2.Kind))
def SynStat_run:Nat→SynStat
  | 0=>⟨fun _ _ _=>none,fun _ _ _=>none⟩
  | n+1=>⟨syn_stats (SynStat_run n),syn_stat n (SynStat_run n)⟩
def syn_def_j6 (r12:Int×Int) (b106:Bool):Option (Int×Int) :=
  if b106=true then
    some (3,r12.2)
  else
    some (0,r12.2)
def syn_def_j5 (fu:Nat) (p_2:TDef) (r12:Int×Int) :Option (Int×Int) :=
  if p_2.Kind≠1 then
    ((SynStat_run fu).syn_stats r12.2 p_2.Body 2).bind fun r103 =>
    some (r103.1,r103.2)
  else
    if p_2.Cap<1 then
      syn_def_j6 r12 true
    else
      syn_def_j6 r12 (decide ((20:Int)<p_2.Cap))
def syn_def_j4 (fu:Nat) (p_2:TDef) (r12:Int×Int) :Option (Int×Int) :=
  if p_2.Kind≠4 then
    (syn_typ fu p_2.Typ).bind fun r97 =>
    if r97≠0 then
      some (r97,r12.2)
    else
      syn_def_j5 fu p_2 r12
  else
    syn_def_j5 fu p_2 r12
def syn_def_j3 (fu:Nat) (p_2:TDef) (r12:Int×Int) :Option (Int×Int) :=
  if p_2.Kind=3 then
    (syn_typ fu p_2.Takes).bind fun r91 =>
    if r91≠0 then
      some (r91,r12.2)
    else
      syn_def_j4 fu p_2 r12
  else
    syn_def_j4 fu p_2 r12
def syn_def_l1 (fu:Nat) (p_2:TDef) (r12:Int×Int):Nat→Int→Option (Int×Int)
  | 0,_=>none
  | n+1,i47 =>
    if i47<(p_2.Params.length:Int) then
      (at_ p_2.Params i47).bind fun x69 =>
      (lex_named fu x69.Name).bind fun r79 =>
      if r79=true then
        (syn_typ fu x69.Typ).bind fun r83 =>
        if r83≠0 then
          some (r83,r12.2)
        else
          (i64 (i47+1)).bind fun i87 =>
          syn_def_l1 fu p_2 r12 n i87
      else
        some (7,r12.2)
    else
      syn_def_j3 fu p_2 r12
def syn_def_j2 (fu:Nat) (p_2:TDef) (r12:Int×Int) (b24:Bool):Option (Int×Int) :=
  if b24=true then
    if (6:Int)<(p_2.Params.length:Int) then
      some (5,r12.2)
    else
      syn_def_l1 fu p_2 r12 (p_2.Params.length+1) 0
  else
    syn_def_j3 fu p_2 r12
def syn_def_j1 (fu:Nat) (p_2:TDef) (r12:Int×Int) (b16:Bool):Option (Int×Int) :=
  if b16=true then
    some (1,r12.2)
  else
    (lex_named fu p_2.Name).bind fun r20 =>
    if r20=true then
      if p_2.Kind=2 then
        syn_def_j2 fu p_2 r12 true
      else
        syn_def_j2 fu p_2 r12 (decide (p_2.Kind=3))
    else
      some (7,r12.2)
def syn_def (fu:Nat)  (node_2:Int) (p_2:TDef):Option (Int×Int) :=
  (syn_node node_2 1).bind fun r12 =>
  if r12.1≠0 then
    some (r12.1,r12.2)
  else
    if p_2.Kind<1 then
      syn_def_j1 fu p_2 r12 true
    else
      syn_def_j1 fu p_2 r12 (decide ((4:Int)<p_2.Kind))
def syn_wrong_l1 (fu:Nat) (p_1:List TDef):Nat→Int→Int→Option TFault
  | 0,_,_=>none
  | n+1,i28,i29 =>
    if i28<(p_1.length:Int) then
      (at_ p_1 i28).bind fun x51 =>
      (syn_def fu i29 x51).bind fun r65 =>
      if r65.1≠0 then
        some (TFault.mk r65.1 i28)
      else
        (i64 (i28+1)).bind fun i69 =>
        syn_wrong_l1 fu p_1 n i69 r65.2
    else
      some (TFault.mk 0 0)
def syn_wrong (fu:Nat)  (p_1:List TDef):Option TFault :=
  if (30:Int)<(p_1.length:Int) then
    some (TFault.mk 5 0)
  else
    syn_wrong_l1 fu p_1 (p_1.length+1) 0 0
end Go.Y
namespace Go.Y
open Go.Wk Go.Xt
def p_levels  :Option (List TSynLevel) :=
  some [(TSynLevel.mk (mput ([]:List (List UInt8×Int)) [111,114] 18) false),(TSynLevel.mk (mput ([]:List (List UInt8×Int)) [97,110,100] 17) false),(TSynLevel.mk (mput (mput (mput (mput (mput (mput ([]:List (List UInt8×Int)) [61,61] 11) [33,61] 12) [60] 13) [60,61] 14) [62] 15) [62,61] 16) true),(TSynLevel.mk (mput (mput ([]:List (List UInt8×Int)) [43] 6) [45] 7) false),(TSynLevel.mk (mput (mput (mput ([]:List (List UInt8×Int)) [42] 8) [47] 9) [37] 10) false)]
end Go.Y
