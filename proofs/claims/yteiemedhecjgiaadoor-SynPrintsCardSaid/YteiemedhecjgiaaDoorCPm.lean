/- Texts of SynPrints Pm. -/
import Derived.Test.YteiemedhecjgiaaDoorCPl
import Derived.Lib.ParseIntBCases
import Derived.Laws.RangeString
set_option linter.unusedSimpArgs false
set_option linter.unusedVariables false
set_option linter.unusedSectionVars false
namespace Go.Y
open Go.Wk Go.Xt
def wBody (f:TStat→List Wd) (l:List TStat):List Wd:=[123]::((l.map f).flatten++[[125]])
def wS:Nat→TStat→List Wd
 | 0,_=>[]
 | k+1,s =>
  if s.Kind=3 then [105,102]::(wE k 1 s.X++(wBody (wS k) s.Body++(if s.Else=[] then [] else [101,108,115,101]::wBody (wS k) s.Else)))
  else if s.Kind=4 then [119,104,105,108,101]::(wE k 1 s.X++wBody (wS k) s.Body)
  else if s.Kind=1 then [108,101,116]::s.Name::[61]::(wE k 1 s.X++[[59]])
  else if s.Kind=2 then s.Name::[61]::(wE k 1 s.X++[[59]])
  else if s.Kind=7 then [115,101,110,100]::s.Name::(wE k 1 s.X++[[59]])
  else if s.Kind=6 then [[115,116,111,112],[59]]
  else (if s.Kind=5 then [114,101,116,117,114,110] else if s.Kind=8 then [111,117,116] else [100,111])::(wE k 1 s.X++[[59]])
def FmS:Nat→TStat→Prop
 | 0,_=>False
 | k+1,s=>1≤s.Kind∧s.Kind≤9∧(s.Kind≠6→FmE k s.X)∧((s.Kind=1∨s.Kind=2∨s.Kind=7)→Nmd s.Name)∧((s.Kind=3∨s.Kind=4)→s.Body.length≤50∧∀ y ∈ s.Body,FmS k y)∧(s.Kind=3→s.Else.length≤50∧∀ y ∈ s.Else,FmS k y)
end Go.Y
namespace Go.Y
open Go.Wk Go.Xt
def wTy (t:TType):Wd:=if t.Kind=1 then [110,117,109] else if t.Kind=2 then [98,111,111,108] else t.Gen
def TyF (t:TType):Prop:=OkT t∧(t.Kind=3→Nmd t.Gen)
def wPT (l:List TParam):List Wd:=(l.map fun q=>[44]::q.Name::[wTy q.Typ]).flatten
def wPs:List TParam→List Wd
 | []=>[[40],[41]]
 | q::l=>[40]::q.Name::wTy q.Typ::(wPT l++[[41]])
def wD (d:TDef):List Wd :=
 if d.Kind=1 then [[98,111,120],d.Name,wTy d.Typ,Lib.itoa d.Cap,[59]]
 else if d.Kind=4 then [116,97,115,107]::d.Name::wBody (wS 39) d.Body
 else if d.Kind=2 then [102,110]::d.Name::(wPs d.Params++wTy d.Typ::wBody (wS 39) d.Body)
 else [103,101,110]::d.Name::(wPs d.Params++[116,97,107,101,115]::wTy d.Takes::[121,105,101,108,100,115]::wTy d.Typ::wBody (wS 39) d.Body)
structure FmD (d:TDef):Prop where
 k1:1≤d.Kind
 k4:d.Kind≤4
 nm:Nmd d.Name
 ps:d.Kind=2∨d.Kind=3→d.Params.length≤6∧∀ q ∈ d.Params,Nmd q.Name∧TyF q.Typ
 tk:d.Kind=3→TyF d.Takes
 ty:d.Kind≠4→TyF d.Typ
 cp:d.Kind=1→1≤d.Cap∧d.Cap≤20
 bo:d.Kind≠1→d.Body.length≤50∧∀ y ∈ d.Body,FmS 39 y
def wP (l:List TDef):List Wd:=(l.map wD).flatten
end Go.Y
namespace Go.Y
open Go.Wk Go.Xt
def jn:List Wd→Wd
 | []=>[]
 | [w]=>w
 | w::w'::ws=>w++32::jn (w'::ws)
theorem letter_e (c:UInt8):lx_letter c=some (isLet c):=by
 rw [lx_letter,isLet]
 split
 ·split
  ·exact congrArg some (decide_eq_true (by omega)).symm
  ·exact congrArg some (decide_eq_decide.2 (by omega))
 ·exact congrArg some (decide_eq_decide.2 (by omega))
theorem digit_e (c:UInt8):lx_digit c=some (isDig c):=by
 rw [lx_digit,isDig]
 split
 ·exact congrArg some (decide_eq_decide.2 (by omega))
 ·exact congrArg some (decide_eq_false (by omega)).symm
end Go.Y
namespace Go.Y
open Go.Wk Go.Xt
theorem dec_len:∀ (k u:Nat),u<10 ^ (k+1)→(Lib.decDigits u).length≤k+1:=by
 intro k
 induction k with
 | zero=>intro u h; rw [Lib.decDigits,dif_pos (by omega)]; simp
 | succ k ih =>
  intro u h
  rw [Lib.decDigits]
  by_cases c:u<10
  ·rw [dif_pos c]; simp
  ·rw [dif_neg c,List.length_append,List.length_singleton]
   have:=ih (u / 10) (by rw [Nat.pow_succ] at h; omega)
   omega
theorem itoa_nat {N:Int} (h:0≤N):Lib.itoa N=Lib.decDigits N.toNat:=by rw [Lib.itoa,if_neg (by omega)]
end Go.Y
namespace Go.Y
open Go.Wk Go.Xt
theorem bI2 {α β:Type} {o:Option α} {f:α→Option β} {r:β} (h:Option.bind o f=some r):∃ x,o=some x∧f x=some r:=bI h
theorem while_more {w:Wd} {p:UInt8→Option Bool}:∀ (m m':Nat) (i r:Int),m≤m'→lx_while_l1 w p m i=some r→lx_while_l1 w p m' i=some r:=by
 intro m
 induction m with
 | zero=>intro m' i r h g; cases g
 | succ m ih =>
  intro m' i r h g
  obtain ⟨m',rfl⟩:∃ q,m'=q+1:=⟨m' - 1,by omega⟩
  rw [lx_while_l1] at g ⊢
  have J:∀ b,lx_while_j1 i (lx_while_l1 w p m) b=some r→lx_while_j1 i (lx_while_l1 w p m') b=some r:=by
   intro b g
   rw [lx_while_j1] at g ⊢
   split
   ·rename_i c
    rw [if_pos c] at g
    obtain ⟨x,e,g⟩:=bI2 g
    rw [e,bS]
    exact ih m' x r (by omega) g
   ·rename_i c
    rw [if_neg c] at g
    exact g
  split
  ·rename_i c
   rw [if_pos c] at g
   obtain ⟨x,e,g⟩:=bI2 g
   obtain ⟨y,e',g⟩:=bI2 g
   rw [e,bS,e',bS]
   exact J y g
  ·rename_i c
   rw [if_neg c] at g
   exact J _ g
theorem named_more {fu fu':Nat} (h:fu≤fu') {w:Wd} {b:Bool} (g:lex_named fu w=some b):lex_named fu' w=some b:=by
 have J:∀ c,lex_named_j1 fu w c=some b→lex_named_j1 fu' w c=some b:=by
  intro c g
  rw [lex_named_j1] at g ⊢
  split
  ·rename_i q; rw [if_pos q] at g; exact g
  ·rename_i q
   rw [if_neg q] at g
   obtain ⟨x,e,g⟩:=bI2 g
   have:lx_while fu' w lx_n1=some x:=while_more fu fu' 0 x h e
   rw [this,bS]
   exact g
 rw [lex_named] at g ⊢
 split
 ·rename_i q; rw [if_pos q] at g; exact J _ g
 ·rename_i q
  rw [if_neg q] at g
  split
  ·rename_i q; rw [if_pos q] at g; exact J _ g
  ·rename_i q
   rw [if_neg q] at g
   obtain ⟨x,e,g⟩:=bI2 g
   obtain ⟨y,e',g⟩:=bI2 g
   rw [e,bS,e',bS]
   split
   ·rename_i q
    rw [if_pos q] at g
    obtain ⟨s1,e1,g⟩:=bI2 g
    obtain ⟨s2,e2,g⟩:=bI2 g
    obtain ⟨b3,e3,g⟩:=bI2 g
    rw [e1,bS,e2,bS,e3,bS]
    exact J _ g
   ·rename_i q
    rw [if_neg q] at g
    exact J _ g
theorem nmd_of {fu:Nat} (hf:20≤fu) {w:Wd} (h:lex_named fu w=some true):Nmd w:=by
 intro fu' hf'
 obtain ⟨b,hb⟩:=lex_named_t 20 (Nat.le_refl _) w
 have h1:=named_more hf hb
 rw [h] at h1
 obtain rfl:=Option.some.inj h1
 exact named_more hf' hb
section
variable {fu:Nat} {self:SynExpr} {x:TExpr} {d node k:Int}
theorem expr_l1_inv:∀ (m i:Nat) (c:Int),x.Kids.length≤6→syn_expr_l1 self x d m i c=some (0,k)→∀ j (hj:j<x.Kids.length),i≤j→∃ c' d' k',self.syn_expr c' x.Kids[j] d'=some (0,k'):=by
 intro m
 induction m with
 | zero=>intro i c _ h; cases h
 | succ m ih =>
  intro i c hl h j hj hij
  rw [syn_expr_l1,if_pos (by omega),at_nat,List.getElem?_eq_getElem (show i<x.Kids.length by omega),bS] at h
  obtain ⟨d',e1,h⟩:=bI2 h
  obtain ⟨r,e2,h⟩:=bI2 h
  by_cases z:r.1≠0
  ·rw [if_pos z] at h
   exact absurd (congrArg (fun o:Option (Int×Int)=>o.map (·.1)) h) (by simpa using z)
  ·rw [if_neg z,i64_ok (by omega),bS] at h
   by_cases q:j=i
   ·subst q
    obtain ⟨r1,r2⟩:=r
    obtain rfl:r1=0:=Decidable.not_not.1 z
    exact ⟨c,d',r2,e2⟩
   ·exact ih (i+1) r.2 hl h j hj (by omega)
theorem expr_j6_inv {r9:Int×Int} {b:Bool} (h:syn_expr_j6 self x d r9 b=some (0,k)):∃ m c,syn_expr_l1 self x d m (0:Nat) c=some (0,k):=by
 rw [syn_expr_j6] at h
 split at h
 ·cases h
 ·exact ⟨_,_,h⟩
theorem expr_j5_inv {r9:Int×Int} {r:Int} {b:Bool} (h:syn_expr_j5 self x d r9 r b=some (0,k)):∃ m c,syn_expr_l1 self x d m (0:Nat) c=some (0,k):=by
 rw [syn_expr_j5] at h
 split at h
 ·exact expr_j6_inv h
 ·split at h <;> exact expr_j6_inv h
theorem expr_j4_inv {r9:Int×Int} {r:Int} {b:Bool} (h:syn_expr_j4 self x d r9 r b=some (0,k)):b=false∧∃ m c,syn_expr_l1 self x d m (0:Nat) c=some (0,k):=by
 rw [syn_expr_j4] at h
 split at h
 ·cases h
 ·rename_i q
  refine ⟨by simpa using q,?_⟩
  split at h <;> exact expr_j5_inv h
theorem expr_j3_inv {r9:Int×Int} {r:Int} {b:Bool} (h:syn_expr_j3 fu self x d r9 r b=some (0,k)):b=false∧(x.Kind=3∨x.Kind=20∨r<0→lex_named fu x.Name=some true)∧∃ m c,syn_expr_l1 self x d m (0:Nat) c=some (0,k):=by
 rw [syn_expr_j3] at h
 split at h
 ·cases h
 ·rename_i q
  refine ⟨by simpa using q,?_⟩
  have J:(Option.bind (lex_named fu x.Name) fun r32=>syn_expr_j4 self x d r9 r (!r32))=some (0,k)→(x.Kind=3∨x.Kind=20∨r<0→lex_named fu x.Name=some true)∧∃ m c,syn_expr_l1 self x d m (0:Nat) c=some (0,k):=by
   intro h
   obtain ⟨b',e,h⟩:=bI2 h
   obtain ⟨h1,h2⟩:=expr_j4_inv h
   cases b' with
   | true=>exact ⟨fun _=>e,h2⟩
   | false=>cases h1
  split at h
  ·exact J h
  ·split at h
   ·exact J h
   ·split at h
    ·exact J h
    ·obtain ⟨-,h2⟩:=expr_j4_inv h
     exact ⟨fun g=>by omega,h2⟩
theorem expr_inv (h:syn_expr fu self node x d=some (0,k)):(x.Kind=1→0≤x.N∧x.N≤999999999999999)∧(x.Kind=2→x.N=0∨x.N=1)∧(x.Kind=3∨x.Kind=20∨kidN x.Kind<0→lex_named fu x.Name=some true)∧∃ m c,syn_expr_l1 self x d m (0:Nat) c=some (0,k):=by
 rw [syn_expr] at h
 obtain ⟨r9,-,h⟩:=bI2 h
 split at h
 ·rename_i z
  exact absurd (congrArg (fun o:Option (Int×Int)=>o.map (·.1)) h) (by simpa using z)
 ·have J2:∀ b,syn_expr_j2 fu self x d r9 (kidN x.Kind) b=some (0,k)→b=false∧(x.Kind=2→x.N=0∨x.N=1)∧(x.Kind=3∨x.Kind=20∨kidN x.Kind<0→lex_named fu x.Name=some true)∧∃ m c,syn_expr_l1 self x d m (0:Nat) c=some (0,k):=by
   intro b h
   rw [syn_expr_j2] at h
   split at h
   ·rename_i q
    obtain ⟨h1,-⟩:=expr_j3_inv h
    rw [q] at h1; cases h1
   ·rename_i q
    refine ⟨by simpa using q,?_⟩
    split at h
    ·split at h
     ·obtain ⟨h1,h2⟩:=expr_j3_inv h
      exact ⟨fun _=>.inr (by simpa using h1),h2⟩
     ·rename_i z
      obtain ⟨h1,h2⟩:=expr_j3_inv h
      exact ⟨fun _=>.inl (Decidable.not_not.1 z),h2⟩
    ·rename_i z
     obtain ⟨h1,h2⟩:=expr_j3_inv h
     exact ⟨fun g=>absurd g z,h2⟩
  have J1:∀ b,syn_expr_j1 fu self x d r9 b=some (0,k)→(x.Kind=1→0≤x.N∧x.N≤999999999999999)∧(x.Kind=2→x.N=0∨x.N=1)∧(x.Kind=3∨x.Kind=20∨kidN x.Kind<0→lex_named fu x.Name=some true)∧∃ m c,syn_expr_l1 self x d m (0:Nat) c=some (0,k):=by
   intro b h
   rw [syn_expr_j1] at h
   split at h
   ·cases h
   ·rw [syn_kids_t,bS] at h
    split at h
    ·split at h
     ·obtain ⟨h1,-⟩:=J2 _ h; cases h1
     ·rename_i z
      obtain ⟨h1,h2⟩:=J2 _ h
      have:=of_decide_eq_false h1
      exact ⟨fun _=>⟨by omega,by omega⟩,h2⟩
    ·rename_i z
     obtain ⟨-,h2⟩:=J2 _ h
     exact ⟨fun g=>absurd g z,h2⟩
  split at h <;> exact J1 _ h
end
theorem fm_expr:∀ (j n:Nat) (x:TExpr) (node d k:Int),30+j≤n→OkE j x→(SynExpr_run n).syn_expr node x d=some (0,k)→FmE j x
 | 0,n,x,node,d,k,hn,h,g=>h.elim
 | j+1,n,x,node,d,k,hn,h,g=>by
  obtain ⟨k1,k24,hk,hks⟩:=h
  obtain ⟨n,rfl⟩:∃ q,n=q+1:=⟨n - 1,by omega⟩
  obtain ⟨h1,h2,h3,m,c,h4⟩:=expr_inv (show syn_expr n (SynExpr_run n) node x d=some (0,k) from g)
  refine ⟨k1,k24,hk,h1,h2,fun q=>nmd_of (by omega) (h3 ?_),fun y hy=>?_⟩
  ·rcases q with q | q | q | q
   ·exact .inl q
   ·exact .inr (.inl q)
   ·rw [q]; exact .inr (.inr (by decide))
   ·rw [q]; exact .inr (.inr (by decide))
  ·obtain ⟨i,hi,rfl⟩:=List.getElem_of_mem hy
   obtain ⟨c',d',k',e⟩:=expr_l1_inv m 0 c hk.le h4 i hi (Nat.zero_le _)
   exact fm_expr j n _ c' d' k' (by omega) (hks _ hy) e
section
variable {fu:Nat} {self:SynStat} {x:TStat} {d node k:Int}
theorem stats_l1_inv {l:List TStat}:∀ (m i:Nat) (c:Int),l.length≤50→syn_stats_l1 self l d m i c=some (0,k)→∀ j (hj:j<l.length),i≤j→∃ c' k',self.syn_stat c' l[j] d=some (0,k'):=by
 intro m
 induction m with
 | zero=>intro i c _ h; cases h
 | succ m ih =>
  intro i c hl h j hj hij
  rw [syn_stats_l1,if_pos (by omega),at_nat,List.getElem?_eq_getElem (show i<l.length by omega),bS] at h
  obtain ⟨r,e2,h⟩:=bI2 h
  by_cases z:r.1≠0
  ·rw [if_pos z] at h
   exact absurd (congrArg (fun o:Option (Int×Int)=>o.map (·.1)) h) (by simpa using z)
  ·rw [if_neg z,i64_ok (by omega),bS] at h
   by_cases q:j=i
   ·subst q
    obtain ⟨r1,r2⟩:=r
    obtain rfl:r1=0:=Decidable.not_not.1 z
    exact ⟨c,r2,e2⟩
   ·exact ih (i+1) r.2 hl h j hj (by omega)
theorem stats_inv {l:List TStat} (hl:l.length≤50) (h:syn_stats self node l d=some (0,k)):∀ y ∈ l,∃ c' k',self.syn_stat c' y d=some (0,k'):=by
 intro y hy
 obtain ⟨j,hj,rfl⟩:=List.getElem_of_mem hy
 rw [syn_stats] at h
 split at h
 ·cases h
 ·exact stats_l1_inv _ 0 _ hl h j hj (Nat.zero_le _)
theorem stat_j4_inv {c:Int} (h:syn_stat_j4 self x d c=some (0,k)):x.Kind=3→∃ c' d' k',self.syn_stats c' x.Else d'=some (0,k'):=by
 intro k3
 rw [syn_stat_j4,if_pos k3] at h
 obtain ⟨d',-,h⟩:=bI2 h
 obtain ⟨r,e,h⟩:=bI2 h
 obtain ⟨r1,r2⟩:=r
 obtain ⟨h1,-⟩:=Prod.mk.inj (Option.some.inj h)
 have h1:r1=0:=h1
 subst h1
 exact ⟨_,_,_,e⟩
theorem stat_j3_inv {r41:Int×Int} {b:Bool} (h:syn_stat_j3 self x d r41 b=some (0,k)):(b=true→∃ c' d' k',self.syn_stats c' x.Body d'=some (0,k'))∧(x.Kind=3→∃ c' d' k',self.syn_stats c' x.Else d'=some (0,k')):=by
 rw [syn_stat_j3] at h
 split at h
 ·obtain ⟨d',-,h⟩:=bI2 h
  obtain ⟨r,e,h⟩:=bI2 h
  split at h
  ·rename_i z
   exact absurd (congrArg (fun o:Option (Int×Int)=>o.map (·.1)) h) (by simpa using z)
  ·rename_i z
   obtain ⟨r1,r2⟩:=r
   obtain rfl:r1=0:=Decidable.not_not.1 z
   exact ⟨fun _=>⟨_,_,_,e⟩,stat_j4_inv h⟩
 ·rename_i q
  exact ⟨fun g=>absurd g q,stat_j4_inv h⟩
theorem stat_inv (h:syn_stat fu self node x d=some (0,k)):(x.Kind=1∨x.Kind=2∨x.Kind=7→lex_named fu x.Name=some true)∧(x.Kind≠6→(∃ c' d' k',(SynExpr_run fu).syn_expr c' x.X d'=some (0,k'))∧(x.Kind=3∨x.Kind=4→∃ c' d' k',self.syn_stats c' x.Body d'=some (0,k'))∧(x.Kind=3→∃ c' d' k',self.syn_stats c' x.Else d'=some (0,k'))):=by
 rw [syn_stat] at h
 obtain ⟨r9,-,h⟩:=bI2 h
 split at h
 ·rename_i z
  exact absurd (congrArg (fun o:Option (Int×Int)=>o.map (·.1)) h) (by simpa using z)
 ·have J2:∀ b,syn_stat_j2 fu self x d r9 b=some (0,k)→b=false∧(x.Kind≠6→(∃ c' d' k',(SynExpr_run fu).syn_expr c' x.X d'=some (0,k'))∧(x.Kind=3∨x.Kind=4→∃ c' d' k',self.syn_stats c' x.Body d'=some (0,k'))∧(x.Kind=3→∃ c' d' k',self.syn_stats c' x.Else d'=some (0,k'))):=by
   intro b h
   rw [syn_stat_j2] at h
   split at h
   ·cases h
   ·rename_i q
    refine ⟨by simpa using q,fun k6=>?_⟩
    rw [if_neg k6] at h
    obtain ⟨d',-,h⟩:=bI2 h
    obtain ⟨r,e,h⟩:=bI2 h
    split at h
    ·rename_i z
     exact absurd (congrArg (fun o:Option (Int×Int)=>o.map (·.1)) h) (by simpa using z)
    ·rename_i z
     obtain ⟨r1,r2⟩:=r
     obtain rfl:r1=0:=Decidable.not_not.1 z
     refine ⟨⟨_,_,_,e⟩,?_⟩
     split at h
     ·rename_i k3
      obtain ⟨h1,h2⟩:=stat_j3_inv h
      exact ⟨fun _=>h1 rfl,h2⟩
     ·rename_i k3
      obtain ⟨h1,h2⟩:=stat_j3_inv h
      exact ⟨fun g=>h1 (decide_eq_true (by omega)),h2⟩
  have J1:∀ b,syn_stat_j1 fu self x d r9 b=some (0,k)→(x.Kind=1∨x.Kind=2∨x.Kind=7→lex_named fu x.Name=some true)∧(x.Kind≠6→(∃ c' d' k',(SynExpr_run fu).syn_expr c' x.X d'=some (0,k'))∧(x.Kind=3∨x.Kind=4→∃ c' d' k',self.syn_stats c' x.Body d'=some (0,k'))∧(x.Kind=3→∃ c' d' k',self.syn_stats c' x.Else d'=some (0,k'))):=by
   intro b h
   rw [syn_stat_j1] at h
   have N:(Option.bind (lex_named fu x.Name) fun r25=>syn_stat_j2 fu self x d r9 (!r25))=some (0,k)→(x.Kind=1∨x.Kind=2∨x.Kind=7→lex_named fu x.Name=some true)∧(x.Kind≠6→(∃ c' d' k',(SynExpr_run fu).syn_expr c' x.X d'=some (0,k'))∧(x.Kind=3∨x.Kind=4→∃ c' d' k',self.syn_stats c' x.Body d'=some (0,k'))∧(x.Kind=3→∃ c' d' k',self.syn_stats c' x.Else d'=some (0,k'))):=by
    intro h
    obtain ⟨b',e,h⟩:=bI2 h
    obtain ⟨h1,h2⟩:=J2 _ h
    cases b' with
    | true=>exact ⟨fun _=>e,h2⟩
    | false=>cases h1
   split at h
   ·cases h
   ·split at h
    ·exact N h
    ·split at h
     ·exact N h
     ·split at h
      ·exact N h
      ·exact ⟨fun g=>by omega,(J2 _ h).2⟩
  split at h <;> exact J1 _ h
end
theorem fm_stat:∀ (j n:Nat) (x:TStat) (node d k:Int),60+3*j≤n→OkS j x→(SynStat_run n).syn_stat node x d=some (0,k)→FmS j x
 | 0,n,x,node,d,k,hn,h,g=>h.elim
 | j+1,n,x,node,d,k,hn,h,g=>by
  obtain ⟨k1,k9,hX,hB,hE⟩:=h
  obtain ⟨n,rfl⟩:∃ q,n=q+2:=⟨n - 2,by omega⟩
  obtain ⟨h1,h2⟩:=stat_inv (show syn_stat (n+1) (SynStat_run (n+1)) node x d=some (0,k) from g)
  have L:∀ (l:List TStat) (c' d' k':Int),l.length≤50→(∀ y ∈ l,OkS j y)→(SynStat_run (n+1)).syn_stats c' l d'=some (0,k')→∀ y ∈ l,FmS j y:=by
   intro l c' d' k' hl ho hs y hy
   obtain ⟨c2,k2,e⟩:=stats_inv hl (show syn_stats (SynStat_run n) c' l d'=some (0,k') from hs) y hy
   exact fm_stat j n y c2 d' k2 (by omega) (ho y hy) e
  refine ⟨k1,k9,fun k6=>?_,fun q=>nmd_of (by omega) (h1 q),fun q=>?_,fun q=>?_⟩
  ·obtain ⟨⟨c',d',k',e⟩,-⟩:=h2 k6
   exact fm_expr j (n+1) x.X c' d' k' (by omega) (hX k6) e
  ·obtain ⟨a,b⟩:=hB q
   obtain ⟨-,hb,-⟩:=h2 (by omega)
   obtain ⟨c',d',k',e⟩:=hb q
   exact ⟨a,L x.Body c' d' k' a b e⟩
  ·obtain ⟨a,b⟩:=hE q
   obtain ⟨-,-,hb⟩:=h2 (by omega)
   obtain ⟨c',d',k',e⟩:=hb q
   exact ⟨a,L x.Else c' d' k' a b e⟩
theorem typ_inv {fu:Nat} (hf:20≤fu) {t:TType} (h:syn_typ fu t=some 0):TyF t:=by
 obtain ⟨e,h1,h2⟩:=syn_typ_t fu hf t
 rw [h] at h1
 obtain rfl:=Option.some.inj h1
 refine ⟨h2 rfl,fun k3=>?_⟩
 rw [syn_typ] at h
 have J:∀ b,syn_typ_j1 fu t b=some 0→Nmd t.Gen:=by
  intro b h
  rw [syn_typ_j1] at h
  split at h
  ·cases h
  ·obtain ⟨b',e,h⟩:=bI2 (by simpa only [if_pos k3] using h)
   cases b' with
   | true=>exact nmd_of hf e
   | false=>cases h
 split at h <;> exact J _ h
section
variable {fu:Nat} {x:TDef} {r12:Int×Int} {k node:Int}
theorem def_j5_inv (h:syn_def_j5 fu x r12=some (0,k)):(x.Kind=1→1≤x.Cap∧x.Cap≤20)∧(x.Kind≠1→∃ c' k',(SynStat_run fu).syn_stats c' x.Body 2=some (0,k')):=by
 rw [syn_def_j5] at h
 split at h
 ·rename_i q
  obtain ⟨r,e,h⟩:=bI2 h
  obtain ⟨r1,r2⟩:=r
  obtain ⟨h1,-⟩:=Prod.mk.inj (Option.some.inj h)
  have h1:r1=0:=h1
  subst h1
  exact ⟨fun g=>absurd g q,fun _=>⟨_,_,e⟩⟩
 ·rename_i q
  have J:∀ b,syn_def_j6 r12 b=some (0,k)→b=false:=by
   intro b h
   cases b with
   | false=>rfl
   | true=>cases h
  split at h
  ·cases J _ h
  ·have:=of_decide_eq_false (J _ h)
   exact ⟨fun _=>⟨by omega,by omega⟩,fun g=>absurd g q⟩
theorem def_j4_inv (hf:20≤fu) (h:syn_def_j4 fu x r12=some (0,k)):(x.Kind≠4→TyF x.Typ)∧(x.Kind=1→1≤x.Cap∧x.Cap≤20)∧(x.Kind≠1→∃ c' k',(SynStat_run fu).syn_stats c' x.Body 2=some (0,k')):=by
 rw [syn_def_j4] at h
 split at h
 ·obtain ⟨r,e,h⟩:=bI2 h
  split at h
  ·rename_i z
   exact absurd (congrArg (fun o:Option (Int×Int)=>o.map (·.1)) h) (by simpa using z)
  ·rename_i z
   obtain rfl:r=0:=Decidable.not_not.1 z
   exact ⟨fun _=>typ_inv hf e,def_j5_inv h⟩
 ·rename_i q
  exact ⟨fun g=>absurd g q,def_j5_inv h⟩
theorem def_j3_inv (hf:20≤fu) (h:syn_def_j3 fu x r12=some (0,k)):(x.Kind=3→TyF x.Takes)∧(x.Kind≠4→TyF x.Typ)∧(x.Kind=1→1≤x.Cap∧x.Cap≤20)∧(x.Kind≠1→∃ c' k',(SynStat_run fu).syn_stats c' x.Body 2=some (0,k')):=by
 rw [syn_def_j3] at h
 split at h
 ·obtain ⟨r,e,h⟩:=bI2 h
  split at h
  ·rename_i z
   exact absurd (congrArg (fun o:Option (Int×Int)=>o.map (·.1)) h) (by simpa using z)
  ·rename_i z
   obtain rfl:r=0:=Decidable.not_not.1 z
   exact ⟨fun _=>typ_inv hf e,def_j4_inv hf h⟩
 ·rename_i q
  exact ⟨fun g=>absurd g q,def_j4_inv hf h⟩
theorem def_l1_inv (hf:20≤fu) (hl:x.Params.length≤6):∀ (m i:Nat),i≤x.Params.length→syn_def_l1 fu x r12 m i=some (0,k)→(∀ j (hj:j<x.Params.length),i≤j→Nmd x.Params[j].Name∧TyF x.Params[j].Typ)∧syn_def_j3 fu x r12=some (0,k):=by
 intro m
 induction m with
 | zero=>intro i _ h; cases h
 | succ m ih =>
  intro i hi h
  rw [syn_def_l1] at h
  by_cases q:i<x.Params.length
  ·rw [if_pos (by omega),at_nat,List.getElem?_eq_getElem q,bS] at h
   obtain ⟨b,e1,h⟩:=bI2 h
   cases b with
   | false=>cases h
   | true =>
    rw [if_pos rfl] at h
    obtain ⟨r,e2,h⟩:=bI2 h
    by_cases z:r≠0
    ·rw [if_pos z] at h
     exact absurd (congrArg (fun o:Option (Int×Int)=>o.map (·.1)) h) (by simpa using z)
    ·rw [if_neg z,i64_ok (by omega),bS] at h
     obtain rfl:r=0:=Decidable.not_not.1 z
     obtain ⟨h1,h2⟩:=ih (i+1) q h
     refine ⟨fun j hj hij=>?_,h2⟩
     by_cases e:j=i
     ·subst e; exact ⟨nmd_of hf e1,typ_inv hf e2⟩
     ·exact h1 j hj (by omega)
  ·rw [if_neg (by omega)] at h
   exact ⟨fun j hj hij=>by omega,h⟩
theorem fm_def (hf:300≤fu) (ok:OkD x) (h:syn_def fu node x=some (0,k)):FmD x:=by
 rw [syn_def] at h
 obtain ⟨r9,-,h⟩:=bI2 h
 split at h
 ·rename_i z
  exact absurd (congrArg (fun o:Option (Int×Int)=>o.map (·.1)) h) (by simpa using z)
 ·have fin:Nmd x.Name→(x.Kind=2∨x.Kind=3→x.Params.length≤6∧∀ q ∈ x.Params,Nmd q.Name∧TyF q.Typ)→syn_def_j3 fu x r9=some (0,k)→FmD x:=by
   intro hn hp h
   obtain ⟨a,b,c,e⟩:=def_j3_inv (by omega) h
   refine ⟨ok.k1,ok.k4,hn,hp,a,b,c,fun k1=>⟨ok.bl k1,fun y hy=>?_⟩⟩
   obtain ⟨c',k',hs⟩:=e k1
   obtain ⟨n,rfl⟩:∃ q,fu=q+1:=⟨fu - 1,by omega⟩
   obtain ⟨c2,k2,e2⟩:=stats_inv (ok.bl k1) (show syn_stats (SynStat_run n) c' x.Body 2=some (0,k') from hs) y hy
   exact fm_stat 39 n y c2 2 k2 (by omega) (ok.bo k1 y hy) e2
  have J2:∀ b,(b=true ↔ x.Kind=2∨x.Kind=3)→Nmd x.Name→syn_def_j2 fu x r9 b=some (0,k)→FmD x:=by
   intro b g hn h
   rw [syn_def_j2] at h
   split at h
   ·rename_i q
    split at h
    ·cases h
    ·rename_i z
     obtain ⟨h1,h2⟩:=def_l1_inv (by omega) (by omega) _ 0 (Nat.zero_le _) h
     exact fin hn (fun _=>⟨by omega,fun q hq=>by
      obtain ⟨j,hj,rfl⟩:=List.getElem_of_mem hq
      exact h1 j hj (Nat.zero_le _)⟩) h2
   ·rename_i q
    exact fin hn (fun z=>absurd (g.2 z) q) h
  have J1:∀ b,syn_def_j1 fu x r9 b=some (0,k)→FmD x:=by
   intro b h
   rw [syn_def_j1] at h
   split at h
   ·cases h
   ·obtain ⟨b',e,h⟩:=bI2 h
    cases b' with
    | false=>cases h
    | true =>
     rw [if_pos rfl] at h
     split at h
     ·rename_i q; exact J2 _ (by simp [q]) (nmd_of (by omega) e) h
     ·rename_i q; exact J2 _ (by simp [q]) (nmd_of (by omega) e) h
  split at h <;> exact J1 _ h
end
theorem form_t {fu:Nat} (hf:300≤fu) {l:List TDef} {f:TFault} (h:syn_wrong fu l=some f) (hz:f.Err=0):l.length≤30∧∀ x ∈ l,FmD x:=by
 obtain ⟨f',h1,h2⟩:=syn_wrong_t fu (by omega) l
 rw [h] at h1
 obtain rfl:=Option.some.inj h1
 obtain ⟨-,ok⟩:=h2 hz
 have hl:=ok.le
 refine ⟨hl,?_⟩
 rw [syn_wrong,if_neg (by omega)] at h
 have L:∀ (m i:Nat) (c:Int),syn_wrong_l1 fu l m i c=some f→∀ j (hj:j<l.length),i≤j→FmD l[j]:=by
  intro m
  induction m with
  | zero=>intro i c h; cases h
  | succ m ih =>
   intro i c h j hj hij
   rw [syn_wrong_l1,if_pos (by omega),at_nat,List.getElem?_eq_getElem (show i<l.length by omega),bS] at h
   obtain ⟨r,e,h⟩:=bI2 h
   by_cases z:r.1≠0
   ·rw [if_pos z] at h
    rw [← Option.some.inj h] at hz
    exact absurd hz z
   ·rw [if_neg z,i64_ok (by omega),bS] at h
    by_cases q:j=i
    ·subst q
     obtain ⟨r1,r2⟩:=r
     obtain rfl:r1=0:=Decidable.not_not.1 z
     exact fm_def hf (ok.ok _ (List.getElem_mem _)) e
    ·exact ih (i+1) r.2 h j hj (by omega)
 intro x hx
 obtain ⟨j,hj,rfl⟩:=List.getElem_of_mem hx
 exact L _ 0 0 h j hj (Nat.zero_le _)
end Go.Y
namespace Go.Y
open Go.Wk Go.Xt
def ad:Wd→List Wd→Wd
 | b,[]=>b
 | b,w::ws=>ad (if b=[] then w else b++32::w) ws
def lw:List Wd→Nat
 | []=>0
 | w::ws=>w.length+1+lw ws
theorem ad_app:∀ (u v:List Wd) (b:Wd),ad b (u++v)=ad (ad b u) v
 | [],v,b=>rfl
 | w::u,v,b=>by rw [List.cons_append,ad,ad,ad_app u v]
theorem lw_app:∀ (u v:List Wd),lw (u++v)=lw u+lw v
 | [],v=>by simp [lw]
 | w::u,v=>by rw [List.cons_append,lw,lw,lw_app u v]; omega
theorem ad_len:∀ (ws:List Wd) (b:Wd),(ad b ws).length≤b.length+lw ws
 | [],b=>by simp [ad,lw]
 | w::ws,b=>by
  rw [ad,lw]
  refine Nat.le_trans (ad_len ws _) ?_
  split
  ·simp_all
  ·simp; omega
theorem ad_tail:∀ (ws:List Wd) (b:Wd),b≠[]→ad b ws=b++(ws.map fun w=>32::w).flatten
 | [],b,h=>by simp [ad]
 | w::ws,b,h=>by
  rw [ad,if_neg h,ad_tail ws _ (by simp)]
  simp
theorem jn_tail:∀ (ws:List Wd) (w:Wd),jn (w::ws)=w++(ws.map fun w=>32::w).flatten
 | [],w=>by simp [jn]
 | w'::ws,w=>by rw [jn,jn_tail ws w']; simp
theorem ad_jn {ws:List Wd} (h:∀ w t,ws=w::t→w≠[]):ad [] ws=jn ws:=by
 cases ws with
 | nil=>rfl
 | cons w ws=>rw [ad,if_pos rfl,ad_tail ws w (h w ws rfl),jn_tail]
theorem app_ok8 {α:Type} {l xs:List α} (h:l.length+xs.length≤4294967296):app l xs=some (l++xs):=if_pos h
theorem put_l1_t (p:List Wd):∀ (m i:Nat) (b:Wd),p.length<m+i→i≤p.length→b.length+lw (p.drop i)≤4294967296→p.length≤4294967296→pw_put_l1 p m i b=some (ad b (p.drop i)):=by
 intro m
 induction m with
 | zero=>intro i b h1 h2; omega
 | succ m ih =>
  intro i b h1 h2 h3 h4
  rw [pw_put_l1]
  by_cases c:i<p.length
  ·rw [if_pos (by omega),at_nat,List.getElem?_eq_getElem c,bS,bd_len,bS]
   rw [List.drop_eq_getElem_cons c] at h3 ⊢
   rw [lw] at h3
   rw [ad]
   have go:∀ b',b'.length≤b.length+1→(b=[]→b'=[])→(if b=[] then p[i] else b++32::p[i])=b'++p[i]→pw_put_j1 i p[i] (pw_put_l1 p m) b'=some (ad (if b=[] then p[i] else b++32::p[i]) (p.drop (i+1))):=by
    intro b' hb hn e
    rw [pw_put_j1,bd_str,app_ok8 (by omega),bS,bS,i64_ok (by omega),bS]
    rw [show ((i:Int)+1)=((i+1:Nat):Int) by omega]
    show pw_put_l1 p m ((i+1:Nat):Int) (b'++p[i])=_
    rw [e]
    refine ih (i+1) _ (by omega) (by omega) ?_ h4
    by_cases hb0:b=[]
    ·rw [hn hb0]
     simp only [List.nil_append]
     omega
    ·rw [List.length_append]
     omega
   by_cases hb:b=[]
   ·rw [if_neg (by subst hb; simp)]
    exact go b (by omega) id (by rw [if_pos hb,hb]; simp)
   ·have:0<b.length:=List.length_pos_iff.2 hb
    rw [if_pos (by omega),bd_byte,app_ok8 (by simp; omega),bS,bS]
    exact go (b++[32]) (by simp) (fun h=>absurd h hb) (by rw [if_neg hb]; simp)
  ·rw [if_neg (by omega),List.drop_eq_nil_of_le (by omega),ad]
theorem lw_ge:∀ ws:List Wd,ws.length≤lw ws
 | []=>by simp [lw]
 | w::ws=>by have:=lw_ge ws; simp [lw]; omega
theorem put_t {b:Wd} {ws:List Wd} (h:b.length+lw ws≤4294967296):pw_put b ws=some (ad b ws):=by
 have:=lw_ge ws
 rw [pw_put,show (0:Int)=((0:Nat):Int) from rfl,put_l1_t ws (ws.length+1) 0 b (by omega) (by omega) (by simpa using h) (by omega)]
 simp
theorem put_same (p:List Wd):∀ (m:Nat) (i:Int) (b:Wd),pw_putd_l1 p m i b=pw_put_l1 p m i b:=by
 intro m
 induction m with
 | zero=>intro i b; rfl
 | succ m ih =>
  intro i b
  have e:pw_putd_l1 p m=pw_put_l1 p m:=funext fun i=>funext fun b=>ih i b
  rw [pw_putd_l1,pw_put_l1,e]
  rfl
theorem putd_t {b:Wd} {ws:List Wd} (h:b.length+lw ws≤4294967296):pw_putd b ws=some (ad b ws):=by
 rw [← put_t h,pw_putd,pw_put,put_same]
theorem fmt_ok {n:Int} (h:0≤n∧n≤999999999999999):fmt10 n=some (Lib.itoa n):=if_pos ⟨by omega,by omega⟩
theorem tight_t {k:Int} (h1:1≤k) (h2:k≤24):pr_tight k=some (if 4≤k∧k≤18 then sgn k else [],((own k:Nat):Int)):=by
 have:k=1∨k=2∨k=3∨k=4∨k=5∨k=6∨k=7∨k=8∨k=9∨k=10∨k=11∨k=12∨k=13∨k=14∨k=15∨k=16∨k=17∨k=18∨k=19∨k=20∨k=21∨k=22∨k=23∨k=24:=by omega
 rcases this with rfl | rfl | rfl | rfl | rfl | rfl | rfl | rfl | rfl | rfl | rfl | rfl | rfl | rfl | rfl | rfl | rfl | rfl | rfl | rfl | rfl | rfl | rfl | rfl <;> rfl
end Go.Y
namespace Go.Y
open Go.Wk Go.Xt
section
variable {self:PrE} {x:TExpr}
def pcore (self:PrE) (p_2:TExpr) (r19:List UInt8×Int) (buf_4:Wd):Option Wd :=
  if p_2.Kind=1 then
   (fmt10 p_2.N).bind fun s411 =>
   (pw_put buf_4 [s411]).bind fun r417 =>
   some r417
  else
   if p_2.Kind=2 then
    (at_ [[102,97,108,115,101],[116,114,117,101]] p_2.N).bind fun x430 =>
    (pw_put buf_4 [x430]).bind fun r442 =>
    some r442
   else
    if p_2.Kind=3 then
     (pw_put buf_4 [p_2.Name]).bind fun r455 =>
     some r455
    else
     if p_2.Kind=4 then
      pw_expr_j3 self p_2 buf_4 r19 (decide (p_2.Kind=4))
     else
      pw_expr_j3 self p_2 buf_4 r19 (decide (p_2.Kind=5))
def pend (r:Wd):Option Wd:=(pw_putd r [[41]]).bind some
theorem par_j2 (r19:List UInt8×Int) (b:Wd) (i:Int):pw_expr_j2 self x r19 b i=(pw_expr_j4 self x b r19 i).bind pend:=by
 unfold pw_expr_j2 pw_expr_j4 pend
 simp only [Option.bind_assoc,Option.bind_some]
theorem par_j1 (r19:List UInt8×Int) (b:Wd) (c:Bool):pw_expr_j1 self x r19 b c=(pw_expr_j3 self x b r19 c).bind pend:=by
 unfold pw_expr_j1 pw_expr_j3
 simp only [par_j2]
 repeat' split
 all_goals (try unfold pend; simp only [Option.bind_assoc,Option.bind_some])
theorem expr_e (b:Wd) (need:Int):pw_expr self b x need=(pr_tight x.Kind).bind fun r19=>if r19.2<need then (pw_put b [[40]]).bind fun b1=>(pcore self x r19 b1).bind pend else pcore self x r19 b:=by
 unfold pw_expr pcore
 simp only [par_j1]
 congr 1
 funext r19
 split
 ·congr 1
  funext b1
  repeat' split
  all_goals (try unfold pend; simp only [Option.bind_assoc,Option.bind_some])
 ·rfl
end
section
variable {self:PrE} {f:Nat→TExpr→List Wd}
def wW (f:TExpr→List Wd):Nat→List TExpr→List Wd
 | _,[]=>[]
 | 0,x::t=>f x++wT f t
 | _+1,x::t=>wT f (x::t)
theorem wW_s (f:TExpr→List Wd) (i:Nat) (l:List TExpr):wW f (i+1) l=wT f l:=by cases l <;> rfl
theorem wW_p (f:TExpr→List Wd) {i:Nat} (h:i≠0) (l:List TExpr):wW f i l=wT f l:=by
 obtain ⟨i,rfl⟩:=Nat.exists_eq_succ_of_ne_zero h
 exact wW_s f i l
theorem wA_e (f:TExpr→List Wd) (l:List TExpr):wA f l=[40]::(wW f 0 l++[[41]]):=by
 cases l with
 | nil=>rfl
 | cons x l=>simp [wA,wW]
theorem pargs_l1_t {f:TExpr→List Wd} {l:List TExpr} (hE:∀ y ∈ l,∀ b:Wd,b.length+lw (f y)≤4294967296→self.pw_expr b y 1=some (ad b (f y))):∀ (m i:Nat) (b:Wd),i≤l.length→l.length<m+i→l.length≤6→b.length+lw (wW f i (l.drop i)++[[41]])≤4294967296→pw_args_l1 self l m i b=some (ad b (wW f i (l.drop i)++[[41]])):=by
 intro m
 induction m with
 | zero=>intro i b h1 h2; omega
 | succ m ih =>
  intro i b h1 h2 h6 h3
  rw [pw_args_l1]
  by_cases c:i<l.length
  ·rw [if_pos (by omega)]
   rw [List.drop_eq_getElem_cons c] at h3 ⊢
   have go:∀ b1:Wd,b1.length+lw (f l[i])+lw (wT f (l.drop (i+1)))+lw [[41]]≤4294967296→pw_args_j1 self l i (pw_args_l1 self l m) b1=some (ad b1 (f l[i]++(wT f (l.drop (i+1))++[[41]]))):=by
    intro b1 hb
    rw [pw_args_j1,at_nat,List.getElem?_eq_getElem c,bS,hE _ (List.getElem_mem c) b1 (by omega),bS,i64_ok (by omega),bS]
    have hl:=ad_len (f l[i]) b1
    have:=ih (i+1) (ad b1 (f l[i])) (by omega) (by omega) h6 (by rw [wW_s,lw_app]; omega)
    rw [wW_s] at this
    rw [show ((i:Int)+1)=((i+1:Nat):Int) by omega,this,ad_app (f l[i])]
   by_cases h0:i=0
   ·subst h0
    rw [wW] at h3 ⊢
    rw [if_neg (by omega),go b (by rw [lw_app,lw_app] at h3; omega),List.append_assoc]
   ·rw [wW_p f h0] at h3 ⊢
    have e:wT f (l[i]::l.drop (i+1))=[[44]]++(f l[i]++wT f (l.drop (i+1))):=by
     generalize l[i]=x
     generalize l.drop (i+1)=t
     rw [wT,wT,List.map_cons,List.flatten_cons]
     rfl
    rw [e] at h3 ⊢
    rw [lw_app,lw_app,lw_app] at h3
    have hl:=ad_len [[44]] b
    rw [if_pos (by omega),put_t (by omega),bS,go _ (by omega),List.append_assoc,ad_app [[44]],List.append_assoc]
  ·rw [if_neg (by omega)]
   have e:wW f i (l.drop i)=[]:=by
    rw [List.drop_eq_nil_of_le (by omega)]
    cases i <;> rfl
   rw [e,List.nil_append] at h3 ⊢
   rw [put_t h3,bS]
theorem pargs_t {f:TExpr→List Wd} {l:List TExpr} (hE:∀ y ∈ l,∀ b:Wd,b.length+lw (f y)≤4294967296→self.pw_expr b y 1=some (ad b (f y))) (h6:l.length≤6) {b:Wd} (h:b.length+lw (wA f l)≤4294967296):pw_args self b l=some (ad b (wA f l)):=by
 rw [wA_e] at h ⊢
 rw [show [40]::(wW f 0 l++[[41]])=[[40]]++(wW f 0 l++[[41]]) from rfl] at h ⊢
 rw [lw_app] at h
 have hl:=ad_len [[40]] b
 rw [pw_args,put_t (by omega),bS,ad_app [[40]]]
 have:=pargs_l1_t hE (l.length+1) 0 (ad b [[40]]) (by omega) (by omega) h6 (by simpa using (by omega))
 simpa using this
end
theorem core_t {k:Nat} {E:PrE} {x:TExpr} (hx:FmE (k+1) x) (hE:∀ y ∈ x.Kids,∀ (b:Wd) (need:Nat),need≤8→b.length+lw (wE k need y)≤4294967296→E.pw_expr b y need=some (ad b (wE k need y))) (hA:∀ (b:Wd),b.length+lw (wA (wE k 1) x.Kids)≤4294967296→E.pw_args b x.Kids=some (ad b (wA (wE k 1) x.Kids))) (b:Wd) (hb:b.length+lw (wC (wE k) x)≤4294967296) :
  pcore E x (if 4≤x.Kind∧x.Kind≤18 then sgn x.Kind else [],((own x.Kind:Nat):Int)) b=some (ad b (wC (wE k) x)):=by
 obtain ⟨h1,h2,hk,hN,hB,-,-⟩:=hx
 unfold wC at hb ⊢
 unfold pcore
 have two:∀ (u v:List Wd) (b:Wd),ad (ad b u) v=ad b (u++v):=fun u v b=>(ad_app u v b).symm
 have ar:∀ (w:List Wd),b.length+lw (w++wA (wE k 1) x.Kids)≤4294967296→((pw_put b w).bind fun r=>(E.pw_args r x.Kids).bind fun q=>some q)=some (ad b (w++wA (wE k 1) x.Kids)):=by
  intro w hw
  rw [lw_app] at hw
  have hl:=ad_len w b
  rw [put_t (by omega),bS,hA _ (by omega),bS,two]
 by_cases c1:x.Kind=1
 ·simp only [if_pos c1] at hb ⊢
  rw [fmt_ok (hN c1),bS,put_t hb,bS]
 simp only [if_neg c1] at hb ⊢
 by_cases c2:x.Kind=2
 ·simp only [if_pos c2] at hb ⊢
  rcases hB c2 with e | e
  ·rw [e] at hb ⊢
   show ((pw_put b [[102,97,108,115,101]]).bind fun r=>some r)=_
   rw [if_neg (by decide)] at hb ⊢
   rw [put_t hb,bS]
  ·rw [e] at hb ⊢
   show ((pw_put b [[116,114,117,101]]).bind fun r=>some r)=_
   rw [if_pos rfl] at hb ⊢
   rw [put_t hb,bS]
 simp only [if_neg c2] at hb ⊢
 by_cases c3:x.Kind=3
 ·simp only [if_pos c3] at hb ⊢
  rw [put_t hb,bS]
 simp only [if_neg c3] at hb ⊢
 by_cases c45:x.Kind=4∨x.Kind=5
 ·simp only [if_pos c45] at hb ⊢
  have e:(if x.Kind=4 then pw_expr_j3 E x b (if 4≤x.Kind∧x.Kind≤18 then sgn x.Kind else [],((own x.Kind:Nat):Int)) (decide (x.Kind=4)) else pw_expr_j3 E x b (if 4≤x.Kind∧x.Kind≤18 then sgn x.Kind else [],((own x.Kind:Nat):Int)) (decide (x.Kind=5)))=pw_expr_j3 E x b (if 4≤x.Kind∧x.Kind≤18 then sgn x.Kind else [],((own x.Kind:Nat):Int)) true:=by
   rcases c45 with c | c
   ·rw [if_pos c,decide_eq_true c]
   ·rw [if_neg (by omega),decide_eq_true c]
  rw [e,pw_expr_j3,if_pos rfl,if_pos (by omega)]
  have hkl:x.Kids.length=1:=by
   have e1:kidN x.Kind=1:=by rcases c45 with c | c <;> rw [c] <;> rfl
   have:=hk.eq (by omega)
   omega
  obtain ⟨a,ha⟩:=List.length_eq_one_iff.1 hkl
  rw [ha] at hb ⊢
  dsimp only at hb ⊢
  rw [show sgn x.Kind::wE k 6 a=[sgn x.Kind]++wE k 6 a from rfl,lw_app] at hb
  have hl:=ad_len [sgn x.Kind] b
  have h6:=hE a (by simp [ha]) (ad b [sgn x.Kind]) 6 (by omega) (by omega)
  rw [put_t (by omega),bS,at_0 (by simp),bS]
  show ((E.pw_expr (ad b [sgn x.Kind]) a ((6:Nat):Int)).bind fun r=>some r)=_
  rw [h6,bS,two]
  rfl
 simp only [if_neg c45] at hb ⊢
 rw [if_neg (by omega),decide_eq_false (show ¬ x.Kind=5 by omega),pw_expr_j3,if_neg (by decide)]
 by_cases c18:x.Kind≤18
 ·simp only [if_pos c18] at hb ⊢
  have hkl:x.Kids.length=2:=by
   have e1:kidN x.Kind=2:=by unfold kidN; rw [if_neg (by omega),if_neg (by omega),if_pos (by omega)]
   have:=hk.eq (by omega)
   omega
  rw [if_pos (show 4≤x.Kind∧x.Kind≤18 by omega),if_neg (show ¬ x.Kind=20 by omega),if_neg (show ¬ x.Kind=21 by omega),if_neg (show ¬ x.Kind=23 by omega),if_neg (show ¬ x.Kind=24 by omega),if_neg (show ¬ x.Kind=22 by omega),if_neg (show ¬ x.Kind=19 by omega)]
  obtain ⟨a,c,ha⟩:∃ a c,x.Kids=[a,c]:=by
   match x.Kids,hkl with
   | [a,c],_=>exact ⟨a,c,rfl⟩
  rw [ha] at hb ⊢
  dsimp only at hb ⊢
  have ho:own x.Kind≤7:=by
   unfold own
   (repeat' split) <;> omega
  have j4:∀ left:Nat,left≤8→b.length+lw (wE k left a++sgn x.Kind::wE k (own x.Kind+1) c)≤4294967296→pw_expr_j4 E x b (sgn x.Kind,((own x.Kind:Nat):Int)) (left:Int)=some (ad b (wE k left a++sgn x.Kind::wE k (own x.Kind+1) c)):=by
   intro left hl8 hb
   rw [show wE k left a++sgn x.Kind::wE k (own x.Kind+1) c=wE k left a++([sgn x.Kind]++wE k (own x.Kind+1) c) from rfl] at hb ⊢
   rw [lw_app,lw_app] at hb
   have l1:=ad_len (wE k left a) b
   have l2:=ad_len [sgn x.Kind] (ad b (wE k left a))
   rw [pw_expr_j4,ha,at_0 (by simp),bS]
   dsimp only
   show ((E.pw_expr b a (left:Int)).bind _)=_
   rw [hE a (by simp [ha]) b left hl8 (by omega),bS,put_t (by omega),bS,at_1 (by simp),bS,i64_ok (by omega),bS]
   show ((E.pw_expr _ c (((own x.Kind:Nat):Int)+1)).bind _)=_
   rw [show (((own x.Kind:Nat):Int)+1)=((own x.Kind+1:Nat):Int) by omega,hE c (by simp [ha]) _ (own x.Kind+1) (by omega) (by omega),bS,two,two]
  by_cases c3:own x.Kind=3
  ·rw [if_pos c3] at hb ⊢
   rw [if_pos (by omega),i64_ok (by omega),bS,show (((own x.Kind:Nat):Int)+1)=((4:Nat):Int) by omega]
   exact j4 4 (by omega) hb
  ·rw [if_neg c3] at hb ⊢
   rw [if_neg (by omega)]
   exact j4 (own x.Kind) (by omega) hb
 simp only [if_neg c18] at hb ⊢
 by_cases c19:x.Kind=19
 ·simp only [if_pos c19] at hb ⊢
  rw [if_neg (by omega),if_neg (by omega),if_neg (by omega),if_neg (by omega),if_neg (by omega)]
  exact ar [x.Name] hb
 simp only [if_neg c19] at hb ⊢
 by_cases c20:x.Kind=20
 ·simp only [if_pos c20] at hb ⊢
  rw [put_t hb,bS]
 simp only [if_neg c20] at hb ⊢
 by_cases c21:x.Kind=21
 ·simp only [if_pos c21] at hb ⊢
  exact ar [_] hb
 simp only [if_neg c21] at hb ⊢
 by_cases c22:x.Kind=22
 ·simp only [if_pos c22] at hb ⊢
  rw [if_neg (by omega),if_neg (by omega)]
  exact ar [_,x.Name] hb
 simp only [if_neg c22] at hb ⊢
 by_cases c23:x.Kind=23
 ·simp only [if_pos c23] at hb ⊢
  exact ar [_] hb
 simp only [if_neg c23] at hb ⊢
 rw [if_pos (by omega)]
 exact ar [_] hb
theorem expr_t:∀ (k n:Nat) (x:TExpr) (b:Wd) (need:Nat),FmE k x→2*k≤n→b.length+lw (wE k need x)≤4294967296→(PrE_run n).pw_expr b x need=some (ad b (wE k need x)):=by
 intro k
 induction k with
 | zero=>intro n x b need h; exact h.elim
 | succ k ih =>
  intro n x b need hx hn hb
  obtain ⟨n,rfl⟩:∃ m,n=m+2:=⟨n - 2,by omega⟩
  have hx':=hx
  obtain ⟨h1,h2,hk,-,-,-,hkids⟩:=hx'
  have hE:∀ y ∈ x.Kids,∀ (b:Wd) (need:Nat),need≤8→b.length+lw (wE k need y)≤4294967296→(PrE_run (n+1)).pw_expr b y need=some (ad b (wE k need y)):=fun y hy b need _ hb=>ih (n+1) y b need (hkids y hy) (by omega) hb
  have hA:∀ (b:Wd),b.length+lw (wA (wE k 1) x.Kids)≤4294967296→(PrE_run (n+1)).pw_args b x.Kids=some (ad b (wA (wE k 1) x.Kids)):=fun b hb =>
   pargs_t (self:=PrE_run n) (f:=wE k 1) (l:=x.Kids) (fun y hy b hb=>ih n y b 1 (hkids y hy) (by omega) hb) hk.le hb
  show pw_expr (PrE_run (n+1)) b x need=_
  rw [expr_e,tight_t h1 h2,bS]
  rw [wE] at hb ⊢
  by_cases c:own x.Kind<need
  ·rw [if_pos c] at hb ⊢
   rw [show [40]::(wC (wE k) x++[[41]])=[[40]]++(wC (wE k) x++[[41]]) from rfl] at hb ⊢
   rw [lw_app,lw_app] at hb
   have l1:=ad_len [[40]] b
   have l2:=ad_len (wC (wE k) x) (ad b [[40]])
   rw [if_pos (by exact Int.ofNat_lt.2 c),put_t (by omega),bS,core_t hx hE hA _ (by omega),bS,pend,putd_t (by omega),bS,ad_app [[40]],ad_app (wC (wE k) x)]
  ·rw [if_neg c] at hb ⊢
   rw [if_neg (by simpa using c)]
   exact core_t hx hE hA b hb
end Go.Y
namespace Go.Y
open Go.Wk Go.Xt
section
variable {self:PrS} {g:TStat→List Wd} {l:List TStat}
theorem body_l1_t' (hS:∀ y ∈ l,∀ b:Wd,b.length+lw (g y)≤4294967296→self.pw_stat b y=some (ad b (g y))) (h5:l.length≤50):∀ (m i:Nat) (b:Wd),i≤l.length→l.length<m+i→b.length+lw (((l.drop i).map g).flatten++[[125]])≤4294967296→pw_body_l1 self l m i b=some (ad b (((l.drop i).map g).flatten++[[125]])):=by
 intro m
 induction m with
 | zero=>intro i b h1 h2; omega
 | succ m ih =>
  intro i b h1 h2 h3
  rw [pw_body_l1]
  by_cases c:i<l.length
  ·rw [if_pos (by omega),at_nat,List.getElem?_eq_getElem c,bS]
   rw [List.drop_eq_getElem_cons c,List.map_cons,List.flatten_cons,List.append_assoc] at h3 ⊢
   rw [lw_app] at h3
   have hl:=ad_len (g l[i]) b
   rw [hS _ (List.getElem_mem c) b (by omega),bS,i64_ok (by omega),bS,show ((i:Int)+1)=((i+1:Nat):Int) from rfl,ih (i+1) _ (by omega) (by omega) (by omega),ad_app (g l[i])]
  ·rw [if_neg (by omega)]
   rw [List.drop_eq_nil_of_le (by omega),List.map_nil,List.flatten_nil,List.nil_append] at h3 ⊢
   rw [put_t h3,bS]
theorem body_t' (hS:∀ y ∈ l,∀ b:Wd,b.length+lw (g y)≤4294967296→self.pw_stat b y=some (ad b (g y))) (h5:l.length≤50) {b:Wd} (h:b.length+lw (wBody g l)≤4294967296):pw_body self b l=some (ad b (wBody g l)):=by
 unfold wBody at h ⊢
 rw [show [123]::((l.map g).flatten++[[125]])=[[123]]++((l.map g).flatten++[[125]]) from rfl] at h ⊢
 rw [lw_app] at h
 have hl:=ad_len [[123]] b
 rw [pw_body,put_t (by omega),bS,ad_app [[123]]]
 have:=body_l1_t' hS h5 (l.length+1) 0 (ad b [[123]]) (by omega) (by omega) (by simpa using (by omega))
 simpa using this
end
theorem ad2 (u v:List Wd) (b:Wd):ad (ad b u) v=ad b (u++v):=(ad_app u v b).symm
theorem stat_t {k fu:Nat} {S:PrS} {x:TStat} (hx:FmS (k+1) x) (hf:2*k≤fu) (hB:∀ (l:List TStat),(∀ y ∈ l,FmS k y)→l.length≤50→∀ b:Wd,b.length+lw (wBody (wS k) l)≤4294967296→S.pw_body b l=some (ad b (wBody (wS k) l))) (b:Wd) (hb:b.length+lw (wS (k+1) x)≤4294967296) :
  pw_stat fu S b x=some (ad b (wS (k+1) x)):=by
 obtain ⟨h1,h9,hX,hN,hBd,hEl⟩:=hx
 have j1:∀ (w:List Wd),x.Kind≠6→b.length+lw (w++(wE k 1 x.X++[[59]]))≤4294967296→((pw_put b w).bind fun r=>pw_stat_j1 fu x r)=some (ad b (w++(wE k 1 x.X++[[59]]))):=by
  intro w h6 hw
  rw [lw_app,lw_app] at hw
  have l1:=ad_len w b
  have l2:=ad_len (wE k 1 x.X) (ad b w)
  rw [put_t (by omega),bS,pw_stat_j1,if_pos h6]
  show (((PrE_run fu).pw_expr (ad b w) x.X ((1:Nat):Int)).bind _)=_
  rw [expr_t k fu x.X _ 1 (hX h6) hf (by omega),bS,pw_stat_j4,put_t (by omega),bS,ad2,ad2]
 have j2:pw_stat fu S b x=pw_stat_j2 fu S x b (decide (x.Kind=3∨x.Kind=4)):=by
  rw [pw_stat]
  by_cases c:x.Kind=3
  ·rw [if_pos c,decide_eq_true c,decide_eq_true (.inl c)]
  ·rw [if_neg c]
   congr 1
   exact decide_eq_decide.2 (by omega)
 rw [j2,pw_stat_j2]
 rw [wS] at hb ⊢
 by_cases c3:x.Kind=3
 ·rw [if_pos c3] at hb ⊢
  rw [decide_eq_true (.inl c3),if_pos rfl]
  rw [show [105,102]::(wE k 1 x.X++(wBody (wS k) x.Body++(if x.Else=[] then [] else [101,108,115,101]::wBody (wS k) x.Else)))=[[105,102]]++(wE k 1 x.X++(wBody (wS k) x.Body++(if x.Else=[] then [] else [[101,108,115,101]]++wBody (wS k) x.Else))) from rfl] at hb ⊢
  rw [lw_app,lw_app,lw_app] at hb
  have l1:=ad_len [[105,102]] b
  have l2:=ad_len (wE k 1 x.X) (ad b [[105,102]])
  have l3:=ad_len (wBody (wS k) x.Body) (ad (ad b [[105,102]]) (wE k 1 x.X))
  obtain ⟨hb5,hbo⟩:=hBd (.inl c3)
  obtain ⟨he5,hel⟩:=hEl c3
  rw [show ((mget (mput (mput ([]:List (Int×List UInt8)) 3 [105,102]) 4 [119,104,105,108,101]) x.Kind).getD [])=[105,102] by rw [c3]; rfl]
  rw [put_t (by omega),bS]
  show (((PrE_run fu).pw_expr (ad b [[105,102]]) x.X ((1:Nat):Int)).bind _)=_
  rw [expr_t k fu x.X _ 1 (hX (by omega)) hf (by omega),bS,hB x.Body hbo hb5 _ (by omega),bS,if_pos c3]
  by_cases ce:x.Else=[]
  ·rw [if_pos ce] at hb ⊢
   rw [decide_eq_false (by rw [ce]; simp),pw_stat_j3,if_neg (by decide),ad2,ad2]
   simp
  ·rw [if_neg ce] at hb ⊢
   rw [lw_app] at hb
   have l4:=ad_len [[101,108,115,101]] (ad (ad (ad b [[105,102]]) (wE k 1 x.X)) (wBody (wS k) x.Body))
   have hc:0<x.Else.length:=List.length_pos_iff.2 ce
   rw [decide_eq_true (by omega),pw_stat_j3,if_pos rfl,put_t (by omega),bS,hB x.Else hel he5 _ (by omega),bS,ad2,ad2,ad2,ad2]
 rw [if_neg c3] at hb ⊢
 by_cases c4:x.Kind=4
 ·rw [if_pos c4] at hb ⊢
  rw [decide_eq_true (.inr c4),if_pos rfl]
  rw [show [119,104,105,108,101]::(wE k 1 x.X++wBody (wS k) x.Body)=[[119,104,105,108,101]]++(wE k 1 x.X++wBody (wS k) x.Body) from rfl] at hb ⊢
  rw [lw_app,lw_app] at hb
  have l1:=ad_len [[119,104,105,108,101]] b
  have l2:=ad_len (wE k 1 x.X) (ad b [[119,104,105,108,101]])
  obtain ⟨hb5,hbo⟩:=hBd (.inr c4)
  rw [show ((mget (mput (mput ([]:List (Int×List UInt8)) 3 [105,102]) 4 [119,104,105,108,101]) x.Kind).getD [])=[119,104,105,108,101] by rw [c4]; rfl]
  rw [put_t (by omega),bS]
  show (((PrE_run fu).pw_expr (ad b [[119,104,105,108,101]]) x.X ((1:Nat):Int)).bind _)=_
  rw [expr_t k fu x.X _ 1 (hX (by omega)) hf (by omega),bS,hB x.Body hbo hb5 _ (by omega),bS,if_neg c3,pw_stat_j3,if_neg (by decide),ad2,ad2]
 rw [if_neg c4] at hb ⊢
 rw [decide_eq_false (by omega),if_neg (by decide)]
 by_cases c1:x.Kind=1
 ·rw [if_pos c1] at hb ⊢
  rw [if_pos c1]
  exact j1 [_,x.Name,_] (by omega) hb
 rw [if_neg c1] at hb ⊢
 rw [if_neg c1]
 by_cases c2:x.Kind=2
 ·rw [if_pos c2] at hb ⊢
  rw [if_pos c2]
  exact j1 [x.Name,_] (by omega) hb
 rw [if_neg c2] at hb ⊢
 rw [if_neg c2]
 by_cases c7:x.Kind=7
 ·rw [if_pos c7] at hb ⊢
  rw [if_pos c7]
  exact j1 [_,x.Name] (by omega) hb
 rw [if_neg c7] at hb ⊢
 rw [if_neg c7]
 by_cases c6:x.Kind=6
 ·rw [if_pos c6] at hb ⊢
  rw [show ((mget (mput (mput (mput (mput ([]:List (Int×List UInt8)) 5 [114,101,116,117,114,110]) 6 [115,116,111,112]) 8 [111,117,116]) 9 [100,111]) x.Kind).getD [])=[115,116,111,112] by rw [c6]; rfl]
  rw [show ([[115,116,111,112],[59]]:List Wd)=[[115,116,111,112]]++[[59]] from rfl] at hb ⊢
  rw [lw_app] at hb
  have l1:=ad_len [[115,116,111,112]] b
  rw [put_t (by omega),bS,pw_stat_j1,if_neg (by simpa using c6),pw_stat_j4,put_t (by omega),bS,ad2]
 rw [if_neg c6] at hb ⊢
 have e:((mget (mput (mput (mput (mput ([]:List (Int×List UInt8)) 5 [114,101,116,117,114,110]) 6 [115,116,111,112]) 8 [111,117,116]) 9 [100,111]) x.Kind).getD [])=(if x.Kind=5 then [114,101,116,117,114,110] else if x.Kind=8 then [111,117,116] else [100,111]):=by
  have:x.Kind=5∨x.Kind=8∨x.Kind=9:=by omega
  rcases this with c | c | c <;> rw [c] <;> rfl
 rw [e]
 exact j1 [_] c6 hb
theorem stats_t':∀ (k n:Nat) (x:TStat) (b:Wd),FmS k x→4*k+2≤n→b.length+lw (wS k x)≤4294967296→(PrS_run n).pw_stat b x=some (ad b (wS k x)):=by
 intro k
 induction k with
 | zero=>intro n x b h; exact h.elim
 | succ k ih =>
  intro n x b hx hn hb
  obtain ⟨n,rfl⟩:∃ m,n=m+2:=⟨n - 2,by omega⟩
  exact stat_t (fu:=n+1) (S:=PrS_run (n+1)) hx (by omega) (fun l hl h5 b hb=>body_t' (self:=PrS_run n) (g:=wS k) (fun y hy b hb=>ih n y b (hl y hy) (by omega) hb) h5 hb) b hb
theorem ptype_t {t:TType} (h:OkT t):pr_type t=some (wTy t):=by
 rw [pr_type,wTy]
 repeat' split
 all_goals first | rfl | omega
def pW:List TParam→List Wd
 | []=>[]
 | q::l=>q.Name::wTy q.Typ::wPT l
theorem pdef_l1_t {fu:Nat} {x:TDef} (hp:x.Params.length≤6) (hq:∀ q ∈ x.Params,OkT q.Typ) (R:List Wd) (hR:∀ b:Wd,b.length+lw R≤4294967296→(if x.Kind=3 then
    (pr_type x.Takes).bind fun r295 =>
    (pw_put b [[116,97,107,101,115],r295,[121,105,101,108,100,115]]).bind fun r302 =>
    pw_def_j6 fu x r302
   else
    pw_def_j6 fu x b)=some (ad b R)):∀ (m i:Nat) (b:Wd),i≤x.Params.length→x.Params.length<m+i→b.length+lw ((if i=0 then pW x.Params else wPT (x.Params.drop i))++([[41]]++R))≤4294967296→pw_def_l1 fu x m i b=some (ad b ((if i=0 then pW x.Params else wPT (x.Params.drop i))++([[41]]++R))):=by
 intro m
 induction m with
 | zero=>intro i b h1 h2; omega
 | succ m ih =>
  intro i b h1 h2 h3
  rw [pw_def_l1]
  by_cases c:i<x.Params.length
  ·rw [if_pos (by omega),at_nat,List.getElem?_eq_getElem c,bS]
   have go:∀ b1:Wd,b1.length+lw ([x.Params[i].Name,wTy x.Params[i].Typ]++(wPT (x.Params.drop (i+1))++([[41]]++R)))≤4294967296→pw_def_j4 i x.Params[i] (pw_def_l1 fu x m) b1=some (ad b1 ([x.Params[i].Name,wTy x.Params[i].Typ]++(wPT (x.Params.drop (i+1))++([[41]]++R)))):=by
    intro b1 hb
    rw [lw_app] at hb
    have l1:=ad_len [x.Params[i].Name,wTy x.Params[i].Typ] b1
    rw [pw_def_j4,ptype_t (hq _ (List.getElem_mem c)),bS,put_t (by omega),bS,pw_def_j5,i64_ok (by omega),bS,show ((i:Int)+1)=((i+1:Nat):Int) from rfl]
    have:=ih (i+1) (ad b1 [x.Params[i].Name,wTy x.Params[i].Typ]) (by omega) (by omega) (by rw [if_neg (by omega)]; omega)
    rw [this,if_neg (by omega),ad2]
   by_cases h0:i=0
   ·subst h0
    rw [if_pos rfl] at h3 ⊢
    rw [if_neg (by omega)]
    have e:∀ (P:List TParam) (hP:0<P.length),pW P=[P[0].Name,wTy P[0].Typ]++wPT (P.drop 1):=by
     intro P hP
     cases P with
     | nil=>simp at hP
     | cons q l=>rfl
    rw [e _ c,List.append_assoc] at h3 ⊢
    exact go b h3
   ·rw [if_neg h0] at h3 ⊢
    rw [if_pos (by omega)]
    have e:wPT (x.Params.drop i)=[[44]]++([x.Params[i].Name,wTy x.Params[i].Typ]++wPT (x.Params.drop (i+1))):=by
     rw [List.drop_eq_getElem_cons c,wPT,wPT,List.map_cons,List.flatten_cons]
     rfl
    rw [e,List.append_assoc,List.append_assoc] at h3 ⊢
    rw [lw_app] at h3
    have l1:=ad_len [[44]] b
    rw [put_t (by omega),bS,go _ (by omega),ad2]
  ·rw [if_neg (by omega)]
   have e:(if i=0 then pW x.Params else wPT (x.Params.drop i))=[]:=by
    by_cases h0:i=0
    ·rw [if_pos h0]
     have:x.Params=[]:=List.eq_nil_of_length_eq_zero (by omega)
     rw [this]
     rfl
    ·rw [if_neg h0,List.drop_eq_nil_of_le (by omega)]
     rfl
   rw [e,List.nil_append] at h3 ⊢
   rw [lw_app] at h3
   have l1:=ad_len [[41]] b
   rw [put_t (by omega),bS,hR _ (by omega),ad2]
theorem pdef_t {fu:Nat} (hf:200≤fu) {x:TDef} (hx:FmD x) {b:Wd} (hb:b.length+lw (wD x)≤4294967296):pw_def fu b x=some (ad b (wD x)):=by
 have hbody:∀ b:Wd,x.Kind≠1→b.length+lw (wBody (wS 39) x.Body)≤4294967296→pw_def_j1 fu x b=some (ad b (wBody (wS 39) x.Body)):=by
  intro b hk hb
  obtain ⟨h5,hS⟩:=hx.bo hk
  obtain ⟨n,rfl⟩:∃ m,fu=m+1:=⟨fu - 1,by omega⟩
  rw [pw_def_j1]
  show ((pw_body (PrS_run n) b x.Body).bind _)=_
  rw [body_t' (self:=PrS_run n) (g:=wS 39) (fun y hy b hb=>stats_t' 39 n y b (hS y hy) (by omega) hb) h5 hb,bS]
 have k1:=hx.k1
 have k4:=hx.k4
 rw [pw_def]
 unfold wD at hb ⊢
 by_cases c1:x.Kind=1
 ·rw [if_pos c1] at hb ⊢
  obtain ⟨p1,p2⟩:=hx.cp c1
  rw [if_pos c1,ptype_t (hx.ty (by omega)).1,bS,fmt_ok ⟨by omega,by omega⟩,bS,put_t hb,bS,pw_def_j2]
 rw [if_neg c1] at hb ⊢
 rw [if_neg c1]
 by_cases c4:x.Kind=4
 ·rw [if_pos c4] at hb ⊢
  rw [show [116,97,115,107]::x.Name::wBody (wS 39) x.Body=[[116,97,115,107],x.Name]++wBody (wS 39) x.Body from rfl,lw_app] at hb
  have l1:=ad_len [[116,97,115,107],x.Name] b
  rw [if_pos c4,put_t (by omega),bS,hbody _ c1 (by omega),ad2]
  rfl
 rw [if_neg c4] at hb ⊢
 rw [if_neg c4]
 obtain ⟨hp6,hps⟩:=hx.ps (by omega)
 have j6:∀ b:Wd,b.length+lw ([wTy x.Typ]++wBody (wS 39) x.Body)≤4294967296→pw_def_j6 fu x b=some (ad b ([wTy x.Typ]++wBody (wS 39) x.Body)):=by
  intro b hb
  rw [lw_app] at hb
  have l1:=ad_len [wTy x.Typ] b
  rw [pw_def_j6,ptype_t (hx.ty c4).1,bS,put_t (by omega),bS,hbody _ c1 (by omega),ad2]
 have ew:∀ (h:Wd) (R:List Wd),h::x.Name::(wPs x.Params++R)=[h,x.Name,[40]]++(pW x.Params++([[41]]++R)):=by
  intro h R
  cases x.Params with
  | nil=>rfl
  | cons q l=>simp [wPs,pW]
 have fin:∀ (h:Wd) (R:List Wd),(∀ b:Wd,b.length+lw R≤4294967296→(if x.Kind=3 then
    (pr_type x.Takes).bind fun r295 =>
    (pw_put b [[116,97,107,101,115],r295,[121,105,101,108,100,115]]).bind fun r302 =>
    pw_def_j6 fu x r302
   else
    pw_def_j6 fu x b)=some (ad b R))→b.length+lw (h::x.Name::(wPs x.Params++R))≤4294967296→((pw_put b [h,x.Name,[40]]).bind fun r88=>pw_def_j3 fu x r88)=some (ad b (h::x.Name::(wPs x.Params++R))):=by
  intro h R hR hb
  rw [ew] at hb ⊢
  rw [lw_app] at hb
  have l1:=ad_len [h,x.Name,[40]] b
  have:=pdef_l1_t (fu:=fu) hp6 (fun q hq=>(hps q hq).2.1) R hR (x.Params.length+1) 0 (ad b [h,x.Name,[40]]) (by omega) (by omega) (by rw [if_pos rfl]; omega)
  rw [put_t (by omega),bS,pw_def_j3]
  show pw_def_l1 fu x (x.Params.length+1) ((0:Nat):Int) _=_
  rw [this,if_pos rfl,ad2]
 by_cases c2:x.Kind=2
 ·rw [if_pos c2] at hb ⊢
  rw [show ((mget (mput (mput ([]:List (Int×List UInt8)) 2 [102,110]) 3 [103,101,110]) x.Kind).getD [])=[102,110] by rw [c2]; rfl]
  refine fin _ _ (fun b hb=>?_) hb
  rw [if_neg (by omega)]
  exact j6 b hb
 ·rw [if_neg c2] at hb ⊢
  have c3:x.Kind=3:=by omega
  rw [show ((mget (mput (mput ([]:List (Int×List UInt8)) 2 [102,110]) 3 [103,101,110]) x.Kind).getD [])=[103,101,110] by rw [c3]; rfl]
  refine fin _ _ (fun b hb=>?_) hb
  rw [if_pos c3,ptype_t (hx.tk c3).1,bS]
  rw [show [116,97,107,101,115]::wTy x.Takes::[121,105,101,108,100,115]::wTy x.Typ::wBody (wS 39) x.Body=[[116,97,107,101,115],wTy x.Takes,[121,105,101,108,100,115]]++([wTy x.Typ]++wBody (wS 39) x.Body) from rfl] at hb ⊢
  rw [lw_app] at hb
  have l1:=ad_len [[116,97,107,101,115],wTy x.Takes,[121,105,101,108,100,115]] b
  rw [put_t (by omega),bS,j6 _ (by omega),ad2]
end Go.Y
namespace Go.Y
open Go.Wk Go.Xt
theorem nmd_len {w:Wd} (h:Nmd w):w.length≤12:=by
 have h:=h 20 (Nat.le_refl _)
 rw [lex_named] at h
 have bad:lex_named_j1 20 w true≠some true:=fun h=>by cases h
 split at h
 ·exact absurd h bad
 ·split at h
  ·exact absurd h bad
  ·omega
theorem sgn_len (k:Int):(sgn k).length≤3:=by
 unfold sgn
 have I:∀ (c:Prop) [Decidable c] (a b:Wd),a.length≤3→b.length≤3→(if c then a else b).length≤3:=by
  intro c _ a b h1 h2
  split <;> assumption
 repeat' (first | (refine I _ _ _ (by decide) ?_) | decide)
theorem itoa_len {N:Int} (h0:0≤N) (h1:N≤999999999999999):(Lib.itoa N).length≤15:=by
 rw [itoa_nat h0]
 exact dec_len 14 _ (by omega)
theorem lw_flat {α:Type} (f:α→List Wd) (g:α→Nat) (c:Nat):∀ (l:List α),(∀ y ∈ l,lw (f y)≤100*g y+c)→lw (l.map f).flatten≤100*(l.map g).sum+c*l.length
 | [],_=>by simp [lw]
 | y::l,h=>by
  rw [List.map_cons,List.flatten_cons,lw_app,List.map_cons,List.sum_cons,List.length_cons]
  have h1:=h y (List.mem_cons_self ..)
  have h2:=lw_flat f g c l fun z hz=>h z (List.mem_cons_of_mem _ hz)
  rw [Nat.mul_add,Nat.mul_add]
  omega
theorem lw_A {f:TExpr→List Wd} {g:TExpr→Nat} {l:List TExpr} (h:∀ y ∈ l,lw (f y)≤100*g y) (h6:l.length≤6):lw (wA f l)≤100*(l.map g).sum+16:=by
 have hT:=lw_flat (fun x=>[44]::f x) g 2 l fun y hy=>by
  have:=h y hy
  show lw ([44]::f y)≤_
  rw [lw]
  simp
  omega
 have e:lw (wA f l)≤4+lw (l.map fun x=>[44]::f x).flatten:=by
  cases l with
  | nil=>simp [wA,lw]
  | cons x l =>
   rw [wA,lw,lw_app,lw_app,List.map_cons,List.flatten_cons,lw_app,lw,wT]
   simp [lw]
   omega
 omega
theorem lw_E:∀ (k need:Nat) (x:TExpr),FmE k x→lw (wE k need x)≤100*nE k x:=by
 intro k
 induction k with
 | zero=>intro need x h; exact h.elim
 | succ k ih =>
  intro need x hx
  obtain ⟨h1,h2,hk,hN,-,hM,hkids⟩:=hx
  have hA:=lw_A (f:=wE k 1) (g:=nE k) (l:=x.Kids) (fun y hy=>ih 1 y (hkids y hy)) hk.le
  have key:lw (wC (wE k) x)≤100*(x.Kids.map (nE k)).sum+60:=by
   have hs:=sgn_len x.Kind
   unfold wC
   split
   ·rename_i c
    have:=itoa_len (hN c).1 (hN c).2
    simp [lw]; omega
   split
   ·rw [lw,lw]; split <;> simp <;> omega
   split
   ·rename_i c
    have:=nmd_len (hM (.inl c))
    simp [lw]; omega
   split
   ·cases h:x.Kids with
    | nil=>simp [lw]; omega
    | cons a t =>
     have:=ih 6 a (hkids a (by simp [h]))
     simp [lw]; omega
   split
   ·cases h:x.Kids with
    | nil=>simp [lw]
    | cons a t =>
     cases t with
     | nil=>simp [lw]
     | cons c t =>
      have e1:=ih (if own x.Kind=3 then 4 else own x.Kind) a (hkids a (by simp [h]))
      have e2:=ih (own x.Kind+1) c (hkids c (by simp [h]))
      simp only [lw_app,lw,List.map_cons,List.sum_cons]
      omega
   split
   ·rename_i c
    have:=nmd_len (hM (.inr (.inr (.inl c))))
    rw [lw]; omega
   split
   ·rename_i c
    have:=nmd_len (hM (.inr (.inl c)))
    simp [lw]; omega
   split
   ·simp [lw]; omega
   split
   ·rename_i c
    have:=nmd_len (hM (.inr (.inr (.inr c))))
    simp [lw]; omega
   split
   ·simp [lw]; omega
   ·simp [lw]; omega
  rw [wE,nE]
  split
  ·rw [lw,lw_app]
   simp [lw]
   omega
  ·omega
theorem lw_S:∀ (k:Nat) (x:TStat),FmS k x→lw (wS k x)≤100*nS k x:=by
 intro k
 induction k with
 | zero=>intro x h; exact h.elim
 | succ k ih =>
  intro x hx
  obtain ⟨h1,h9,hX,hN,hBd,hEl⟩:=hx
  have hB:∀ l:List TStat,(∀ y ∈ l,FmS k y)→lw (wBody (wS k) l)≤100*(l.map (nS k)).sum+4:=by
   intro l hl
   have:=lw_flat (wS k) (nS k) 0 l fun y hy=>ih y (hl y hy)
   rw [wBody,lw,lw_app]
   simp [lw]
   omega
  have hE:x.Kind≠6→lw (wE k 1 x.X)≤100*nE k x.X:=fun h=>lw_E k 1 x.X (hX h)
  have eN:x.Kind=1∨x.Kind=2∨x.Kind=7→x.Name.length≤12:=fun h=>nmd_len (hN h)
  rw [wS,nS]
  by_cases c6:x.Kind=6
  ·rw [if_neg (by omega),if_neg (by omega),if_neg (by omega),if_neg (by omega),if_neg (by omega),if_pos c6]
   simp [lw]; omega
  have hE:=hE c6
  simp only [if_neg c6]
  by_cases c3:x.Kind=3
  ·have b1:=hB x.Body (hBd (.inl c3)).2
   have b2:=hB x.Else (hEl c3).2
   rw [if_pos c3,if_pos (show x.Kind=3∨x.Kind=4 from .inl c3),if_pos c3,lw,lw_app,lw_app]
   split
   ·simp [lw]; omega
   ·simp [lw]; omega
  rw [if_neg c3]
  by_cases c4:x.Kind=4
  ·have b1:=hB x.Body (hBd (.inr c4)).2
   rw [if_pos c4,if_pos (show x.Kind=3∨x.Kind=4 from .inr c4),if_neg c3,lw,lw_app]
   simp; omega
  rw [if_neg c4,if_neg (show ¬ (x.Kind=3∨x.Kind=4) by omega),if_neg c3]
  by_cases c1:x.Kind=1
  ·have:=eN (.inl c1)
   rw [if_pos c1]
   simp only [lw,lw_app,List.length_cons,List.length_nil]; omega
  rw [if_neg c1]
  by_cases c2:x.Kind=2
  ·have:=eN (.inr (.inl c2))
   rw [if_pos c2]
   simp only [lw,lw_app,List.length_cons,List.length_nil]; omega
  rw [if_neg c2]
  by_cases c7:x.Kind=7
  ·have:=eN (.inr (.inr c7))
   rw [if_pos c7]
   simp only [lw,lw_app,List.length_cons,List.length_nil]; omega
  rw [if_neg c7,lw,lw_app]
  split
  ·simp only [lw,List.length_cons,List.length_nil]; omega
  split
  ·simp only [lw,List.length_cons,List.length_nil]; omega
  ·simp only [lw,List.length_cons,List.length_nil]; omega
theorem wTy_len {t:TType} (h:TyF t):(wTy t).length≤12:=by
 obtain ⟨⟨h1,h2⟩,h3⟩:=h
 rw [wTy]
 split
 ·decide
 ·split
  ·decide
  ·exact nmd_len (h3 (by omega))
theorem lw_D {x:TDef} (hx:FmD x):lw (wD x)≤100*nD x+400:=by
 have hn:=nmd_len hx.nm
 have k1:=hx.k1
 have k4:=hx.k4
 have hB:x.Kind≠1→lw (wBody (wS 39) x.Body)≤100*(x.Body.map (nS 39)).sum+4:=by
  intro hk
  have:=lw_flat (wS 39) (nS 39) 0 x.Body fun y hy=>lw_S 39 y ((hx.bo hk).2 y hy)
  rw [wBody,lw,lw_app]
  simp [lw]
  omega
 have hP:x.Kind=2∨x.Kind=3→lw (wPs x.Params)≤4+28*6:=by
  intro hk
  obtain ⟨h6,hq⟩:=hx.ps hk
  have hT:=lw_flat (fun q:TParam=>[44]::q.Name::[wTy q.Typ]) (fun _=>0) 28 x.Params fun q hq'=>by
   have a:=nmd_len (hq q hq').1
   have b:=wTy_len (hq q hq').2
   simp [lw]; omega
  have e0:(x.Params.map fun _=>0).sum=0:=by
   generalize x.Params=P
   induction P with
   | nil=>rfl
   | cons q P ih=>simpa using ih
  rw [e0] at hT
  have e:lw (wPs x.Params)≤4+lw (x.Params.map fun q:TParam=>[44]::q.Name::[wTy q.Typ]).flatten:=by
   cases x.Params with
   | nil=>simp [wPs,lw]
   | cons q l =>
    simp only [wPs,wPT,lw,lw_app,List.map_cons,List.flatten_cons,List.length_cons,List.length_nil]
    omega
  omega
 unfold wD
 rw [nD]
 by_cases c1:x.Kind=1
 ·have a:=wTy_len (hx.ty (by omega))
  obtain ⟨p1,p2⟩:=hx.cp c1
  have b:=itoa_len (N:=x.Cap) (by omega) (by omega)
  rw [if_pos c1]
  simp only [lw,List.length_cons,List.length_nil]
  omega
 have hB:=hB c1
 rw [if_neg c1,if_pos c1]
 by_cases c4:x.Kind=4
 ·rw [if_pos c4]
  simp only [lw,List.length_cons,List.length_nil]
  omega
 have hP:=hP (by omega)
 have a:=wTy_len (hx.ty c4)
 rw [if_neg c4]
 by_cases c2:x.Kind=2
 ·rw [if_pos c2]
  simp only [lw,lw_app,List.length_cons,List.length_nil]
  omega
 ·have b:=wTy_len (hx.tk (by omega))
  rw [if_neg c2]
  simp only [lw,lw_app,List.length_cons,List.length_nil]
  omega
theorem lw_P {l:List TDef} (hl:l.length≤30) (hF:∀ x ∈ l,FmD x) (hn:(l.map nD).sum≤2000):lw (wP l)≤300000:=by
 have:=lw_flat wD nD 400 l fun x hx=>lw_D (hF x hx)
 rw [wP]
 omega
theorem print_l1_t {fu:Nat} (hf:200≤fu) {l:List TDef} (hl:l.length≤30) (hF:∀ x ∈ l,FmD x):∀ (m i:Nat) (b:Wd),i≤l.length→l.length<m+i→b.length+lw (((l.drop i).map wD).flatten)≤4294967296 →
  syn_print_l1 fu l m i b=some (if 6000<(ad b ((l.drop i).map wD).flatten).length then ([],⟨4,0⟩) else (ad b ((l.drop i).map wD).flatten,⟨0,0⟩)):=by
 intro m
 induction m with
 | zero=>intro i b h1 h2; omega
 | succ m ih =>
  intro i b h1 h2 h3
  rw [syn_print_l1]
  by_cases c:i<l.length
  ·rw [if_pos (by omega),at_nat,List.getElem?_eq_getElem c,bS]
   rw [List.drop_eq_getElem_cons c,List.map_cons,List.flatten_cons] at h3 ⊢
   rw [lw_app] at h3
   have l1:=ad_len (wD l[i]) b
   rw [pdef_t hf (hF _ (List.getElem_mem c)) (by omega),bS,i64_ok (by omega),bS,show ((i:Int)+1)=((i+1:Nat):Int) from rfl,ih (i+1) _ (by omega) (by omega) (by omega),ad2]
  ·rw [if_neg (by omega),List.drop_eq_nil_of_le (by omega),bd_len,bS]
   simp only [List.map_nil,List.flatten_nil,ad]
   by_cases h:6000<b.length
   ·rw [if_pos (by omega),if_pos h]
   ·rw [if_neg (by omega),if_neg h]
theorem wP_head {l:List TDef}:∀ w t,wP l=w::t→w≠[]:=by
 intro w t h
 cases l with
 | nil=>cases h
 | cons x l =>
  rw [wP,List.map_cons,List.flatten_cons] at h
  unfold wD at h
  split at h
  ·simp only [List.cons_append,List.cons.injEq] at h; rw [← h.1]; simp
  split at h
  ·simp only [List.cons_append,List.cons.injEq] at h; rw [← h.1]; simp
  split at h
  ·simp only [List.cons_append,List.cons.injEq] at h; rw [← h.1]; simp
  ·simp only [List.cons_append,List.cons.injEq] at h; rw [← h.1]; simp
theorem print_t {fu:Nat} (hf:300≤fu) (l:List TDef):∃ f,syn_wrong fu l=some f∧((f.Err≠0∧syn_print fu l=some ([],f))∨(f.Err=0∧OkP l∧syn_print fu l=some (if 6000<(jn (wP l)).length then ([],⟨4,0⟩) else (jn (wP l),⟨0,0⟩)))):=by
 obtain ⟨f,h1,h2⟩:=syn_wrong_t fu (by omega) l
 refine ⟨f,h1,?_⟩
 by_cases z:f.Err=0
 ·obtain ⟨-,ok⟩:=h2 z
  obtain ⟨hl,hF⟩:=form_t hf h1 z
  refine .inr ⟨z,ok,?_⟩
  have hb:=lw_P hl hF ok.n
  have:=print_l1_t (fu:=fu) (by omega) hl hF (l.length+1) 0 [] (by omega) (by omega) (by rw [List.drop_zero]; unfold wP at hb; simp; omega)
  rw [syn_print,h1,bS,if_neg (by simpa using z)]
  show syn_print_l1 fu l (l.length+1) ((0:Nat):Int) []=_
  rw [this,List.drop_zero]
  have e:ad [] (l.map wD).flatten=jn (wP l):=ad_jn wP_head
  rw [e]
 ·exact .inl ⟨z,by rw [syn_print,h1,bS,if_pos z]⟩
end Go.Y
namespace Go.Y
open Go.Wk Go.Xt
def RW:List Wd:=[[98,111,120],[102,110],[103,101,110],[116,97,115,107],[116,97,107,101,115],[121,105,101,108,100,115],[108,101,116],[105,102],[101,108,115,101],[119,104,105,108,101],[114,101,116,117,114,110],[115,116,111,112],[115,101,110,100],[111,117,116],[100,111],[114,101,99,118],[121,105,101,108,100],[115,116,97,114,116],[114,101,115,117,109,101],[97,108,105,118,101],[110,117,109],[98,111,111,108],[116,114,117,101],[102,97,108,115,101],[97,110,100],[111,114],[110,111,116]]
def wrd (c:UInt8):Bool:=isLet c || isDig c
def fst1:Wd→Bool
 | c::_=>isLet c
 | []=>true
def nm (w:Wd):Bool:=decide (0<w.length) && decide (w.length≤12) && fst1 w && w.all wrd && !RW.contains w
theorem index_iff (sub:List UInt8):∀ s:List UInt8,0≤Lib.index s sub ↔ ∃ i,i≤s.length∧sub.isPrefixOf (s.drop i)=true:=by
 intro s
 induction s with
 | nil =>
  simp only [Lib.index]
  cases sub with
  | nil=>simp
  | cons a l=>simp
 | cons b l ih =>
  simp only [Lib.index]
  by_cases h:sub.isPrefixOf (b::l)=true
  ·rw [if_pos h]
   exact ⟨fun _=>⟨0,by simp,h⟩,fun _=>by omega⟩
  ·rw [if_neg h]
   have e:(0≤(if (Lib.index l sub == -1)=true then (-1:Int) else Lib.index l sub+1)) ↔ 0≤Lib.index l sub:=by
    by_cases h1:Lib.index l sub=-1
    ·simp [h1]
    ·have h2:(Lib.index l sub == -1)=false:=by simpa using h1
     rw [h2]
     simp only [Bool.false_eq_true,if_false]
     have:-1≤Lib.index l sub:=by
      clear ih h1 h2 h
      induction l with
      | nil=>simp only [Lib.index]; split <;> omega
      | cons c l ih2 =>
       simp only [Lib.index]
       split
       ·omega
       ·split
        ·omega
        ·have:=ih2; omega
     omega
   rw [e,ih]
   constructor
   ·rintro ⟨i,hi,hp⟩
    exact ⟨i+1,by simpa using hi,by simpa using hp⟩
   ·rintro ⟨i,hi,hp⟩
    cases i with
    | zero=>exact absurd (by simpa using hp) h
    | succ i=>exact ⟨i,by simpa using hi,by simpa using hp⟩
theorem hay_words:∀ i,i<tx_0.length→(tx_0.drop i).head?=some 32→((tx_0.drop (i+1)).takeWhile (fun c=>c != 32)) ∈ RW∨(tx_0.drop (i+1)).takeWhile (fun c=>c != 32)=[]:=by decide +kernel
theorem hay_has:∀ w ∈ RW,Lib.contains tx_0 (32::w++[32])=true:=by decide +kernel
theorem tw_stop (l r:List UInt8) (h:∀ c ∈ l,c≠32):(l++32::r).takeWhile (fun c=>c != 32)=l:=by
 induction l with
 | nil=>simp
 | cons c l ih =>
  have hc:=h c (by simp)
  rw [List.cons_append,List.takeWhile_cons]
  simp only [bne_iff_ne,ne_eq,hc,not_false_eq_true,if_true]
  rw [ih fun d hd=>h d (by simp [hd])]
theorem hay_iff {l:List UInt8} (h0:l≠[]) (hw:∀ c ∈ l,c≠32):Lib.contains tx_0 (32::l++[32])=RW.contains l:=by
 rw [Bool.eq_iff_iff]
 constructor
 ·intro h
  have h1:=(index_iff _ _).1 (of_decide_eq_true h)
  obtain ⟨i,hi,hp⟩:=h1
  obtain ⟨r,hr⟩:=List.isPrefixOf_iff_prefix.1 hp
  have hi':i<tx_0.length:=by
   rcases Nat.lt_or_ge i tx_0.length with h | h
   ·exact h
   ·rw [List.drop_eq_nil_of_le h] at hr; simp at hr
  have e2:tx_0.drop (i+1)=l++32::r:=by
   have:=congrArg List.tail hr
   simpa using this.symm
  have hh:(tx_0.drop i).head?=some 32:=by rw [← hr]; rfl
  rcases hay_words i hi' hh with h | h
  ·rw [e2,tw_stop l r hw] at h
   simpa using h
  ·rw [e2,tw_stop l r hw] at h
   exact absurd h h0
 ·intro h
  exact hay_has l (by simpa using h)
theorem wrd_no {l:List UInt8} (h:l.all wrd=true):∀ c ∈ l,c≠32:=by
 intro c hc e
 subst e
 exact absurd (List.all_eq_true.1 h 32 hc) (by decide)
theorem n1_e (c:UInt8):lx_n1 c=some (wrd c):=by
 rw [lx_n1,letter_e,bS,wrd]
 cases h:isLet c with
 | true=>rfl
 | false=>rw [if_neg (by decide),digit_e,bS,Bool.false_or]
theorem while_tw (w:Wd) (hw:w.length≤12):∀ (m i:Nat),i≤w.length→w.length<m+i→lx_while_l1 w lx_n1 m i=some ((i+((w.drop i).takeWhile wrd).length:Nat):Int):=by
 intro m
 induction m with
 | zero=>intro i h1 h2; omega
 | succ m ih =>
  intro i h1 h2
  rw [lx_while_l1]
  by_cases c:i<w.length
  ·rw [if_pos (by omega),at_nat,List.getElem?_eq_getElem c,bS,n1_e,bS,lx_while_j1,List.drop_eq_getElem_cons c,List.takeWhile_cons]
   cases h:wrd w[i] with
   | true =>
    rw [if_pos rfl,i64_ok (by omega),bS,show ((i:Int)+1)=((i+1:Nat):Int) from rfl,ih (i+1) (by omega) (by omega)]
    simp
    omega
   | false=>simp
  ·rw [if_neg (by omega),lx_while_j1,if_neg (by decide),List.drop_eq_nil_of_le (by omega)]
   simp
theorem tw_all (l:Wd):decide (((l.takeWhile wrd).length:Int)=(l.length:Int))=l.all wrd:=by
 induction l with
 | nil=>rfl
 | cons c l ih =>
  rw [List.all_cons,List.takeWhile_cons]
  cases h:wrd c with
  | false=>simp; omega
  | true =>
   rw [Bool.true_and,← ih]
   simp only [if_true,List.length_cons]
   exact decide_eq_decide.2 (by omega)
theorem lex_named_e {fu:Nat} (hf:20≤fu) (w:Wd):lex_named fu w=some (nm w):=by
 have bad:lex_named_j1 fu w true=some false:=rfl
 rw [lex_named]
 by_cases h1:(w.length:Int)<1
 ·rw [if_pos h1,bad,nm,decide_eq_false (by omega)]
  rfl
 rw [if_neg h1]
 by_cases h2:(12:Int)<w.length
 ·rw [if_pos h2,bad,nm,decide_eq_false (show ¬ w.length≤12 by omega)]
  simp
 rw [if_neg h2]
 cases w with
 | nil=>simp at h1
 | cons c u =>
  rw [at_0 (by simp),bS]
  show Option.bind (lx_letter c) _=_
  rw [letter_e,bS]
  cases hc:isLet c with
  | false =>
   rw [if_neg (by decide),bad,nm,fst1,hc]
   simp
  | true =>
   have hl:(c::u).length≤12:=by omega
   have e1:cat [32] (c::u)=some (32::c::u):=if_pos (by simp at hl ⊢; omega)
   have e2:cat (32::c::u) [32]=some (32::(c::u)++[32]):=if_pos (by simp at hl ⊢; omega)
   rw [if_pos rfl,e1,bS,e2,bS,scont,if_pos (by decide +kernel),bS]
   have hn:nm (c::u)=((c::u).all wrd && !RW.contains (c::u)):=by
    rw [nm,fst1,hc,decide_eq_true (by simp),decide_eq_true hl]
    simp
   rw [hn]
   have hW:lx_while fu (c::u) lx_n1=some ((((c::u).takeWhile wrd).length:Nat):Int):=by
    rw [lx_while,show (0:Int)=((0:Nat):Int) from rfl,while_tw _ hl fu 0 (by omega) (by omega)]
    simp
   by_cases ha:(c::u).all wrd=true
   ·rw [hay_iff (by simp) (wrd_no ha),ha,Bool.true_and]
    cases hr:RW.contains (c::u) with
    | true=>rfl
    | false=>rw [lex_named_j1,if_neg (by decide),hW,bS,tw_all,ha]; rfl
   ·have ha:(c::u).all wrd=false:=by simpa using ha
    rw [ha,Bool.false_and]
    cases Lib.contains tx_0 (32::(c::u)++[32]) with
    | true=>rfl
    | false=>rw [lex_named_j1,if_neg (by decide),hW,bS,tw_all,ha]
def cls (c:UInt8):Int:=if isLet c then 1 else if isDig c then 2 else if c.toNat=32∨c.toNat=9∨c.toNat=10 then 3 else if c.toNat=35 then 4 else 5
theorem class_e (c:UInt8):r1_class c=some (cls c):=by
 have hL:isLet c=decide (97≤c.toNat∧c.toNat≤122∨c.toNat=95):=rfl
 have hD:isDig c=decide (48≤c.toNat∧c.toNat≤57):=rfl
 have j4:∀ b,b=decide (c.toNat=32∨c.toNat=9∨c.toNat=10)→r1_class_j4 c b=some (if c.toNat=32∨c.toNat=9∨c.toNat=10 then 3 else if c.toNat=35 then 4 else 5):=by
  intro b hb
  rw [r1_class_j4,hb]
  by_cases h:c.toNat=32∨c.toNat=9∨c.toNat=10
  ·rw [decide_eq_true h,if_pos rfl,if_pos h]
  ·rw [decide_eq_false h,if_neg (by decide),if_neg h]
   by_cases h5:c.toNat=35
   ·rw [if_pos (by omega),if_pos h5]
   ·rw [if_neg (by omega),if_neg h5]
 have j3:∀ b,b=isDig c→r1_class_j3 c b=some (if isDig c then 2 else if c.toNat=32∨c.toNat=9∨c.toNat=10 then 3 else if c.toNat=35 then 4 else 5):=by
  intro b hb
  rw [r1_class_j3,hb]
  cases isDig c with
  | true=>rfl
  | false =>
   simp only [Bool.false_eq_true,if_false]
   by_cases h1:c.toNat=32
   ·rw [if_pos (show ((c.toNat:Int)=32) by omega),j4 _ (decide_eq_true (.inl h1)).symm]
   rw [if_neg (show ¬ ((c.toNat:Int)=32) by omega)]
   by_cases h2:c.toNat=9
   ·rw [if_pos (show ((c.toNat:Int)=9) by omega),j4 _ (decide_eq_true (.inr (.inl h2))).symm]
   rw [if_neg (show ¬ ((c.toNat:Int)=9) by omega),j4 _ (decide_eq_decide.2 (by omega))]
 have j2:∀ b,b=isLet c→r1_class_j2 c b=some (cls c):=by
  intro b hb
  rw [r1_class_j2,hb,cls]
  cases isLet c with
  | true=>rfl
  | false =>
   simp only [Bool.false_eq_true,if_false]
   by_cases h:(48:Int)≤(c.toNat:Int)
   ·rw [if_pos h,j3 _ (by rw [hD]; exact decide_eq_decide.2 (by omega))]
   ·rw [if_neg h,j3 _ (by rw [hD]; exact (decide_eq_false (by omega)).symm)]
 rw [r1_class]
 have j1:∀ b,b=decide (97≤c.toNat∧c.toNat≤122)→r1_class_j1 c b=some (cls c):=by
  intro b hb
  rw [r1_class_j1,hb]
  by_cases h:97≤c.toNat∧c.toNat≤122
  ·rw [decide_eq_true h,if_pos rfl,j2 true (by rw [hL]; exact (decide_eq_true (.inl h)).symm)]
  ·rw [decide_eq_false h,if_neg (by decide),j2 _ (by rw [hL]; exact decide_eq_decide.2 (by omega))]
 by_cases h:(97:Int)≤(c.toNat:Int)
 ·rw [if_pos h,j1 _ (decide_eq_decide.2 (by omega))]
 ·rw [if_neg h,j1 _ (decide_eq_false (by omega)).symm]
theorem res_e (w:Wd):r1_res w=some (RW.contains w):=by
 have L:∀ (m i:Nat),i≤27→27<m+i→r1_res_l1 w m i=some ((RW.drop i).contains w):=by
  intro m
  induction m with
  | zero=>intro i h1 h2; omega
  | succ m ih =>
   intro i h1 h2
   rw [r1_res_l1]
   by_cases c:i<27
   ·have hlen:RW.length=27:=rfl
    have hi:i<RW.length:=by omega
    rw [if_pos (by omega)]
    show Option.bind (at_ RW (i:Int)) _=_
    rw [at_nat,List.getElem?_eq_getElem hi,bS,List.drop_eq_getElem_cons hi,List.contains_cons]
    by_cases e:RW[i]=w
    ·rw [if_pos e,e]
     simp
    ·have e':(w == RW[i])=false:=by simpa using Ne.symm e
     rw [if_neg e,i64_ok (by omega),bS,e',Bool.false_or]
     exact ih (i+1) (by omega) (by omega)
   ·rw [if_neg (by omega),List.drop_eq_nil_of_le (by show 27≤i; omega)]
    rfl
 rw [r1_res]
 exact L 28 0 (by omega) (by omega)
theorem r1_named_e (w:Wd):r1_named w=some (nm w):=by
 have hcl:∀ c,(cls c=1 ↔ isLet c=true)∧(isLet c=false→(cls c=2 ↔ isDig c=true)):=by
  intro c
  unfold cls
  cases isLet c <;> cases isDig c <;> simp
  split
  ·decide
  ·split <;> decide
 have small:∀ c,wrd c=true→c.toNat<128:=by
  intro c h
  unfold wrd isLet isDig at h
  simp at h
  omega
 have L:∀ (m q:Nat),q≤w.length→w.length<m+q→(w.take q).all wrd=true→(0<q→fst1 w=true)→r1_named_l1 w m q=some (nm w):=by
  intro m
  induction m with
  | zero=>intro q h1 h2; omega
  | succ m ih =>
   intro q h1 h2 h3 h4
   rw [r1_named_l1]
   by_cases c:q<w.length
   ·rw [if_pos c,at_nat,List.getElem?_eq_getElem c,bS,class_e,bS]
    obtain ⟨k1,k2⟩:=hcl w[q]
    have bad:nm w=false→r1_named_j1 w q (r1_named_l1 w m) true=some (nm w):=fun h=>by rw [h]; rfl
    have good:wrd w[q]=true→(q=0→isLet w[q]=true)→r1_named_j1 w q (r1_named_l1 w m) false=some (nm w):=by
     intro hw hq
     rw [r1_named_j1,if_neg (by decide)]
     have e:wd w q=1:=by
      show (Utf8.decode ⟨⟨w⟩⟩ q).2=1
      rw [decode_ascii ⟨⟨w⟩⟩ q c (small _ hw)]
     rw [e]
     refine ih (q+1) (by omega) (by omega) ?_ fun _=>?_
     ·rw [List.take_succ_eq_append_getElem c,List.all_append,h3]
      simp [hw]
     ·rcases Nat.eq_zero_or_pos q with h | h
      ·subst h
       cases w with
       | nil=>rfl
       | cons d u=>exact hq rfl
      ·exact h4 h
    have nw:wrd w[q]=false→nm w=false:=fun h=>by
     have:w.all wrd=false:=List.all_eq_false.2 ⟨_,List.getElem_mem c,by simp [h]⟩
     rw [nm,this]
     simp
    by_cases c1:cls w[q]=1
    ·rw [if_neg (by simpa using c1)]
     have:=k1.1 c1
     exact good (by rw [wrd,this]; rfl) fun _=>this
    ·rw [if_pos c1]
     have hl:isLet w[q]=false:=by
      cases h:isLet w[q] with
      | false=>rfl
      | true=>exact absurd (k1.2 h) c1
     by_cases c2:cls w[q]=2
     ·have hd:=(k2 hl).1 c2
      rw [if_neg (by simpa using c2)]
      by_cases h0:q=0
      ·rw [decide_eq_true (by omega)]
       refine bad ?_
       subst h0
       cases w with
       | nil=>simp at c
       | cons d u =>
        have:isLet d=false:=hl
        rw [nm,fst1,this]
        simp
      ·rw [decide_eq_false (by omega)]
       exact good (by rw [wrd,hd]; simp) fun h=>absurd h h0
     ·rw [if_pos c2]
      refine bad (nw ?_)
      have:isDig w[q]=false:=by
       cases h:isDig w[q] with
       | false=>rfl
       | true=>exact absurd ((k2 hl).2 h) c2
      rw [wrd,hl,this]
      rfl
   ·have hq:q=w.length:=by omega
    subst hq
    rw [List.take_length] at h3
    rw [if_neg c]
    by_cases p:(0:Int)<(w.length:Int)
    ·rw [if_pos p]
     by_cases p2:(w.length:Int)≤12
     ·rw [if_pos p2,res_e,bS,nm,h3,h4 (by omega),decide_eq_true (by omega),decide_eq_true (by omega)]
      simp
     ·rw [if_neg p2,nm,decide_eq_false (show ¬ w.length≤12 by omega)]
      simp
    ·rw [if_neg p,nm,decide_eq_false (by omega)]
     simp
 rw [r1_named]
 exact L (w.length+1) 0 (by omega) (by omega) (by simp) (by omega)
end Go.Y
namespace Go.Y
open Go.Wk Go.Xt
theorem bN' {α β:Type} {f:α→Option β}:Option.bind (none:Option α) f=none:=rfl
theorem more_e (k d:Int):(i64 (k+1)=none∧r2_more k d=none∧syn_node k d=none)∨(∃ i,r2_more k d=some (false,i)∧syn_node k d=some (4,i))∨(∃ i,r2_more k d=some (true,i)∧syn_node k d=some (0,i)):=by
 cases h:i64 (k+1) with
 | none=>exact .inl ⟨rfl,by rw [r2_more,h,bN'],by rw [syn_node,h,bN']⟩
 | some i =>
  rw [r2_more,syn_node,h,bS,bS]
  by_cases c:i≤2000
  ·rw [if_pos c,if_neg (by omega)]
   by_cases c2:d≤40
   ·rw [decide_eq_true c2,decide_eq_false (by omega)]
    exact .inr (.inr ⟨i,rfl,rfl⟩)
   ·rw [decide_eq_false c2,decide_eq_true (by omega)]
    exact .inr (.inl ⟨i,rfl,rfl⟩)
  ·rw [if_neg c,if_pos (by omega)]
   exact .inr (.inl ⟨i,rfl,rfl⟩)
theorem r2_kids_e {k:Int} (h1:1≤k) (h2:k≤24):r2_kids k=some (kidN k):=by
 have:k=1∨k=2∨k=3∨k=4∨k=5∨k=6∨k=7∨k=8∨k=9∨k=10∨k=11∨k=12∨k=13∨k=14∨k=15∨k=16∨k=17∨k=18∨k=19∨k=20∨k=21∨k=22∨k=23∨k=24:=by omega
 rcases this with rfl | rfl | rfl | rfl | rfl | rfl | rfl | rfl | rfl | rfl | rfl | rfl | rfl | rfl | rfl | rfl | rfl | rfl | rfl | rfl | rfl | rfl | rfl | rfl <;> rfl
theorem kidN_neg {k:Int} (h1:1≤k) (h2:k≤24):kidN k<0 ↔ k=19∨k=22:=by
 have:k=1∨k=2∨k=3∨k=4∨k=5∨k=6∨k=7∨k=8∨k=9∨k=10∨k=11∨k=12∨k=13∨k=14∨k=15∨k=16∨k=17∨k=18∨k=19∨k=20∨k=21∨k=22∨k=23∨k=24:=by omega
 rcases this with rfl | rfl | rfl | rfl | rfl | rfl | rfl | rfl | rfl | rfl | rfl | rfl | rfl | rfl | rfl | rfl | rfl | rfl | rfl | rfl | rfl | rfl | rfl | rfl <;> decide
theorem expr_eq:∀ (n n':Nat) (x:TExpr) (d k:Int),62≤n+d→62≤n'+d→0≤d→d≤41→(R2E_run n').r2_expr k x d=(SynExpr_run n).syn_expr k x d:=by
 intro n
 induction n with
 | zero=>intro n' x d k h0 h0' h1 h2; omega
 | succ n ih =>
  intro n' x d k h0 h0' h1 h2
  obtain ⟨n',rfl⟩:∃ m,n'=m+1:=⟨n' - 1,by omega⟩
  show r2_expr (R2E_run n') k x d=syn_expr n (SynExpr_run n) k x d
  rw [r2_expr,syn_expr]
  rcases more_e k d with ⟨-,e1,e2⟩ | ⟨i,e1,e2⟩ | ⟨i,e1,e2⟩
  ·rw [e1,e2,bN',bN']
  ·rw [e1,e2,bS,bS,if_neg (show ¬ ((false,i):Bool×Int).1=true by simp),if_pos (show ((4,i):Int×Int).1≠0 by simp)]
  ·rw [e1,e2,bS,bS,if_pos rfl,if_neg (show ¬ ((0,i):Int×Int).1≠0 by simp)]
   by_cases hd:d=41
   ·subst hd
    exfalso
    rw [syn_node] at e2
    cases h:i64 (k+1) with
    | none=>rw [h,bN'] at e2; cases e2
    | some j =>
     rw [h,bS,decide_eq_true (by decide)] at e2
     split at e2 <;> cases e2
   have hn:20≤n:=by omega
   have L:∀ (m:Nat) (j q:Int),r2_expr_l1 (R2E_run n') x d m j q=syn_expr_l1 (SynExpr_run n) x d m j q:=by
    intro m
    induction m with
    | zero=>intro j q; rfl
    | succ m ihm =>
     intro j q
     rw [r2_expr_l1,syn_expr_l1]
     split
     ·congr 1
      funext y
      rw [i64_ok (by omega),bS,bS,ih n' y (d+1) q (by omega) (by omega) (by omega) (by omega)]
      congr 1
      funext r
      split
      ·rfl
      ·congr 1
       funext j'
       exact ihm j' r.2
     ·rfl
   have J6:∀ b,r2_expr_j4 (R2E_run n') x d (true,i) b=syn_expr_j6 (SynExpr_run n) x d (0,i) b:=by
    intro b
    cases b with
    | true=>rfl
    | false=>rw [r2_expr_j4,syn_expr_j6]; exact L _ _ _
   have J1:∀ b,(b=false→1≤x.Kind∧x.Kind≤24)→r2_expr_j1 (R2E_run n') x d (true,i) b=syn_expr_j1 n (SynExpr_run n) x d (0,i) b:=by
    intro b hb
    cases b with
    | true=>rfl
    | false =>
     obtain ⟨k1,k2⟩:=hb rfl
     have hk2:=kidN_le x.Kind
     have J4:∀ b,r2_expr_j3 (R2E_run n') x d (true,i) b=syn_expr_j4 (SynExpr_run n) x d (0,i) (kidN x.Kind) b:=by
      intro b
      cases b with
      | true=>rfl
      | false =>
       rw [r2_expr_j3,syn_expr_j4]
       simp only [Bool.false_eq_true,if_false]
       rw [r2_kids_e k1 k2,bS]
       by_cases c:0≤kidN x.Kind
       ·rw [if_pos c,if_pos c]
        by_cases c2:(x.Kids.length:Int)≠kidN x.Kind
        ·rw [if_pos c2,decide_eq_true c2,J6]
         rfl
        ·rw [if_neg c2,decide_eq_false c2,syn_expr_j5,if_neg (by decide),if_neg (by omega),J6,decide_eq_false (by omega)]
       ·rw [if_neg c,if_neg c,syn_expr_j5,if_neg (by decide),if_pos (by omega),J6]
     have J3:r2_expr_j2 (R2E_run n') x d (true,i) false=syn_expr_j3 n (SynExpr_run n) x d (0,i) (kidN x.Kind) false:=by
      have hneg:=kidN_neg k1 k2
      rw [r2_expr_j2,syn_expr_j3]
      simp only [Bool.false_eq_true,if_false,r1_named_e,lex_named_e hn,bS,J4]
      by_cases c3:x.Kind=3
      ·rw [if_pos c3,if_pos c3]
      rw [if_neg c3,if_neg c3]
      by_cases c20:x.Kind=20
      ·rw [if_pos c20,if_pos c20]
      rw [if_neg c20,if_neg c20]
      by_cases c19:x.Kind=19
      ·rw [if_pos c19,if_pos (hneg.2 (.inl c19))]
      rw [if_neg c19]
      by_cases c22:x.Kind=22
      ·rw [if_pos c22,if_pos (hneg.2 (.inr c22))]
      rw [if_neg c22,if_neg (fun h=>by rcases hneg.1 h with h | h; exact c19 h; exact c22 h)]
     have T:r2_expr_j2 (R2E_run n') x d (true,i) true=some (3,i):=rfl
     have T':syn_expr_j2 n (SynExpr_run n) x d (0,i) (kidN x.Kind) true=some (3,i):=rfl
     have T'':syn_expr_j3 n (SynExpr_run n) x d (0,i) (kidN x.Kind) true=some (3,i):=rfl
     have E2:syn_expr_j2 n (SynExpr_run n) x d (0,i) (kidN x.Kind) false=(if x.Kind=2 then (if x.N≠0 then syn_expr_j3 n (SynExpr_run n) x d (0,i) (kidN x.Kind) (decide (x.N≠1)) else syn_expr_j3 n (SynExpr_run n) x d (0,i) (kidN x.Kind) false) else syn_expr_j3 n (SynExpr_run n) x d (0,i) (kidN x.Kind) false):=rfl
     rw [r2_expr_j1,syn_expr_j1]
     simp only [Bool.false_eq_true,if_false]
     rw [syn_kids_t,bS]
     by_cases c1:x.Kind=1
     ·rw [if_pos c1,if_pos c1,if_neg (show ¬ x.Kind=2 by omega)]
      by_cases p1:x.N<0
      ·rw [if_pos p1,if_pos p1,T,T']
      rw [if_neg p1,if_neg p1]
      by_cases p2:(999999999999999:Int)<x.N
      ·rw [if_pos p2,decide_eq_true p2,T,T']
      ·rw [if_neg p2,decide_eq_false p2,E2,if_neg (show ¬ x.Kind=2 by omega),J3]
     rw [if_neg c1,if_neg c1,E2]
     by_cases c2:x.Kind=2
     ·rw [if_pos c2,if_pos c2]
      by_cases p1:x.N<0
      ·rw [if_pos p1,if_pos (by omega),decide_eq_true (by omega),T,T'']
      rw [if_neg p1]
      by_cases p0:x.N≠0
      ·rw [if_pos p0]
       by_cases p2:(1:Int)<x.N
       ·rw [decide_eq_true p2,decide_eq_true (by omega),T,T'']
       ·rw [decide_eq_false p2,decide_eq_false (by omega),J3]
      ·rw [if_neg p0,decide_eq_false (by omega),J3]
     ·rw [if_neg c2,if_neg c2,J3]
   by_cases c:x.Kind<1
   ·rw [if_pos c,if_pos c]
    exact J1 true (fun h=>by cases h)
   ·rw [if_neg c,if_neg c]
    exact J1 _ (fun h=>by have:=of_decide_eq_false h; omega)
theorem stats_eq:∀ (n n':Nat) (l:List TStat) (d k:Int),2*(42 - d)+65≤n→(42 - d)+65≤n'→0≤d→d≤41→(R2S_run n').r2_stats k l d=(SynStat_run n).syn_stats k l d:=by
 intro n
 induction n using Nat.strongRecOn with
 | _ n ih =>
  intro n' l d k h0 h0' h1 h2
  obtain ⟨n,rfl⟩:∃ m,n=m+2:=⟨n - 2,by omega⟩
  obtain ⟨n',rfl⟩:∃ m,n'=m+1:=⟨n' - 1,by omega⟩
  show r2_stats n' (R2S_run n') k l d=syn_stats (SynStat_run (n+1)) k l d
  rw [r2_stats,syn_stats]
  by_cases c50:(50:Int)<(l.length:Int)
  ·rw [if_pos c50,if_pos c50]
  rw [if_neg c50,if_neg c50]
  have hn:20≤n:=by omega
  have S:∀ (x:TStat) (i k:Int) (K:Int→Int→Option (Int×Int)),((r2_more k d).bind fun r146=>if r146.1=true then (if x.Kind<1 then r2_stats_j1 n' (R2S_run n') d i x r146 K true else r2_stats_j1 n' (R2S_run n') d i x r146 K (decide ((9:Int)<x.Kind))) else some (4,r146.2)) =
    (syn_stat n (SynStat_run n) k x d).bind fun r=>if r.1≠0 then some (r.1,r.2) else (i64 (i+1)).bind fun j=>K j r.2:=by
   intro x i k K
   rw [syn_stat]
   have fin:∀ q:Int,((some ((0:Int),q):Option (Int×Int)).bind fun r=>if r.1≠0 then some (r.1,r.2) else (i64 (i+1)).bind fun j=>K j r.2)=(i64 (i+1)).bind fun j=>K j q:=fun q=>by rw [bS,if_neg (by simp)]
   have bad:∀ e q:Int,e≠0→((some (e,q):Option (Int×Int)).bind fun r=>if r.1≠0 then some (r.1,r.2) else (i64 (i+1)).bind fun j=>K j r.2)=some (e,q):=fun e q h=>by rw [bS,if_pos h]
   rcases more_e k d with ⟨-,e1,e2⟩ | ⟨q,e1,e2⟩ | ⟨q,e1,e2⟩
   ·rw [e1,e2]; rfl
   ·rw [e1,e2,bS,bS,if_neg (show ¬ ((false,q):Bool×Int).1=true by simp),if_pos (show ((4,q):Int×Int).1≠0 by simp),bad 4 q (by decide)]
   ·rw [e1,e2,bS,bS,if_pos rfl,if_neg (show ¬ ((0,q):Int×Int).1≠0 by simp)]
    by_cases hd:d=41
    ·subst hd
     exfalso
     rw [syn_node] at e2
     cases h:i64 (k+1) with
     | none=>rw [h,bN'] at e2; cases e2
     | some j =>
      rw [h,bS,decide_eq_true (by decide)] at e2
      split at e2 <;> cases e2
    have J4:∀ z:Int,r2_stats_j4 (R2S_run n') d i x K z=(syn_stat_j4 (SynStat_run n) x d z).bind fun r=>if r.1≠0 then some (r.1,r.2) else (i64 (i+1)).bind fun j=>K j r.2:=by
     intro z
     rw [r2_stats_j4,syn_stat_j4]
     by_cases c3:x.Kind=3
     ·rw [if_pos c3,if_pos c3,i64_ok (by omega),bS,bS,ih n (by omega) n' x.Else (d+1) z (by omega) (by omega) (by omega) (by omega)]
      cases (SynStat_run n).syn_stats z x.Else (d+1) with
      | none=>rfl
      | some r=>rfl
     ·rw [if_neg c3,if_neg c3,fin]
    have J3:∀ (r:Int×Int) b,r2_stats_j3 (R2S_run n') d i x r K b=(syn_stat_j3 (SynStat_run n) x d r b).bind fun r=>if r.1≠0 then some (r.1,r.2) else (i64 (i+1)).bind fun j=>K j r.2:=by
     intro r b
     cases b with
     | false=>exact J4 r.2
     | true =>
      rw [r2_stats_j3,syn_stat_j3,if_pos rfl,if_pos rfl,i64_ok (by omega),bS,bS,ih n (by omega) n' x.Body (d+1) r.2 (by omega) (by omega) (by omega) (by omega)]
      cases (SynStat_run n).syn_stats r.2 x.Body (d+1) with
      | none=>rfl
      | some r' =>
       rw [bS,bS]
       by_cases c:r'.1≠0
       ·rw [if_pos c,if_pos c,bad _ _ c]
       ·rw [if_neg c,if_neg c]
        exact J4 r'.2
    have J2:∀ b,r2_stats_j2 n' (R2S_run n') d i x (true,q) K b=(syn_stat_j2 n (SynStat_run n) x d (0,q) b).bind fun r=>if r.1≠0 then some (r.1,r.2) else (i64 (i+1)).bind fun j=>K j r.2:=by
     intro b
     cases b with
     | true=>rfl
     | false =>
      rw [r2_stats_j2,syn_stat_j2]
      simp only [Bool.false_eq_true,if_false]
      by_cases c6:x.Kind=6
      ·rw [if_pos c6,if_pos c6,fin]
      rw [if_neg c6,if_neg c6,i64_ok (by omega),bS,bS,expr_eq n n' x.X (d+1) q (by omega) (by omega) (by omega) (by omega)]
      cases (SynExpr_run n).syn_expr q x.X (d+1) with
      | none=>rfl
      | some r' =>
       rw [bS,bS]
       by_cases c:r'.1≠0
       ·rw [if_pos c,if_pos c,bad _ _ c]
       ·rw [if_neg c,if_neg c]
        by_cases c3:x.Kind=3
        ·rw [if_pos c3,if_pos c3]
         exact J3 r' true
        ·rw [if_neg c3,if_neg c3]
         exact J3 r' _
    have J1:∀ b,r2_stats_j1 n' (R2S_run n') d i x (true,q) K b=(syn_stat_j1 n (SynStat_run n) x d (0,q) b).bind fun r=>if r.1≠0 then some (r.1,r.2) else (i64 (i+1)).bind fun j=>K j r.2:=by
     intro b
     cases b with
     | true=>rfl
     | false =>
      rw [r2_stats_j1,syn_stat_j1]
      simp only [Bool.false_eq_true,if_false,r1_named_e,lex_named_e hn,bS,J2]
      by_cases c1:x.Kind=1
      ·rw [if_pos c1,if_pos c1]
      rw [if_neg c1,if_neg c1]
      by_cases c2:x.Kind=2
      ·rw [if_pos c2,if_pos c2]
      rw [if_neg c2,if_neg c2]
      by_cases c7:x.Kind=7
      ·rw [if_pos c7,if_pos c7]
      ·rw [if_neg c7,if_neg c7]
    by_cases c:x.Kind<1
    ·rw [if_pos c,if_pos c]
     exact J1 true
    ·rw [if_neg c,if_neg c]
     exact J1 _
  have L:∀ (m:Nat) (j q:Int),r2_stats_l1 n' (R2S_run n') l d m j q=syn_stats_l1 (SynStat_run (n+1)) l d m j q:=by
   intro m
   induction m with
   | zero=>intro j q; rfl
   | succ m ihm =>
    intro j q
    rw [r2_stats_l1,syn_stats_l1]
    split
    ·congr 1
     funext y
     rw [S]
     show _=Option.bind (syn_stat n (SynStat_run n) q y d) _
     congr 1
     funext r
     split
     ·rfl
     ·congr 1
      funext j'
      exact ihm j' r.2
    ·rfl
  exact L _ _ _
theorem typ_eq {fu:Nat} (hf:20≤fu) (t:TType):r2_type t=syn_typ fu t:=by
 rw [r2_type,syn_typ]
 have J:∀ b,r2_type_j1 t b=syn_typ_j1 fu t b:=by
  intro b
  cases b with
  | true=>rfl
  | false =>
   rw [r2_type_j1,syn_typ_j1]
   simp only [Bool.false_eq_true,if_false,r1_named_e,lex_named_e hf,bS]
   rfl
 rw [J,J]
theorem def_eq {fu:Nat} (hf:200≤fu) (x:TDef) (k:Int):r2_def fu k x=syn_def fu k x:=by
 rw [r2_def,syn_def]
 rcases more_e k 1 with ⟨-,e1,e2⟩ | ⟨q,e1,e2⟩ | ⟨q,e1,e2⟩
 ·rw [e1,e2]; rfl
 ·rw [e1,e2,bS,bS,if_neg (show ¬ ((false,q):Bool×Int).1=true by simp),if_pos (show ((4,q):Int×Int).1≠0 by simp)]
 ·rw [e1,e2,bS,bS,if_pos rfl,if_neg (show ¬ ((0,q):Int×Int).1≠0 by simp)]
  have J1:∀ b,(b=false→1≤x.Kind∧x.Kind≤4)→r2_def_j1 fu x (true,q) b=syn_def_j1 fu x (0,q) b:=by
   intro b hb
   cases b with
   | true=>rfl
   | false =>
    obtain ⟨k1,k4⟩:=hb rfl
    have J5:r2_def_j5 fu x (true,q)=syn_def_j5 fu x (0,q):=by
     rw [r2_def_j5,syn_def_j5]
     by_cases c:x.Kind=1
     ·rw [if_pos c,if_neg (show ¬ x.Kind≠1 by omega)]
      have J6:∀ b,r2_def_j6 fu x (true,q) b=syn_def_j6 (0,q) b:=by
       intro b
       cases b with
       | true=>rfl
       | false=>rw [r2_def_j6]; simp only [Bool.false_eq_true,if_false]; rw [if_pos c]; rfl
      rw [J6,J6]
     ·rw [if_neg c,if_pos c,r2_def_j6]
      simp only [Bool.false_eq_true,if_false]
      rw [if_neg c,stats_eq fu fu x.Body 2 q (by omega) (by omega) (by omega) (by omega)]
    have J4:r2_def_j4 fu x (true,q)=syn_def_j4 fu x (0,q):=by
     rw [r2_def_j4,syn_def_j4,typ_eq (by omega:20≤fu),J5]
     by_cases c:x.Kind<4
     ·rw [if_pos c,if_pos (by omega)]
     ·rw [if_neg c,if_neg (by omega)]
    have J3:r2_def_j3 fu x (true,q)=syn_def_j3 fu x (0,q):=by
     rw [r2_def_j3,syn_def_j3,typ_eq (by omega:20≤fu),J4]
    have L:∀ (m:Nat) (i:Int),r2_def_l1 fu x (true,q) m i=syn_def_l1 fu x (0,q) m i:=by
     intro m
     induction m with
     | zero=>intro i; rfl
     | succ m ih =>
      intro i
      rw [r2_def_l1,syn_def_l1,J3]
      simp only [typ_eq (by omega:20≤fu),r1_named_e,lex_named_e (by omega:20≤fu),bS,ih]
    have J2:∀ b,r2_def_j2 fu x (true,q) b=syn_def_j2 fu x (0,q) b:=by
     intro b
     cases b with
     | false=>exact J3
     | true =>
      rw [r2_def_j2,syn_def_j2,L,J3]
      try rfl
    rw [r2_def_j1,syn_def_j1]
    simp only [Bool.false_eq_true,if_false,r1_named_e,lex_named_e (by omega:20≤fu),bS,J2]
  by_cases c:x.Kind<1
  ·rw [if_pos c,if_pos c]
   exact J1 true (fun h=>by cases h)
  ·rw [if_neg c,if_neg c]
   exact J1 _ (fun h=>by have:=of_decide_eq_false h; omega)
theorem wrong_eq {fu:Nat} (hf:200≤fu) (l:List TDef):r2_wrong fu l=syn_wrong fu l:=by
 rw [r2_wrong,syn_wrong]
 have L:∀ (m:Nat) (i k:Int),r2_wrong_l1 fu l m i k=syn_wrong_l1 fu l m i k:=by
  intro m
  induction m with
  | zero=>intro i k; rfl
  | succ m ih =>
   intro i k
   rw [r2_wrong_l1,syn_wrong_l1]
   simp only [def_eq hf,ih]
 rw [L]
end Go.Y
namespace Go.Y
open Go.Wk Go.Xt
abbrev GnT (t:TType):Prop:=t.Gen.length≤281474976710656
def GnD (d:TDef):Prop:=GnT d.Typ∧GnT d.Takes∧∀ q ∈ d.Params,GnT q.Typ
def bl (ws:List Wd):Wd:=(ws.map fun w=>w++[32]).flatten
theorem bl_app (u v:List Wd):bl (u++v)=bl u++bl v:=by simp [bl]
theorem bl_cons (w:Wd) (v:List Wd):bl (w::v)=w++32::bl v:=by simp [bl]
theorem bl_nil:bl []=[]:=rfl
theorem bl_len:∀ ws:List Wd,(bl ws).length=lw ws
 | []=>rfl
 | w::ws=>by rw [bl_cons,lw,List.length_append,List.length_cons,bl_len ws]; omega
theorem cat_ok {a b:Wd} (h:a.length+b.length≤9223372036854775807):cat a b=some (a++b):=if_pos h
theorem bl_jn:∀ (ws:List Wd) (w:Wd),bl (w::ws)=jn (w::ws)++[32]
 | [],w=>by simp [bl,jn]
 | w'::ws,w=>by rw [bl_cons,bl_jn ws w',jn]; simp
theorem tj1 {k need:Nat} {x:TExpr} {o:Int} (ho:o=((own x.Kind:Nat):Int)) (hb:lw (wC (wE k) x)≤4294967296):r2_text_j1 (need:Int) (bl (wC (wE k) x)) o=some (bl (wE (k+1) need x)):=by
 subst ho
 rw [r2_text_j1,wE]
 have:=bl_len (wC (wE k) x)
 by_cases c:own x.Kind<need
 ·rw [if_pos (by omega),if_pos c,cat_ok (by simp; omega),bS,cat_ok (by simp; omega),bS,bl_cons,bl_app]
  simp [bl]
 ·rw [if_neg (by omega),if_neg c]
section
variable {self:R2T}
theorem targs_l1 {f:TExpr→List Wd} {l:List TExpr} (hE:∀ y ∈ l,lw (f y)≤4294967296→self.r2_text y 1=some (bl (f y))):∀ (m i:Nat) (s:Wd),i≤l.length→l.length<m+i→l.length≤6→s.length+lw (wW f i (l.drop i)++[[41]])≤4294967296→r2_args_l1 self l m s i=some (s++bl (wW f i (l.drop i)++[[41]])):=by
 intro m
 induction m with
 | zero=>intro i s h1 h2; omega
 | succ m ih =>
  intro i s h1 h2 h6 h3
  rw [r2_args_l1]
  by_cases c:i<l.length
  ·rw [if_pos (by omega),at_nat,List.getElem?_eq_getElem c,bS]
   rw [List.drop_eq_getElem_cons c] at h3 ⊢
   have go:∀ s1:Wd,s1.length+lw (f l[i])+lw (wT f (l.drop (i+1)))+lw [[41]]≤4294967296→r2_args_j1 self i l[i] (r2_args_l1 self l m) s1=some (s1++bl (f l[i]++(wT f (l.drop (i+1))++[[41]]))):=by
    intro s1 hs
    have e:=bl_len (f l[i])
    rw [r2_args_j1,hE _ (List.getElem_mem c) (by omega),bS,cat_ok (by omega),bS,i64_ok (by omega),bS]
    have:=ih (i+1) (s1++bl (f l[i])) (by omega) (by omega) h6 (by rw [wW_s,lw_app,List.length_append]; omega)
    rw [wW_s] at this
    rw [show ((i:Int)+1)=((i+1:Nat):Int) by omega,this,bl_app (f l[i]),List.append_assoc]
   by_cases h0:i=0
   ·subst h0
    rw [wW] at h3 ⊢
    rw [if_neg (by omega),go s (by rw [lw_app,lw_app] at h3; omega),List.append_assoc]
   ·rw [wW_p f h0] at h3 ⊢
    have e:wT f (l[i]::l.drop (i+1))=[[44]]++(f l[i]++wT f (l.drop (i+1))):=by
     generalize l[i]=x
     generalize l.drop (i+1)=t
     rw [wT,wT,List.map_cons,List.flatten_cons]
     rfl
    rw [e] at h3 ⊢
    rw [lw_app,lw_app,lw_app] at h3
    have q:lw [[44]]=2:=rfl
    rw [if_pos (by omega),cat_ok (by simp; omega),bS,go _ (by simp; omega)]
    simp [bl_app,bl_cons,bl_nil]
  ·rw [if_neg (by omega)]
   have e:wW f i (l.drop i)=[]:=by
    rw [List.drop_eq_nil_of_le (by omega)]
    cases i <;> rfl
   rw [e,List.nil_append] at h3 ⊢
   rw [cat_ok (by simp; omega),bS]
   simp [bl_cons,bl_nil]
theorem targs_t {f:TExpr→List Wd} {l:List TExpr} (hE:∀ y ∈ l,lw (f y)≤4294967296→self.r2_text y 1=some (bl (f y))) (h6:l.length≤6) (h:lw (wA f l)≤4294967296):r2_args self l=some (bl (wA f l)):=by
 rw [wA_e] at h ⊢
 rw [lw] at h
 rw [r2_args]
 have:=targs_l1 hE (l.length+1) 0 [40,32] (by omega) (by omega) h6 (by simp at h ⊢; omega)
 rw [show ((0:Nat):Int)=0 from rfl] at this
 rw [this,bl_cons]
 simp
end
def SG13:List Wd:=[[111,114],[97,110,100],[61,61],[33,61],[60],[60,61],[62],[62,61],[43],[45],[42],[47],[37]]
def tb (n j:Nat):Int:=((SG13[j]?).bind fun t=>r2_sign (n:Int) t).getD 0
theorem tb_e:∀ n:Nat,n<6→1≤n→∀ (j:Nat) (h:j<13),r2_sign (n:Int) (SG13[j]'h)=some (tb n j):=by decide +kernel
def ji (q:Nat):Nat:=if q=18 then 0 else if q=17 then 1 else if 11≤q then q - 9 else q+2
theorem tb_hit1:∀ q:Nat,q<19→6≤q→ji q<13∧tb (own (q:Int)) (ji q)=(q:Int)∧SG13[ji q]?=some (sgn (q:Int))∧1≤own (q:Int)∧own (q:Int)<6:=by decide +kernel
theorem tb_hit2:∀ q:Nat,q<19→6≤q→∀ j':Nat,j'<13→j'≠ji q→tb (own (q:Int)) j'≠(q:Int):=by decide +kernel
theorem tb_hit3':∀ (q:Fin 19) (n:Fin 6) (j:Fin 13),6≤q.val→1≤n.val→n.val≠own (q.val:Int)→tb n.val j.val≠(q.val:Int):=by decide +kernel
theorem tb_hit3 (q:Nat) (hq:q<19) (h6:6≤q):∀ n:Nat,n<6→1≤n→n≠own (q:Int)→∀ j':Nat,j'<13→tb n j'≠(q:Int):=fun n h1 h2 h3 j hj=>tb_hit3' ⟨q,hq⟩ ⟨n,h1⟩ ⟨j,hj⟩ h6 h2 h3
section
variable {E:R2T} {x:TExpr} {n:Nat} {K:Wd→Int→Int→Option Wd}
theorem l2_s (h1:1≤n) (h5:n<6) {m j:Nat} (hj:j<13) (s:Wd) (o:Int):r2_text_l2 E x n K (m+1) s o j=r2_text_j4 E x n s o j (SG13[j]'hj) (r2_text_l2 E x n K m) (decide (tb n j=x.Kind)):=by
 rw [r2_text_l2,if_pos (by omega)]
 show Option.bind (at_ SG13 (j:Int)) _=_
 rw [at_nat,List.getElem?_eq_getElem (by exact hj),bS,tb_e n h5 h1 j hj,bS]
theorem l2_m (h1:1≤n) (h5:n<6):∀ (m j:Nat) (s:Wd) (o:Int),m+j=14→j≤13→(∀ j',j≤j'→j'<13→tb n j'≠x.Kind)→r2_text_l2 E x n K m s o j=K s o ((n:Int)+1):=by
 intro m
 induction m with
 | zero=>intro j s o h hj; omega
 | succ m ih =>
  intro j s o h hj hm
  by_cases c:j<13
  ·rw [l2_s h1 h5 c,decide_eq_false (hm j (Nat.le_refl _) c),r2_text_j4,if_neg (by decide),i64_ok (by omega),bS]
   exact ih (j+1) s o (by omega) (by omega) fun j' a b=>hm j' (by omega) b
  ·rw [r2_text_l2,if_neg (by omega),i64_ok (by omega),bS]
theorem l2_h (h1:1≤n) (h5:n<6) {J:Nat} {T:Wd} (hJ:J<13) (hh:tb n J=x.Kind) (hu:∀ j',j'<13→j'≠J→tb n j'≠x.Kind) (hT:∀ (K':Wd→Int→Int→Option Wd) (s:Wd) (o:Int),r2_text_j4 E x n s o J (SG13[J]'hJ) K' true=K' T n ((J:Int)+1)):∀ (m j:Nat) (s:Wd) (o:Int),m+j=14→j≤J→r2_text_l2 E x n K m s o j=K T n ((n:Int)+1):=by
 intro m
 induction m with
 | zero=>intro j s o h hj; omega
 | succ m ih =>
  intro j s o h hj
  by_cases c:j=J
  ·subst c
   rw [l2_s h1 h5 hJ,decide_eq_true hh,hT]
   exact l2_m h1 h5 m (j+1) T n (by omega) (by omega) fun j' a b=>hu j' b (by omega)
  ·rw [l2_s h1 h5 (by omega),decide_eq_false (hu j (by omega) c),r2_text_j4,if_neg (by decide),i64_ok (by omega),bS]
   exact ih (j+1) s o (by omega) (by omega)
end
section
variable {E:R2T} {x:TExpr} {p:Int}
theorem l1_m:∀ (m n:Nat) (s:Wd) (o:Int),7≤m+n→1≤n→n≤6→(∀ n',n≤n'→n'<6→∀ j,j<13→tb n' j≠x.Kind)→r2_text_l1 E x p m s o n=r2_text_j1 p s o:=by
 intro m
 induction m with
 | zero=>intro n s o h h1 h6; omega
 | succ m ih =>
  intro n s o h h1 h6 hm
  rw [r2_text_l1]
  by_cases c:n<6
  ·rw [if_pos (by omega)]
   have:=l2_m (E:=E) (x:=x) (K:=r2_text_l1 E x p m) h1 c 14 0 s o rfl (by omega) fun j' _ b=>hm n (Nat.le_refl _) c j' b
   rw [show ((0:Nat):Int)=0 from rfl] at this
   rw [this]
   exact ih (n+1) s o (by omega) (by omega) (by omega) fun n' a b=>hm n' (by omega) b
  ·rw [if_neg (by omega)]
theorem l1_h {N J:Nat} {T:Wd} (hN1:1≤N) (hN6:N<6) (hJ:J<13) (hh:tb N J=x.Kind) (hu:∀ j',j'<13→j'≠J→tb N j'≠x.Kind) (hm:∀ n,n<6→1≤n→n≠N→∀ j',j'<13→tb n j'≠x.Kind) (hT:∀ (K':Wd→Int→Int→Option Wd) (s:Wd) (o:Int),r2_text_j4 E x N s o J (SG13[J]'hJ) K' true=K' T N ((J:Int)+1)):∀ (m n:Nat) (s:Wd) (o:Int),7≤m+n→1≤n→n≤N→r2_text_l1 E x p m s o n=r2_text_j1 p T N:=by
 intro m
 induction m with
 | zero=>intro n s o h h1 h6; omega
 | succ m ih =>
  intro n s o h h1 h6
  rw [r2_text_l1,if_pos (by omega)]
  by_cases c:n=N
  ·subst c
   have:=l2_h (E:=E) (x:=x) (K:=r2_text_l1 E x p m) h1 hN6 hJ hh hu hT 14 0 s o rfl (by omega)
   rw [show ((0:Nat):Int)=0 from rfl] at this
   rw [this]
   exact l1_m m (n+1) T n (by omega) (by omega) (by omega) fun n' a b j hj=>hm n' b (by omega) (by omega) j hj
  ·have:=l2_m (E:=E) (x:=x) (K:=r2_text_l1 E x p m) h1 (by omega) 14 0 s o rfl (by omega) fun j' _ b=>hm n (by omega) h1 c j' b
   rw [show ((0:Nat):Int)=0 from rfl] at this
   rw [this]
   exact ih (n+1) s o (by omega) (by omega) (by omega)
end
theorem text_c {k fu need:Nat} {E:R2T} {x:TExpr} (hx:FmE (k+1) x) (hf:6≤fu) (hE:∀ y ∈ x.Kids,∀ need:Nat,lw (wE k need y)≤4294967296→E.r2_text y need=some (bl (wE k need y))) (hA:lw (wA (wE k 1) x.Kids)≤4294967296→E.r2_args x.Kids=some (bl (wA (wE k 1) x.Kids))) (hb:lw (wC (wE k) x)≤4294967296):r2_text fu E x need=some (bl (wE (k+1) need x)):=by
 obtain ⟨h1,h2,hk,hN,hB,-,-⟩:=hx
 have fin:∀ (W:List Wd) (s:Wd) (o:Int),wC (wE k) x=W→s=bl W→o=((own x.Kind:Nat):Int)→r2_text_j1 (need:Int) s o=some (bl (wE (k+1) need x)):=by
  intro W s o e1 e2 e3
  rw [e2,← e1]
  exact tj1 e3 hb
 have AR:∀ (w:List Wd),wC (wE k) x=w++wA (wE k 1) x.Kids→own x.Kind=7→((E.r2_args x.Kids).bind fun r=>(cat (bl w) r).bind fun s=>r2_text_j1 (need:Int) s 7)=some (bl (wE (k+1) need x)):=by
  intro w e o
  rw [e,lw_app] at hb
  have q1:=bl_len w
  have q2:=bl_len (wA (wE k 1) x.Kids)
  rw [hA (by omega),bS,cat_ok (by omega),bS]
  exact fin _ _ _ e (by rw [bl_app]) (by rw [o]; rfl)
 unfold wC at hb fin AR
 rw [r2_text]
 by_cases c1:x.Kind=1
 ·simp only [if_pos c1] at hb fin ⊢
  rw [fmt_ok (hN c1),bS]
  simp only [lw,List.length_cons,List.length_nil] at hb
  rw [cat_ok (by simp; omega),bS]
  exact fin _ _ _ rfl (by simp [bl]) (by rw [c1]; rfl)
 simp only [if_neg c1] at hb fin AR ⊢
 by_cases c2:x.Kind=2
 ·simp only [if_pos c2] at hb fin ⊢
  by_cases e:x.N=1
  ·rw [if_pos e]
   exact fin _ _ _ rfl (by rw [if_pos e]; rfl) (by rw [c2]; rfl)
  ·rw [if_neg e]
   exact fin _ _ _ rfl (by rw [if_neg e]; rfl) (by rw [c2]; rfl)
 simp only [if_neg c2] at hb fin AR ⊢
 by_cases c3:x.Kind=3
 ·simp only [if_pos c3] at hb fin ⊢
  simp only [lw,List.length_cons,List.length_nil] at hb
  rw [cat_ok (by simp; omega),bS]
  exact fin _ _ _ rfl (by simp [bl]) (by rw [c3]; rfl)
 simp only [if_neg c3] at hb fin AR ⊢
 by_cases c45:x.Kind=4∨x.Kind=5
 ·simp only [if_pos c45] at hb fin ⊢
  have hkl:x.Kids.length=1:=by
   have e1:kidN x.Kind=1:=by rcases c45 with c | c <;> rw [c] <;> rfl
   have:=hk.eq (by omega)
   omega
  obtain ⟨a,ha⟩:=List.length_eq_one_iff.1 hkl
  rw [ha] at hb fin ⊢
  dsimp only at hb fin
  rw [lw] at hb
  have h6:=hE a (by simp [ha]) 6 (by omega)
  have q:=bl_len (wE k 6 a)
  rcases c45 with c | c
  ·rw [if_pos c,at_0 (by simp),bS]
   show ((E.r2_text a ((6:Nat):Int)).bind _)=_
   rw [h6,bS,cat_ok (by simp; omega),bS]
   exact fin _ _ _ rfl (by rw [c,bl_cons]; rfl) (by rw [c]; rfl)
  ·rw [if_neg (by omega),if_pos c,at_0 (by simp),bS]
   show ((E.r2_text a ((6:Nat):Int)).bind _)=_
   rw [h6,bS,cat_ok (by simp; omega),bS]
   exact fin _ _ _ rfl (by rw [c,bl_cons]; rfl) (by rw [c]; rfl)
 simp only [if_neg c45] at hb fin AR ⊢
 rw [if_neg (show ¬ x.Kind=4 by omega),if_neg (show ¬ x.Kind=5 by omega)]
 by_cases c18:x.Kind≤18
 ·simp only [if_pos c18] at hb fin
  have hkl:x.Kids.length=2:=by
   have e1:kidN x.Kind=2:=by unfold kidN; rw [if_neg (by omega),if_neg (by omega),if_pos (by omega)]
   have:=hk.eq (by omega)
   omega
  rw [if_neg (show ¬ x.Kind=19 by omega),if_neg (show ¬ x.Kind=20 by omega),if_neg (show ¬ x.Kind=21 by omega),if_neg (show ¬ x.Kind=22 by omega),if_neg (show ¬ x.Kind=23 by omega),if_neg (show ¬ x.Kind=24 by omega)]
  obtain ⟨a,c,ha⟩:∃ a c,x.Kids=[a,c]:=by
   match x.Kids,hkl with
   | [a,c],_=>exact ⟨a,c,rfl⟩
  rw [ha] at hb fin
  dsimp only at hb fin
  obtain ⟨q,hq⟩:∃ q:Nat,x.Kind=(q:Int):=⟨x.Kind.toNat,by omega⟩
  obtain ⟨hJ,hh,hs,hN1,hN6⟩:=tb_hit1 q (by omega) (by omega)
  have hu:=tb_hit2 q (by omega) (by omega)
  have hm:=tb_hit3 q (by omega) (by omega)
  generalize ji q=J at hJ hh hs hu
  rw [← hq] at hh hs hu hm hN1 hN6
  have hsg:SG13[J]'hJ=sgn x.Kind:=by
   have:=List.getElem?_eq_getElem (l:=SG13) (i:=J) hJ
   rw [this] at hs
   exact Option.some.inj hs
  have j5:∀ (left:Nat) (K':Wd→Int→Int→Option Wd),lw (wE k left a++sgn x.Kind::wE k (own x.Kind+1) c)≤4294967296→r2_text_j5 E x (own x.Kind:Nat) J (sgn x.Kind) K' (left:Int)=K' (bl (wE k left a++sgn x.Kind::wE k (own x.Kind+1) c)) (own x.Kind:Nat) ((J:Int)+1):=by
   intro left K' hl
   rw [lw_app,lw] at hl
   have q1:=bl_len (wE k left a)
   have q2:=bl_len (wE k (own x.Kind+1) c)
   rw [r2_text_j5,ha,at_0 (by simp),bS,at_1 (by simp),bS,i64_ok (by omega),bS]
   show ((E.r2_text a (left:Int)).bind _)=_
   rw [hE a (by simp [ha]) left (by omega),bS,cat_ok (by omega),bS,cat_ok (by simp; omega),bS]
   show ((E.r2_text c (((own x.Kind:Nat):Int)+1)).bind _)=_
   rw [show (((own x.Kind:Nat):Int)+1)=((own x.Kind+1:Nat):Int) by omega,hE c (by simp [ha]) _ (by omega),bS,cat_ok (by simp; omega),bS,r2_text_j6,i64_ok (by omega),bS]
   rw [bl_app,bl_cons]
   simp
  have hT:∀ (K':Wd→Int→Int→Option Wd) (s:Wd) (o:Int),r2_text_j4 E x (own x.Kind:Nat) s o J (SG13[J]'hJ) K' true=K' (bl (wE k (if own x.Kind=3 then 4 else own x.Kind) a++sgn x.Kind::wE k (own x.Kind+1) c)) (own x.Kind:Nat) ((J:Int)+1):=by
   intro K' s o
   rw [hsg,r2_text_j4,if_pos rfl]
   by_cases e3:own x.Kind=3
   ·rw [if_pos (by omega),if_pos e3]
    rw [if_pos e3] at hb
    exact j5 4 K' hb
   ·rw [if_neg (by omega),if_neg e3]
    rw [if_neg e3] at hb
    exact j5 (own x.Kind) K' hb
  have:=l1_h (E:=E) (x:=x) (p:=(need:Int)) hN1 hN6 hJ hh hu hm hT fu 1 [] 7 (by omega) (by omega) hN1
  rw [show ((1:Nat):Int)=1 from rfl] at this
  rw [this]
  exact fin _ _ _ rfl rfl rfl
 simp only [if_neg c18] at hb fin AR
 by_cases c19:x.Kind=19
 ·simp only [if_pos c19] at hb AR ⊢
  rw [lw] at hb
  rw [cat_ok (by simp; omega),bS]
  have:=AR [x.Name] rfl (by rw [c19]; rfl)
  rw [show bl [x.Name]=x.Name++[32] by simp [bl]] at this
  exact this
 simp only [if_neg c19] at hb fin AR ⊢
 by_cases c20:x.Kind=20
 ·simp only [if_pos c20] at hb fin ⊢
  simp only [lw,List.length_cons,List.length_nil] at hb
  rw [cat_ok (by simp; omega),bS,cat_ok (by simp; omega),bS]
  exact fin _ _ _ rfl (by simp [bl]) (by rw [c20]; rfl)
 simp only [if_neg c20] at hb fin AR ⊢
 by_cases c21:x.Kind=21
 ·simp only [if_pos c21] at AR ⊢
  exact AR [[121,105,101,108,100]] rfl (by rw [c21]; rfl)
 simp only [if_neg c21] at hb fin AR ⊢
 by_cases c22:x.Kind=22
 ·simp only [if_pos c22] at hb AR ⊢
  rw [lw,lw] at hb
  rw [cat_ok (by simp; omega),bS,cat_ok (by simp; omega),bS]
  have:=AR [[115,116,97,114,116],x.Name] rfl (by rw [c22]; rfl)
  rw [show bl [[115,116,97,114,116],x.Name]=[115,116,97,114,116,32]++x.Name++[32] by simp [bl]] at this
  exact this
 simp only [if_neg c22] at hb fin AR ⊢
 by_cases c23:x.Kind=23
 ·simp only [if_pos c23] at AR ⊢
  exact AR [[114,101,115,117,109,101]] rfl (by rw [c23]; rfl)
 simp only [if_neg c23] at hb fin AR ⊢
 rw [if_pos (show x.Kind=24 by omega)]
 exact AR [[97,108,105,118,101]] rfl (by rw [show x.Kind=24 by omega]; rfl)
theorem text_t:∀ (k n need:Nat) (x:TExpr),FmE k x→2*k+8≤n→lw (wE k need x)≤4294967296→(R2T_run n).r2_text x need=some (bl (wE k need x)):=by
 intro k
 induction k with
 | zero=>intro n need x h; exact h.elim
 | succ k ih =>
  intro n need x hx hn hb
  obtain ⟨n,rfl⟩:∃ m,n=m+2:=⟨n - 2,by omega⟩
  have hb':lw (wC (wE k) x)≤4294967296:=by
   rw [wE] at hb
   split at hb
   ·rw [lw,lw_app] at hb; omega
   ·exact hb
  have hkids:=hx.2.2.2.2.2.2
  have hk6:=hx.2.2.1
  exact text_c (fu:=n+1) (E:=R2T_run (n+1)) hx (by omega) (fun y hy need hb=>ih (n+1) need y (hkids y hy) (by omega) hb) (fun h=>targs_t (self:=R2T_run n) (fun y hy hb=>ih n 1 y (hkids y hy) (by omega) hb) hk6.le h) hb'
end Go.Y
namespace Go.Y
open Go.Wk Go.Xt
section
variable {k fu:Nat} {S:R2B} {x:TStat} {K:Wd→Int→Option Wd} {i:Int}
theorem bj3 (s:Wd) (hs:s.length≤8589934592) (hi:0≤i∧i≤100):r2_body_j3 S i x s K false=K (s++[59,32]) (i+1):=by
 rw [r2_body_j3,if_neg (by decide),cat_ok (by simp; omega),bS,i64_ok (by omega),bS]
theorem bstat (hx:FmS (k+1) x) (hf:2*k+8≤fu) (hB:∀ l:List TStat,(∀ y ∈ l,FmS k y)→l.length≤50→lw (wBody (wS k) l)≤4294967296→S.r2_body l=some (bl (wBody (wS k) l))) {l:List TStat} {m:Nat} (hK:r2_body_l1 fu S l m=K) (hl:at_ l i=some x) (hi:0≤i∧i≤100) (hil:i<l.length) (s:Wd) (hs:s.length+lw (wS (k+1) x)≤4294967296) :
  r2_body_l1 fu S l (m+1) s i=K (s++bl (wS (k+1) x)) (i+1):=by
 obtain ⟨h1,h9,hX,hN,hBd,hEl⟩:=hx
 rw [r2_body_l1,if_pos hil,hl,bS,hK]
 have tx:x.Kind≠6→lw (wE k 1 x.X)≤4294967296→(R2T_run fu).r2_text x.X 1=some (bl (wE k 1 x.X)):=fun h hb=>text_t k fu 1 x.X (hX h) hf hb
 have q1:=bl_len (wE k 1 x.X)
 have line:∀ (w:List Wd),x.Kind≠3→x.Kind≠4→x.Kind≠6→wS (k+1) x=w++(wE k 1 x.X++[[59]])→r2_body_j1 fu S i x K (s++bl w)=K (s++bl (wS (k+1) x)) (i+1):=by
  intro w c3 c4 c6 e
  rw [e,lw_app,lw_app] at hs
  have q:=bl_len w
  rw [r2_body_j1,if_pos c6,tx c6 (by omega),bS,cat_ok (by simp; omega),bS,r2_body_j2,if_neg c3,decide_eq_false c4,bj3 _ (by simp; omega) hi,e,bl_app,bl_app]
  simp [bl_cons,bl_nil]
 by_cases c1:x.Kind=1
 ·rw [if_pos c1]
  have e:wS (k+1) x=[[108,101,116],x.Name,[61]]++(wE k 1 x.X++[[59]]):=by
   rw [wS,if_neg (by omega),if_neg (by omega),if_pos c1]; rfl
  have hs':=hs
  rw [e,lw_app] at hs'
  simp only [lw,List.length_cons,List.length_nil] at hs'
  rw [cat_ok (by simp; omega),bS,cat_ok (by simp; omega),bS,cat_ok (by simp; omega),bS]
  have:=line _ (by omega) (by omega) (by omega) e
  rw [← this]
  congr 1
  simp [bl]
 rw [if_neg c1]
 by_cases c2:x.Kind=2
 ·rw [if_pos c2]
  have e:wS (k+1) x=[x.Name,[61]]++(wE k 1 x.X++[[59]]):=by
   rw [wS,if_neg (by omega),if_neg (by omega),if_neg c1,if_pos c2]; rfl
  have hs':=hs
  rw [e,lw_app] at hs'
  simp only [lw,List.length_cons,List.length_nil] at hs'
  rw [cat_ok (by omega),bS,cat_ok (by simp; omega),bS]
  have:=line _ (by omega) (by omega) (by omega) e
  rw [← this]
  congr 1
  simp [bl]
 rw [if_neg c2]
 by_cases c3:x.Kind=3
 ·rw [if_pos c3]
  obtain ⟨hb5,hbo⟩:=hBd (.inl c3)
  obtain ⟨he5,hel⟩:=hEl c3
  have e:wS (k+1) x=[[105,102]]++(wE k 1 x.X++(wBody (wS k) x.Body++(if x.Else=[] then [] else [[101,108,115,101]]++wBody (wS k) x.Else))):=by
   rw [wS,if_pos c3]; rfl
  rw [e] at hs ⊢
  rw [lw_app,lw_app,lw_app] at hs
  have z:lw [[105,102]]=3:=rfl
  have q2:=bl_len (wBody (wS k) x.Body)
  rw [cat_ok (by simp; omega),bS,r2_body_j1,if_pos (by omega),tx (by omega) (by omega),bS,cat_ok (by simp; omega),bS,r2_body_j2,if_pos c3,r2_body_j3,if_pos rfl,hB _ hbo hb5 (by omega),bS,cat_ok (by simp; omega),bS,if_pos c3]
  by_cases ce:x.Else=[]
  ·rw [ce,decide_eq_false (by simp),r2_body_j4,if_neg (by decide),i64_ok (by omega),bS,if_pos rfl]
   congr 1
   simp [bl_app,bl_cons,bl_nil]
  ·rw [if_neg ce] at hs ⊢
   rw [lw_app] at hs
   have hc:0<x.Else.length:=List.length_pos_iff.2 ce
   have z2:lw [[101,108,115,101]]=5:=rfl
   have q3:=bl_len (wBody (wS k) x.Else)
   rw [decide_eq_true (by omega),r2_body_j4,if_pos rfl,cat_ok (by simp; omega),bS,hB _ hel he5 (by omega),bS,cat_ok (by simp; omega),bS,i64_ok (by omega),bS]
   congr 1
   simp [bl_app,bl_cons,bl_nil]
 rw [if_neg c3]
 by_cases c4:x.Kind=4
 ·rw [if_pos c4]
  obtain ⟨hb5,hbo⟩:=hBd (.inr c4)
  have e:wS (k+1) x=[[119,104,105,108,101]]++(wE k 1 x.X++wBody (wS k) x.Body):=by
   rw [wS,if_neg c3,if_pos c4]; rfl
  rw [e] at hs ⊢
  rw [lw_app,lw_app] at hs
  have z:lw [[119,104,105,108,101]]=6:=rfl
  have q2:=bl_len (wBody (wS k) x.Body)
  rw [cat_ok (by simp; omega),bS,r2_body_j1,if_pos (by omega),tx (by omega) (by omega),bS,cat_ok (by simp; omega),bS,r2_body_j2,if_neg c3,decide_eq_true c4,r2_body_j3,if_pos rfl,hB _ hbo hb5 (by omega),bS,cat_ok (by simp; omega),bS,if_neg c3,r2_body_j4,if_neg (by decide),i64_ok (by omega),bS]
  congr 1
  simp [bl_app,bl_cons,bl_nil]
 rw [if_neg c4]
 by_cases c5:x.Kind=5
 ·rw [if_pos c5]
  have e:wS (k+1) x=[[114,101,116,117,114,110]]++(wE k 1 x.X++[[59]]):=by
   rw [wS,if_neg c3,if_neg c4,if_neg c1,if_neg c2,if_neg (by omega),if_neg (by omega),if_pos c5]; rfl
  rw [cat_ok (by simp; omega),bS]
  exact line _ (by omega) (by omega) (by omega) e
 rw [if_neg c5]
 by_cases c6:x.Kind=6
 ·rw [if_pos c6]
  have e:wS (k+1) x=[[115,116,111,112],[59]]:=by
   rw [wS,if_neg c3,if_neg c4,if_neg c1,if_neg c2,if_neg (by omega),if_pos c6]
  rw [cat_ok (by simp; omega),bS,r2_body_j1,if_neg (by omega),r2_body_j2,if_neg c3,decide_eq_false c4,bj3 _ (by simp; omega) hi,e]
  congr 1
  simp [bl]
 rw [if_neg c6]
 by_cases c7:x.Kind=7
 ·rw [if_pos c7]
  have e:wS (k+1) x=[[115,101,110,100],x.Name]++(wE k 1 x.X++[[59]]):=by
   rw [wS,if_neg c3,if_neg c4,if_neg c1,if_neg c2,if_pos c7]; rfl
  have hs':=hs
  rw [e,lw_app] at hs'
  simp only [lw,List.length_cons,List.length_nil] at hs'
  rw [cat_ok (by simp; omega),bS,cat_ok (by simp; omega),bS,cat_ok (by simp; omega),bS]
  have:=line _ (by omega) (by omega) (by omega) e
  rw [← this]
  congr 1
  simp [bl]
 rw [if_neg c7]
 by_cases c8:x.Kind=8
 ·rw [if_pos c8]
  have e:wS (k+1) x=[[111,117,116]]++(wE k 1 x.X++[[59]]):=by
   rw [wS,if_neg c3,if_neg c4,if_neg c1,if_neg c2,if_neg c7,if_neg c6,if_neg c5,if_pos c8]; rfl
  rw [cat_ok (by simp; omega),bS]
  exact line _ (by omega) (by omega) (by omega) e
 rw [if_neg c8,if_pos (by omega)]
 have e:wS (k+1) x=[[100,111]]++(wE k 1 x.X++[[59]]):=by
  rw [wS,if_neg c3,if_neg c4,if_neg c1,if_neg c2,if_neg c7,if_neg c6,if_neg c5,if_neg c8]; rfl
 rw [cat_ok (by simp; omega),bS]
 exact line _ (by omega) (by omega) (by omega) e
end
theorem body_l {k fu:Nat} {S:R2B} {l:List TStat} (h5:l.length≤50) (hS:∀ (i m:Nat) (c:i<l.length) (s:Wd),s.length+lw (wS k l[i])≤4294967296→r2_body_l1 fu S l (m+1) s i=r2_body_l1 fu S l m (s++bl (wS k l[i])) ((i:Int)+1)):∀ (m i:Nat) (s:Wd),i≤l.length→l.length<m+i→s.length+lw (((l.drop i).map (wS k)).flatten++[[125]])≤4294967296→r2_body_l1 fu S l m s i=some (s++bl (((l.drop i).map (wS k)).flatten++[[125]])):=by
 intro m
 induction m with
 | zero=>intro i s h1 h2; omega
 | succ m ih =>
  intro i s h1 h2 h3
  by_cases c:i<l.length
  ·rw [List.drop_eq_getElem_cons c,List.map_cons,List.flatten_cons,List.append_assoc] at h3 ⊢
   rw [lw_app] at h3
   have q:=bl_len (wS k l[i])
   rw [hS i m c s (by omega),show ((i:Int)+1)=((i+1:Nat):Int) from rfl,ih (i+1) _ (by omega) (by omega) (by rw [List.length_append]; omega),bl_app (wS k l[i]),List.append_assoc]
  ·rw [r2_body_l1,if_neg (by omega)]
   rw [List.drop_eq_nil_of_le (by omega),List.map_nil,List.flatten_nil,List.nil_append] at h3 ⊢
   rw [cat_ok (by simp; omega),bS]
   simp [bl]
theorem body_r:∀ (k n:Nat) (l:List TStat),(∀ y ∈ l,FmS k y)→l.length≤50→2*k+10≤n→lw (wBody (wS k) l)≤4294967296→(R2B_run n).r2_body l=some (bl (wBody (wS k) l)):=by
 intro k
 induction k with
 | zero =>
  intro n l hl h5 hn hb
  obtain ⟨n,rfl⟩:∃ m,n=m+1:=⟨n - 1,by omega⟩
  have:l=[]:=by
   cases l with
   | nil=>rfl
   | cons y l=>exact (hl y (List.mem_cons_self ..)).elim
  subst this
  rfl
 | succ k ih =>
  intro n l hl h5 hn hb
  obtain ⟨n,rfl⟩:∃ m,n=m+1:=⟨n - 1,by omega⟩
  show r2_body n (R2B_run n) l=_
  rw [r2_body]
  rw [wBody,lw] at hb
  have:=body_l (fu:=n) (S:=R2B_run n) (k:=k+1) (l:=l) h5 (fun i m c s hs=>bstat (K:=r2_body_l1 n (R2B_run n) l m) (hl _ (List.getElem_mem c)) (by omega) (fun l' h1 h2 h3=>ih n l' h1 h2 (by omega) h3) rfl (by rw [at_nat,List.getElem?_eq_getElem c]) (by omega) (by omega) s hs) (l.length+1) 0 [123,32] (by omega) (by omega) (by simp at hb ⊢; omega)
  rw [show ((0:Nat):Int)=0 from rfl] at this
  rw [this,wBody,bl_cons]
  simp
theorem tyt_t {t:TType} (h:OkT t) (g:GnT t):r2_tyt t=some (wTy t++[32]):=by
 obtain ⟨h1,h2⟩:=h
 unfold GnT at g
 rw [r2_tyt,cat_ok (by simp; omega),bS,wTy]
 have:t.Kind=1∨t.Kind=2∨t.Kind=3:=by omega
 rcases this with e | e | e <;> rw [e] <;> rfl
end Go.Y
namespace Go.Y
open Go.Wk Go.Xt
section
variable {fu:Nat} {s:Wd} {i:Int} {x:TDef} {K:Wd→Int→Option (Wd×TFault)}
theorem params_r (h6:x.Params.length≤6) (hq:∀ q ∈ x.Params,OkT q.Typ∧GnT q.Typ):∀ (m j:Nat) (p:Wd),j≤x.Params.length→x.Params.length<m+j→p.length+lw (if j=0 then pW x.Params else wPT (x.Params.drop j))≤4294967296 →
  r2_print_l2 fu s i x K m p j=r2_print_l2 fu s i x K 1 (p++bl (if j=0 then pW x.Params else wPT (x.Params.drop j))) x.Params.length:=by
 intro m
 induction m with
 | zero=>intro j p h1 h2; omega
 | succ m ih =>
  intro j p h1 h2 h3
  by_cases c:j<x.Params.length
  ·rw [r2_print_l2,if_pos (by omega),at_nat,List.getElem?_eq_getElem c,bS]
   have go:∀ p1:Wd,p1.length+lw ([x.Params[j].Name,wTy x.Params[j].Typ]++wPT (x.Params.drop (j+1)))≤4294967296→r2_print_j3 j x.Params[j] (r2_print_l2 fu s i x K m) p1=r2_print_l2 fu s i x K 1 (p1++bl ([x.Params[j].Name,wTy x.Params[j].Typ]++wPT (x.Params.drop (j+1)))) x.Params.length:=by
    intro p1 hp
    rw [lw_app] at hp
    simp only [lw,List.length_cons,List.length_nil] at hp
    have hq:=hq _ (List.getElem_mem c)
    rw [r2_print_j3,cat_ok (by omega),bS,cat_ok (by simp; omega),bS,tyt_t hq.1 hq.2,bS,cat_ok (by simp; omega),bS,r2_print_j4,i64_ok (by omega),bS,show ((j:Int)+1)=((j+1:Nat):Int) from rfl]
    have:=ih (j+1) (p1++x.Params[j].Name++[32]++(wTy x.Params[j].Typ++[32])) (by omega) (by omega) (by rw [if_neg (by omega)]; simp; omega)
    rw [this,if_neg (by omega)]
    congr 1
    simp [bl_app,bl_cons,bl_nil]
   by_cases h0:j=0
   ·subst h0
    rw [if_pos rfl] at h3 ⊢
    rw [if_neg (by omega)]
    have e:∀ (P:List TParam) (hP:0<P.length),pW P=[P[0].Name,wTy P[0].Typ]++wPT (P.drop 1):=by
     intro P hP
     cases P with
     | nil=>simp at hP
     | cons q l=>rfl
    rw [e _ c] at h3 ⊢
    exact go p h3
   ·rw [if_neg h0] at h3 ⊢
    rw [if_pos (by omega)]
    have e:wPT (x.Params.drop j)=[[44]]++([x.Params[j].Name,wTy x.Params[j].Typ]++wPT (x.Params.drop (j+1))):=by
     rw [List.drop_eq_getElem_cons c,wPT,wPT,List.map_cons,List.flatten_cons]
     rfl
    rw [e] at h3 ⊢
    rw [lw_app] at h3
    have z:lw [[44]]=2:=rfl
    rw [cat_ok (by simp; omega),bS,go _ (by rw [List.length_append]; simp only [List.length_cons,List.length_nil]; omega)]
    congr 1
    simp [bl_cons]
  ·have e:(if j=0 then pW x.Params else wPT (x.Params.drop j))=[]:=by
    by_cases h0:j=0
    ·rw [if_pos h0]
     have:x.Params=[]:=List.eq_nil_of_length_eq_zero (by omega)
     rw [this]
     rfl
    ·rw [if_neg h0,List.drop_eq_nil_of_le (by omega)]
     rfl
   rw [e,bl_nil,List.append_nil,show j=x.Params.length by omega,r2_print_l2,if_neg (show ¬ ((x.Params.length:Int)<(x.Params.length:Int)) by omega),r2_print_l2,if_neg (show ¬ ((x.Params.length:Int)<(x.Params.length:Int)) by omega)]
theorem pdef_r (hf:200≤fu) (hx:FmD x) (hg:GnD x) {l:List TDef} {m:Nat} (hK:r2_print_l1 fu l m=K) (hl:at_ l i=some x) (hi:0≤i∧i≤100) (hil:i<l.length) (hs:s.length+lw (wD x)≤4294967296) :
  r2_print_l1 fu l (m+1) s i=K (s++bl (wD x)) (i+1):=by
 rw [r2_print_l1,if_pos hil,hl,bS,hK]
 have k1:=hx.k1
 have k4:=hx.k4
 have hbody:x.Kind≠1→lw (wBody (wS 39) x.Body)≤4294967296→(R2B_run fu).r2_body x.Body=some (bl (wBody (wS 39) x.Body)):=by
  intro hk hb
  obtain ⟨h5,hS⟩:=hx.bo hk
  exact body_r 39 fu x.Body hS h5 (by omega) hb
 have q:=bl_len (wBody (wS 39) x.Body)
 unfold wD at hs ⊢
 by_cases c1:x.Kind=1
 ·rw [if_pos c1] at hs ⊢
  obtain ⟨p1,p2⟩:=hx.cp c1
  simp only [lw,List.length_cons,List.length_nil] at hs
  rw [if_pos c1,cat_ok (by simp; omega),bS,cat_ok (by simp; omega),bS,cat_ok (by simp; omega),bS,tyt_t (hx.ty (by omega)).1 hg.1,bS,cat_ok (by simp; omega),bS,fmt_ok ⟨by omega,by omega⟩,bS,cat_ok (by simp; omega),bS,cat_ok (by simp; omega),bS,r2_print_j1,i64_ok (by omega),bS]
  congr 1
  simp [bl_cons,bl_nil]
 rw [if_neg c1] at hs ⊢
 rw [if_neg c1]
 by_cases c4:x.Kind=4
 ·rw [if_pos c4] at hs ⊢
  simp only [lw,List.length_cons,List.length_nil] at hs
  rw [if_pos c4,cat_ok (by simp; omega),bS,cat_ok (by simp; omega),bS,cat_ok (by simp; omega),bS,hbody c1 (by omega),bS,cat_ok (by simp; omega),bS,r2_print_j2,i64_ok (by omega),bS]
  congr 1
  simp [bl_cons]
 rw [if_neg c4] at hs ⊢
 rw [if_neg c4]
 obtain ⟨hp6,hps⟩:=hx.ps (by omega)
 have ew:∀ (R:List Wd),wPs x.Params++R=[40]::(pW x.Params++([[41]]++R)):=by
  intro R
  cases x.Params with
  | nil=>rfl
  | cons q l=>simp [wPs,pW]
 have P:=params_r (fu:=fu) (s:=s) (i:=i) (x:=x) (K:=K) hp6 (fun q hq=>⟨(hps q hq).2.1,hg.2.2 q hq⟩) (x.Params.length+1) 0 [40,32] (by omega) (by omega)
 rw [if_pos rfl,show ((0:Nat):Int)=0 from rfl] at P
 have q2:=bl_len (pW x.Params)
 by_cases c2:x.Kind=2
 ·rw [if_pos c2] at hs ⊢
  rw [ew] at hs ⊢
  simp only [lw,lw_app,List.length_cons,List.length_nil] at hs
  rw [P (by simp; omega),r2_print_l2,if_neg (by omega),if_pos c2,cat_ok (by simp; omega),bS,cat_ok (by simp; omega),bS,cat_ok (by simp; omega),bS,cat_ok (by simp; omega),bS,cat_ok (by simp; omega),bS,tyt_t (hx.ty c4).1 hg.1,bS,cat_ok (by simp; omega),bS,hbody c1 (by omega),bS,cat_ok (by simp; omega),bS,r2_print_j5,i64_ok (by omega),bS]
  congr 1
  simp [bl_cons,bl_app,bl_nil]
 ·rw [if_neg c2] at hs ⊢
  rw [ew] at hs ⊢
  simp only [lw,lw_app,List.length_cons,List.length_nil] at hs
  rw [P (by simp; omega),r2_print_l2,if_neg (by omega),if_neg c2,cat_ok (by simp; omega),bS,cat_ok (by simp; omega),bS,cat_ok (by simp; omega),bS,cat_ok (by simp; omega),bS,cat_ok (by simp; omega),bS,tyt_t (hx.tk (by omega)).1 hg.2.1,bS,cat_ok (by simp; omega),bS,cat_ok (by simp; omega),bS,tyt_t (hx.ty c4).1 hg.1,bS,cat_ok (by simp; omega),bS,hbody c1 (by omega),bS,cat_ok (by simp; omega),bS,r2_print_j6,i64_ok (by omega),bS]
  congr 1
  simp [bl_cons,bl_app,bl_nil]
end
theorem print_l {fu:Nat} (hf:200≤fu) {l:List TDef} (hl:l.length≤30) (hF:∀ x ∈ l,FmD x) (hg:∀ x ∈ l,GnD x):∀ (m i:Nat) (s:Wd),i≤l.length→l.length<m+i→s.length+lw (((l.drop i).map wD).flatten)≤4294967296 →
  r2_print_l1 fu l m s i=r2_print_l1 fu l 1 (s++bl (((l.drop i).map wD).flatten)) l.length:=by
 intro m
 induction m with
 | zero=>intro i s h1 h2; omega
 | succ m ih =>
  intro i s h1 h2 h3
  by_cases c:i<l.length
  ·rw [List.drop_eq_getElem_cons c,List.map_cons,List.flatten_cons] at h3 ⊢
   rw [lw_app] at h3
   have q:=bl_len (wD l[i])
   rw [pdef_r hf (hF _ (List.getElem_mem c)) (hg _ (List.getElem_mem c)) rfl (by rw [at_nat,List.getElem?_eq_getElem c]) (by omega) (by omega) (by omega),show ((i:Int)+1)=((i+1:Nat):Int) from rfl,ih (i+1) _ (by omega) (by omega) (by rw [List.length_append]; omega),bl_app (wD l[i]),List.append_assoc]
  ·rw [List.drop_eq_nil_of_le (by omega),List.map_nil,List.flatten_nil,bl_nil,List.append_nil,show i=l.length by omega,r2_print_l1,if_neg (show ¬ ((l.length:Int)<(l.length:Int)) by omega),r2_print_l1,if_neg (show ¬ ((l.length:Int)<(l.length:Int)) by omega)]
theorem jn_key (ws:List Wd) (hb:lw ws≤300000):(if (0:Int)<((bl ws).length:Int) then (i64 (((bl ws).length:Int) - 1)).bind fun i=>(cut (bl ws) 0 i).bind fun s=>r2_print_j7 s else r2_print_j7 (bl ws))=r2_print_j7 (jn ws):=by
 cases ws with
 | nil=>rfl
 | cons w ws =>
  have q:=bl_len (w::ws)
  rw [bl_jn] at q ⊢
  rw [List.length_append] at q
  simp only [List.length_append,List.length_cons,List.length_nil] at q ⊢
  rw [if_pos (by omega),i64_ok (by omega),bS,cut,if_pos (by simp; omega),bS]
  congr 1
  simp
theorem r2_print_t {fu:Nat} (hf:300≤fu) {l:List TDef} {f:TFault} (h1:syn_wrong fu l=some f) (z:f.Err=0) (ok:OkP l) (hg:∀ x ∈ l,GnD x):r2_print fu l=some (if 6000<(jn (wP l)).length then ([],⟨4,0⟩) else (jn (wP l),⟨0,0⟩)):=by
 obtain ⟨hl,hF⟩:=form_t hf h1 z
 have hb:=lw_P hl hF ok.n
 rw [wP] at hb
 have:=print_l (fu:=fu) (by omega) hl hF hg (l.length+1) 0 [] (by omega) (by omega) (by rw [List.drop_zero]; simp; omega)
 rw [r2_print,wrong_eq (by omega),h1,bS,if_neg (by simpa using z)]
 rw [show ((0:Nat):Int)=0 from rfl] at this
 rw [this,List.drop_zero,List.nil_append,r2_print_l1,if_neg (by omega)]
 have fin:r2_print_j7 (jn (wP l))=some (if 6000<(jn (wP l)).length then ([],⟨4,0⟩) else (jn (wP l),⟨0,0⟩)):=by
  rw [r2_print_j7]
  by_cases h:6000<(jn (wP l)).length
  ·rw [if_pos (by omega),if_pos h]
  ·rw [if_neg (by omega),if_neg h]
 exact (jn_key (wP l) hb).trans fin
theorem law_synp_ok (k:Nat) (l:List TDef) (hl:SzP k l) (hg:∀ d ∈ l,GnD d):law_synp (k+60001) l=some true:=by
 obtain ⟨f,h1,h2⟩:=print_t (fu:=k+60001) (by omega) l
 have hw:=wrong_eq (fu:=k+60001) (by omega) l
 rw [law_synp]
 rcases h2 with ⟨z,h⟩ | ⟨z,ok,h⟩
 ·have:r2_print (k+60001) l=some ([],f):=by
   rw [r2_print,hw,h1,bS,if_pos z]
  rw [h,this,bS,bS,h1,hw,h1,bS,bS]
  simp [andL]
 ·have:=r2_print_t (fu:=k+60001) (by omega) h1 z ok hg
  rw [h,this,bS,bS,h1,hw,h1,bS,bS]
  simp [andL]
end Go.Y
