/- Texts of GraphTells Pm. -/
import Derived.Test.YteiemedhecjgiaaCPl
import Derived.Laws.RangeString
set_option linter.unusedSimpArgs false
set_option linter.unusedVariables false
set_option linter.unusedSectionVars false
namespace Go.Y
open Go.Wk Go.Xt
def FmS:Nat→TStat→Prop
 | 0,_=>False
 | k+1,s=>1≤s.Kind∧s.Kind≤9∧(s.Kind≠6→FmE k s.X)∧((s.Kind=1∨s.Kind=2∨s.Kind=7)→Nmd s.Name)∧((s.Kind=3∨s.Kind=4)→s.Body.length≤50∧∀ y ∈ s.Body,FmS k y)∧(s.Kind=3→s.Else.length≤50∧∀ y ∈ s.Else,FmS k y)
end Go.Y
namespace Go.Y
open Go.Wk Go.Xt
def TyF (t:TType):Prop:=OkT t∧(t.Kind=3→Nmd t.Gen)
structure FmD (d:TDef):Prop where
 k1:1≤d.Kind
 k4:d.Kind≤4
 nm:Nmd d.Name
 ps:d.Kind=2∨d.Kind=3→d.Params.length≤6∧∀ q ∈ d.Params,Nmd q.Name∧TyF q.Typ
 tk:d.Kind=3→TyF d.Takes
 ty:d.Kind≠4→TyF d.Typ
 cp:d.Kind=1→1≤d.Cap∧d.Cap≤20
 bo:d.Kind≠1→d.Body.length≤50∧∀ y ∈ d.Body,FmS 39 y
end Go.Y
namespace Go.Y
open Go.Wk Go.Xt
theorem letter_e (c:UInt8):lx_letter c=some (isLet c):=by
 rw [lx_letter,isLet]
 split
 ·split
  ·exact congrArg some (decide_eq_true (by omega)).symm
  ·exact congrArg some (decide_eq_decide.2 (by omega))
 ·exact congrArg some (decide_eq_decide.2 (by omega))
theorem digit_e (c:UInt8):lx_digit c=some (isDig c):=by
 rw [lx_digit,isDig]
 split
 ·exact congrArg some (decide_eq_decide.2 (by omega))
 ·exact congrArg some (decide_eq_false (by omega)).symm
end Go.Y
namespace Go.Y
open Go.Wk Go.Xt
theorem bI2 {α β:Type} {o:Option α} {f:α→Option β} {r:β} (h:Option.bind o f=some r):∃ x,o=some x∧f x=some r:=bI h
theorem while_more {w:Wd} {p:UInt8→Option Bool}:∀ (m m':Nat) (i r:Int),m≤m'→lx_while_l1 w p m i=some r→lx_while_l1 w p m' i=some r:=by
 intro m
 induction m with
 | zero=>intro m' i r h g; cases g
 | succ m ih =>
  intro m' i r h g
  obtain ⟨m',rfl⟩:∃ q,m'=q+1:=⟨m' - 1,by omega⟩
  rw [lx_while_l1] at g ⊢
  have J:∀ b,lx_while_j1 i (lx_while_l1 w p m) b=some r→lx_while_j1 i (lx_while_l1 w p m') b=some r:=by
   intro b g
   rw [lx_while_j1] at g ⊢
   split
   ·rename_i c
    rw [if_pos c] at g
    obtain ⟨x,e,g⟩:=bI2 g
    rw [e,bS]
    exact ih m' x r (by omega) g
   ·rename_i c
    rw [if_neg c] at g
    exact g
  split
  ·rename_i c
   rw [if_pos c] at g
   obtain ⟨x,e,g⟩:=bI2 g
   obtain ⟨y,e',g⟩:=bI2 g
   rw [e,bS,e',bS]
   exact J y g
  ·rename_i c
   rw [if_neg c] at g
   exact J _ g
theorem named_more {fu fu':Nat} (h:fu≤fu') {w:Wd} {b:Bool} (g:lex_named fu w=some b):lex_named fu' w=some b:=by
 have J:∀ c,lex_named_j1 fu w c=some b→lex_named_j1 fu' w c=some b:=by
  intro c g
  rw [lex_named_j1] at g ⊢
  split
  ·rename_i q; rw [if_pos q] at g; exact g
  ·rename_i q
   rw [if_neg q] at g
   obtain ⟨x,e,g⟩:=bI2 g
   have:lx_while fu' w lx_n1=some x:=while_more fu fu' 0 x h e
   rw [this,bS]
   exact g
 rw [lex_named] at g ⊢
 split
 ·rename_i q; rw [if_pos q] at g; exact J _ g
 ·rename_i q
  rw [if_neg q] at g
  split
  ·rename_i q; rw [if_pos q] at g; exact J _ g
  ·rename_i q
   rw [if_neg q] at g
   obtain ⟨x,e,g⟩:=bI2 g
   obtain ⟨y,e',g⟩:=bI2 g
   rw [e,bS,e',bS]
   split
   ·rename_i q
    rw [if_pos q] at g
    obtain ⟨s1,e1,g⟩:=bI2 g
    obtain ⟨s2,e2,g⟩:=bI2 g
    obtain ⟨b3,e3,g⟩:=bI2 g
    rw [e1,bS,e2,bS,e3,bS]
    exact J _ g
   ·rename_i q
    rw [if_neg q] at g
    exact J _ g
theorem nmd_of {fu:Nat} (hf:20≤fu) {w:Wd} (h:lex_named fu w=some true):Nmd w:=by
 intro fu' hf'
 obtain ⟨b,hb⟩:=lex_named_t 20 (Nat.le_refl _) w
 have h1:=named_more hf hb
 rw [h] at h1
 obtain rfl:=Option.some.inj h1
 exact named_more hf' hb
section
variable {fu:Nat} {self:SynExpr} {x:TExpr} {d node k:Int}
theorem expr_l1_inv:∀ (m i:Nat) (c:Int),x.Kids.length≤6→syn_expr_l1 self x d m i c=some (0,k)→∀ j (hj:j<x.Kids.length),i≤j→∃ c' d' k',self.syn_expr c' x.Kids[j] d'=some (0,k'):=by
 intro m
 induction m with
 | zero=>intro i c _ h; cases h
 | succ m ih =>
  intro i c hl h j hj hij
  rw [syn_expr_l1,if_pos (by omega),at_nat,List.getElem?_eq_getElem (show i<x.Kids.length by omega),bS] at h
  obtain ⟨d',e1,h⟩:=bI2 h
  obtain ⟨r,e2,h⟩:=bI2 h
  by_cases z:r.1≠0
  ·rw [if_pos z] at h
   exact absurd (congrArg (fun o:Option (Int×Int)=>o.map (·.1)) h) (by simpa using z)
  ·rw [if_neg z,i64_ok (by omega),bS] at h
   by_cases q:j=i
   ·subst q
    obtain ⟨r1,r2⟩:=r
    obtain rfl:r1=0:=Decidable.not_not.1 z
    exact ⟨c,d',r2,e2⟩
   ·exact ih (i+1) r.2 hl h j hj (by omega)
theorem expr_j6_inv {r9:Int×Int} {b:Bool} (h:syn_expr_j6 self x d r9 b=some (0,k)):∃ m c,syn_expr_l1 self x d m (0:Nat) c=some (0,k):=by
 rw [syn_expr_j6] at h
 split at h
 ·cases h
 ·exact ⟨_,_,h⟩
theorem expr_j5_inv {r9:Int×Int} {r:Int} {b:Bool} (h:syn_expr_j5 self x d r9 r b=some (0,k)):∃ m c,syn_expr_l1 self x d m (0:Nat) c=some (0,k):=by
 rw [syn_expr_j5] at h
 split at h
 ·exact expr_j6_inv h
 ·split at h <;> exact expr_j6_inv h
theorem expr_j4_inv {r9:Int×Int} {r:Int} {b:Bool} (h:syn_expr_j4 self x d r9 r b=some (0,k)):b=false∧∃ m c,syn_expr_l1 self x d m (0:Nat) c=some (0,k):=by
 rw [syn_expr_j4] at h
 split at h
 ·cases h
 ·rename_i q
  refine ⟨by simpa using q,?_⟩
  split at h <;> exact expr_j5_inv h
theorem expr_j3_inv {r9:Int×Int} {r:Int} {b:Bool} (h:syn_expr_j3 fu self x d r9 r b=some (0,k)):b=false∧(x.Kind=3∨x.Kind=20∨r<0→lex_named fu x.Name=some true)∧∃ m c,syn_expr_l1 self x d m (0:Nat) c=some (0,k):=by
 rw [syn_expr_j3] at h
 split at h
 ·cases h
 ·rename_i q
  refine ⟨by simpa using q,?_⟩
  have J:(Option.bind (lex_named fu x.Name) fun r32=>syn_expr_j4 self x d r9 r (!r32))=some (0,k)→(x.Kind=3∨x.Kind=20∨r<0→lex_named fu x.Name=some true)∧∃ m c,syn_expr_l1 self x d m (0:Nat) c=some (0,k):=by
   intro h
   obtain ⟨b',e,h⟩:=bI2 h
   obtain ⟨h1,h2⟩:=expr_j4_inv h
   cases b' with
   | true=>exact ⟨fun _=>e,h2⟩
   | false=>cases h1
  split at h
  ·exact J h
  ·split at h
   ·exact J h
   ·split at h
    ·exact J h
    ·obtain ⟨-,h2⟩:=expr_j4_inv h
     exact ⟨fun g=>by omega,h2⟩
theorem expr_inv (h:syn_expr fu self node x d=some (0,k)):(x.Kind=1→0≤x.N∧x.N≤999999999999999)∧(x.Kind=2→x.N=0∨x.N=1)∧(x.Kind=3∨x.Kind=20∨kidN x.Kind<0→lex_named fu x.Name=some true)∧∃ m c,syn_expr_l1 self x d m (0:Nat) c=some (0,k):=by
 rw [syn_expr] at h
 obtain ⟨r9,-,h⟩:=bI2 h
 split at h
 ·rename_i z
  exact absurd (congrArg (fun o:Option (Int×Int)=>o.map (·.1)) h) (by simpa using z)
 ·have J2:∀ b,syn_expr_j2 fu self x d r9 (kidN x.Kind) b=some (0,k)→b=false∧(x.Kind=2→x.N=0∨x.N=1)∧(x.Kind=3∨x.Kind=20∨kidN x.Kind<0→lex_named fu x.Name=some true)∧∃ m c,syn_expr_l1 self x d m (0:Nat) c=some (0,k):=by
   intro b h
   rw [syn_expr_j2] at h
   split at h
   ·rename_i q
    obtain ⟨h1,-⟩:=expr_j3_inv h
    rw [q] at h1; cases h1
   ·rename_i q
    refine ⟨by simpa using q,?_⟩
    split at h
    ·split at h
     ·obtain ⟨h1,h2⟩:=expr_j3_inv h
      exact ⟨fun _=>.inr (by simpa using h1),h2⟩
     ·rename_i z
      obtain ⟨h1,h2⟩:=expr_j3_inv h
      exact ⟨fun _=>.inl (Decidable.not_not.1 z),h2⟩
    ·rename_i z
     obtain ⟨h1,h2⟩:=expr_j3_inv h
     exact ⟨fun g=>absurd g z,h2⟩
  have J1:∀ b,syn_expr_j1 fu self x d r9 b=some (0,k)→(x.Kind=1→0≤x.N∧x.N≤999999999999999)∧(x.Kind=2→x.N=0∨x.N=1)∧(x.Kind=3∨x.Kind=20∨kidN x.Kind<0→lex_named fu x.Name=some true)∧∃ m c,syn_expr_l1 self x d m (0:Nat) c=some (0,k):=by
   intro b h
   rw [syn_expr_j1] at h
   split at h
   ·cases h
   ·rw [syn_kids_t,bS] at h
    split at h
    ·split at h
     ·obtain ⟨h1,-⟩:=J2 _ h; cases h1
     ·rename_i z
      obtain ⟨h1,h2⟩:=J2 _ h
      have:=of_decide_eq_false h1
      exact ⟨fun _=>⟨by omega,by omega⟩,h2⟩
    ·rename_i z
     obtain ⟨-,h2⟩:=J2 _ h
     exact ⟨fun g=>absurd g z,h2⟩
  split at h <;> exact J1 _ h
end
theorem fm_expr:∀ (j n:Nat) (x:TExpr) (node d k:Int),30+j≤n→OkE j x→(SynExpr_run n).syn_expr node x d=some (0,k)→FmE j x
 | 0,n,x,node,d,k,hn,h,g=>h.elim
 | j+1,n,x,node,d,k,hn,h,g=>by
  obtain ⟨k1,k24,hk,hks⟩:=h
  obtain ⟨n,rfl⟩:∃ q,n=q+1:=⟨n - 1,by omega⟩
  obtain ⟨h1,h2,h3,m,c,h4⟩:=expr_inv (show syn_expr n (SynExpr_run n) node x d=some (0,k) from g)
  refine ⟨k1,k24,hk,h1,h2,fun q=>nmd_of (by omega) (h3 ?_),fun y hy=>?_⟩
  ·rcases q with q | q | q | q
   ·exact .inl q
   ·exact .inr (.inl q)
   ·rw [q]; exact .inr (.inr (by decide))
   ·rw [q]; exact .inr (.inr (by decide))
  ·obtain ⟨i,hi,rfl⟩:=List.getElem_of_mem hy
   obtain ⟨c',d',k',e⟩:=expr_l1_inv m 0 c hk.le h4 i hi (Nat.zero_le _)
   exact fm_expr j n _ c' d' k' (by omega) (hks _ hy) e
section
variable {fu:Nat} {self:SynStat} {x:TStat} {d node k:Int}
theorem stats_l1_inv {l:List TStat}:∀ (m i:Nat) (c:Int),l.length≤50→syn_stats_l1 self l d m i c=some (0,k)→∀ j (hj:j<l.length),i≤j→∃ c' k',self.syn_stat c' l[j] d=some (0,k'):=by
 intro m
 induction m with
 | zero=>intro i c _ h; cases h
 | succ m ih =>
  intro i c hl h j hj hij
  rw [syn_stats_l1,if_pos (by omega),at_nat,List.getElem?_eq_getElem (show i<l.length by omega),bS] at h
  obtain ⟨r,e2,h⟩:=bI2 h
  by_cases z:r.1≠0
  ·rw [if_pos z] at h
   exact absurd (congrArg (fun o:Option (Int×Int)=>o.map (·.1)) h) (by simpa using z)
  ·rw [if_neg z,i64_ok (by omega),bS] at h
   by_cases q:j=i
   ·subst q
    obtain ⟨r1,r2⟩:=r
    obtain rfl:r1=0:=Decidable.not_not.1 z
    exact ⟨c,r2,e2⟩
   ·exact ih (i+1) r.2 hl h j hj (by omega)
theorem stats_inv {l:List TStat} (hl:l.length≤50) (h:syn_stats self node l d=some (0,k)):∀ y ∈ l,∃ c' k',self.syn_stat c' y d=some (0,k'):=by
 intro y hy
 obtain ⟨j,hj,rfl⟩:=List.getElem_of_mem hy
 rw [syn_stats] at h
 split at h
 ·cases h
 ·exact stats_l1_inv _ 0 _ hl h j hj (Nat.zero_le _)
theorem stat_j4_inv {c:Int} (h:syn_stat_j4 self x d c=some (0,k)):x.Kind=3→∃ c' d' k',self.syn_stats c' x.Else d'=some (0,k'):=by
 intro k3
 rw [syn_stat_j4,if_pos k3] at h
 obtain ⟨d',-,h⟩:=bI2 h
 obtain ⟨r,e,h⟩:=bI2 h
 obtain ⟨r1,r2⟩:=r
 obtain ⟨h1,-⟩:=Prod.mk.inj (Option.some.inj h)
 have h1:r1=0:=h1
 subst h1
 exact ⟨_,_,_,e⟩
theorem stat_j3_inv {r41:Int×Int} {b:Bool} (h:syn_stat_j3 self x d r41 b=some (0,k)):(b=true→∃ c' d' k',self.syn_stats c' x.Body d'=some (0,k'))∧(x.Kind=3→∃ c' d' k',self.syn_stats c' x.Else d'=some (0,k')):=by
 rw [syn_stat_j3] at h
 split at h
 ·obtain ⟨d',-,h⟩:=bI2 h
  obtain ⟨r,e,h⟩:=bI2 h
  split at h
  ·rename_i z
   exact absurd (congrArg (fun o:Option (Int×Int)=>o.map (·.1)) h) (by simpa using z)
  ·rename_i z
   obtain ⟨r1,r2⟩:=r
   obtain rfl:r1=0:=Decidable.not_not.1 z
   exact ⟨fun _=>⟨_,_,_,e⟩,stat_j4_inv h⟩
 ·rename_i q
  exact ⟨fun g=>absurd g q,stat_j4_inv h⟩
theorem stat_inv (h:syn_stat fu self node x d=some (0,k)):(x.Kind=1∨x.Kind=2∨x.Kind=7→lex_named fu x.Name=some true)∧(x.Kind≠6→(∃ c' d' k',(SynExpr_run fu).syn_expr c' x.X d'=some (0,k'))∧(x.Kind=3∨x.Kind=4→∃ c' d' k',self.syn_stats c' x.Body d'=some (0,k'))∧(x.Kind=3→∃ c' d' k',self.syn_stats c' x.Else d'=some (0,k'))):=by
 rw [syn_stat] at h
 obtain ⟨r9,-,h⟩:=bI2 h
 split at h
 ·rename_i z
  exact absurd (congrArg (fun o:Option (Int×Int)=>o.map (·.1)) h) (by simpa using z)
 ·have J2:∀ b,syn_stat_j2 fu self x d r9 b=some (0,k)→b=false∧(x.Kind≠6→(∃ c' d' k',(SynExpr_run fu).syn_expr c' x.X d'=some (0,k'))∧(x.Kind=3∨x.Kind=4→∃ c' d' k',self.syn_stats c' x.Body d'=some (0,k'))∧(x.Kind=3→∃ c' d' k',self.syn_stats c' x.Else d'=some (0,k'))):=by
   intro b h
   rw [syn_stat_j2] at h
   split at h
   ·cases h
   ·rename_i q
    refine ⟨by simpa using q,fun k6=>?_⟩
    rw [if_neg k6] at h
    obtain ⟨d',-,h⟩:=bI2 h
    obtain ⟨r,e,h⟩:=bI2 h
    split at h
    ·rename_i z
     exact absurd (congrArg (fun o:Option (Int×Int)=>o.map (·.1)) h) (by simpa using z)
    ·rename_i z
     obtain ⟨r1,r2⟩:=r
     obtain rfl:r1=0:=Decidable.not_not.1 z
     refine ⟨⟨_,_,_,e⟩,?_⟩
     split at h
     ·rename_i k3
      obtain ⟨h1,h2⟩:=stat_j3_inv h
      exact ⟨fun _=>h1 rfl,h2⟩
     ·rename_i k3
      obtain ⟨h1,h2⟩:=stat_j3_inv h
      exact ⟨fun g=>h1 (decide_eq_true (by omega)),h2⟩
  have J1:∀ b,syn_stat_j1 fu self x d r9 b=some (0,k)→(x.Kind=1∨x.Kind=2∨x.Kind=7→lex_named fu x.Name=some true)∧(x.Kind≠6→(∃ c' d' k',(SynExpr_run fu).syn_expr c' x.X d'=some (0,k'))∧(x.Kind=3∨x.Kind=4→∃ c' d' k',self.syn_stats c' x.Body d'=some (0,k'))∧(x.Kind=3→∃ c' d' k',self.syn_stats c' x.Else d'=some (0,k'))):=by
   intro b h
   rw [syn_stat_j1] at h
   have N:(Option.bind (lex_named fu x.Name) fun r25=>syn_stat_j2 fu self x d r9 (!r25))=some (0,k)→(x.Kind=1∨x.Kind=2∨x.Kind=7→lex_named fu x.Name=some true)∧(x.Kind≠6→(∃ c' d' k',(SynExpr_run fu).syn_expr c' x.X d'=some (0,k'))∧(x.Kind=3∨x.Kind=4→∃ c' d' k',self.syn_stats c' x.Body d'=some (0,k'))∧(x.Kind=3→∃ c' d' k',self.syn_stats c' x.Else d'=some (0,k'))):=by
    intro h
    obtain ⟨b',e,h⟩:=bI2 h
    obtain ⟨h1,h2⟩:=J2 _ h
    cases b' with
    | true=>exact ⟨fun _=>e,h2⟩
    | false=>cases h1
   split at h
   ·cases h
   ·split at h
    ·exact N h
    ·split at h
     ·exact N h
     ·split at h
      ·exact N h
      ·exact ⟨fun g=>by omega,(J2 _ h).2⟩
  split at h <;> exact J1 _ h
end
theorem fm_stat:∀ (j n:Nat) (x:TStat) (node d k:Int),60+3*j≤n→OkS j x→(SynStat_run n).syn_stat node x d=some (0,k)→FmS j x
 | 0,n,x,node,d,k,hn,h,g=>h.elim
 | j+1,n,x,node,d,k,hn,h,g=>by
  obtain ⟨k1,k9,hX,hB,hE⟩:=h
  obtain ⟨n,rfl⟩:∃ q,n=q+2:=⟨n - 2,by omega⟩
  obtain ⟨h1,h2⟩:=stat_inv (show syn_stat (n+1) (SynStat_run (n+1)) node x d=some (0,k) from g)
  have L:∀ (l:List TStat) (c' d' k':Int),l.length≤50→(∀ y ∈ l,OkS j y)→(SynStat_run (n+1)).syn_stats c' l d'=some (0,k')→∀ y ∈ l,FmS j y:=by
   intro l c' d' k' hl ho hs y hy
   obtain ⟨c2,k2,e⟩:=stats_inv hl (show syn_stats (SynStat_run n) c' l d'=some (0,k') from hs) y hy
   exact fm_stat j n y c2 d' k2 (by omega) (ho y hy) e
  refine ⟨k1,k9,fun k6=>?_,fun q=>nmd_of (by omega) (h1 q),fun q=>?_,fun q=>?_⟩
  ·obtain ⟨⟨c',d',k',e⟩,-⟩:=h2 k6
   exact fm_expr j (n+1) x.X c' d' k' (by omega) (hX k6) e
  ·obtain ⟨a,b⟩:=hB q
   obtain ⟨-,hb,-⟩:=h2 (by omega)
   obtain ⟨c',d',k',e⟩:=hb q
   exact ⟨a,L x.Body c' d' k' a b e⟩
  ·obtain ⟨a,b⟩:=hE q
   obtain ⟨-,-,hb⟩:=h2 (by omega)
   obtain ⟨c',d',k',e⟩:=hb q
   exact ⟨a,L x.Else c' d' k' a b e⟩
theorem typ_inv {fu:Nat} (hf:20≤fu) {t:TType} (h:syn_typ fu t=some 0):TyF t:=by
 obtain ⟨e,h1,h2⟩:=syn_typ_t fu hf t
 rw [h] at h1
 obtain rfl:=Option.some.inj h1
 refine ⟨h2 rfl,fun k3=>?_⟩
 rw [syn_typ] at h
 have J:∀ b,syn_typ_j1 fu t b=some 0→Nmd t.Gen:=by
  intro b h
  rw [syn_typ_j1] at h
  split at h
  ·cases h
  ·obtain ⟨b',e,h⟩:=bI2 (by simpa only [if_pos k3] using h)
   cases b' with
   | true=>exact nmd_of hf e
   | false=>cases h
 split at h <;> exact J _ h
section
variable {fu:Nat} {x:TDef} {r12:Int×Int} {k node:Int}
theorem def_j5_inv (h:syn_def_j5 fu x r12=some (0,k)):(x.Kind=1→1≤x.Cap∧x.Cap≤20)∧(x.Kind≠1→∃ c' k',(SynStat_run fu).syn_stats c' x.Body 2=some (0,k')):=by
 rw [syn_def_j5] at h
 split at h
 ·rename_i q
  obtain ⟨r,e,h⟩:=bI2 h
  obtain ⟨r1,r2⟩:=r
  obtain ⟨h1,-⟩:=Prod.mk.inj (Option.some.inj h)
  have h1:r1=0:=h1
  subst h1
  exact ⟨fun g=>absurd g q,fun _=>⟨_,_,e⟩⟩
 ·rename_i q
  have J:∀ b,syn_def_j6 r12 b=some (0,k)→b=false:=by
   intro b h
   cases b with
   | false=>rfl
   | true=>cases h
  split at h
  ·cases J _ h
  ·have:=of_decide_eq_false (J _ h)
   exact ⟨fun _=>⟨by omega,by omega⟩,fun g=>absurd g q⟩
theorem def_j4_inv (hf:20≤fu) (h:syn_def_j4 fu x r12=some (0,k)):(x.Kind≠4→TyF x.Typ)∧(x.Kind=1→1≤x.Cap∧x.Cap≤20)∧(x.Kind≠1→∃ c' k',(SynStat_run fu).syn_stats c' x.Body 2=some (0,k')):=by
 rw [syn_def_j4] at h
 split at h
 ·obtain ⟨r,e,h⟩:=bI2 h
  split at h
  ·rename_i z
   exact absurd (congrArg (fun o:Option (Int×Int)=>o.map (·.1)) h) (by simpa using z)
  ·rename_i z
   obtain rfl:r=0:=Decidable.not_not.1 z
   exact ⟨fun _=>typ_inv hf e,def_j5_inv h⟩
 ·rename_i q
  exact ⟨fun g=>absurd g q,def_j5_inv h⟩
theorem def_j3_inv (hf:20≤fu) (h:syn_def_j3 fu x r12=some (0,k)):(x.Kind=3→TyF x.Takes)∧(x.Kind≠4→TyF x.Typ)∧(x.Kind=1→1≤x.Cap∧x.Cap≤20)∧(x.Kind≠1→∃ c' k',(SynStat_run fu).syn_stats c' x.Body 2=some (0,k')):=by
 rw [syn_def_j3] at h
 split at h
 ·obtain ⟨r,e,h⟩:=bI2 h
  split at h
  ·rename_i z
   exact absurd (congrArg (fun o:Option (Int×Int)=>o.map (·.1)) h) (by simpa using z)
  ·rename_i z
   obtain rfl:r=0:=Decidable.not_not.1 z
   exact ⟨fun _=>typ_inv hf e,def_j4_inv hf h⟩
 ·rename_i q
  exact ⟨fun g=>absurd g q,def_j4_inv hf h⟩
theorem def_l1_inv (hf:20≤fu) (hl:x.Params.length≤6):∀ (m i:Nat),i≤x.Params.length→syn_def_l1 fu x r12 m i=some (0,k)→(∀ j (hj:j<x.Params.length),i≤j→Nmd x.Params[j].Name∧TyF x.Params[j].Typ)∧syn_def_j3 fu x r12=some (0,k):=by
 intro m
 induction m with
 | zero=>intro i _ h; cases h
 | succ m ih =>
  intro i hi h
  rw [syn_def_l1] at h
  by_cases q:i<x.Params.length
  ·rw [if_pos (by omega),at_nat,List.getElem?_eq_getElem q,bS] at h
   obtain ⟨b,e1,h⟩:=bI2 h
   cases b with
   | false=>cases h
   | true =>
    rw [if_pos rfl] at h
    obtain ⟨r,e2,h⟩:=bI2 h
    by_cases z:r≠0
    ·rw [if_pos z] at h
     exact absurd (congrArg (fun o:Option (Int×Int)=>o.map (·.1)) h) (by simpa using z)
    ·rw [if_neg z,i64_ok (by omega),bS] at h
     obtain rfl:r=0:=Decidable.not_not.1 z
     obtain ⟨h1,h2⟩:=ih (i+1) q h
     refine ⟨fun j hj hij=>?_,h2⟩
     by_cases e:j=i
     ·subst e; exact ⟨nmd_of hf e1,typ_inv hf e2⟩
     ·exact h1 j hj (by omega)
  ·rw [if_neg (by omega)] at h
   exact ⟨fun j hj hij=>by omega,h⟩
theorem fm_def (hf:300≤fu) (ok:OkD x) (h:syn_def fu node x=some (0,k)):FmD x:=by
 rw [syn_def] at h
 obtain ⟨r9,-,h⟩:=bI2 h
 split at h
 ·rename_i z
  exact absurd (congrArg (fun o:Option (Int×Int)=>o.map (·.1)) h) (by simpa using z)
 ·have fin:Nmd x.Name→(x.Kind=2∨x.Kind=3→x.Params.length≤6∧∀ q ∈ x.Params,Nmd q.Name∧TyF q.Typ)→syn_def_j3 fu x r9=some (0,k)→FmD x:=by
   intro hn hp h
   obtain ⟨a,b,c,e⟩:=def_j3_inv (by omega) h
   refine ⟨ok.k1,ok.k4,hn,hp,a,b,c,fun k1=>⟨ok.bl k1,fun y hy=>?_⟩⟩
   obtain ⟨c',k',hs⟩:=e k1
   obtain ⟨n,rfl⟩:∃ q,fu=q+1:=⟨fu - 1,by omega⟩
   obtain ⟨c2,k2,e2⟩:=stats_inv (ok.bl k1) (show syn_stats (SynStat_run n) c' x.Body 2=some (0,k') from hs) y hy
   exact fm_stat 39 n y c2 2 k2 (by omega) (ok.bo k1 y hy) e2
  have J2:∀ b,(b=true ↔ x.Kind=2∨x.Kind=3)→Nmd x.Name→syn_def_j2 fu x r9 b=some (0,k)→FmD x:=by
   intro b g hn h
   rw [syn_def_j2] at h
   split at h
   ·rename_i q
    split at h
    ·cases h
    ·rename_i z
     obtain ⟨h1,h2⟩:=def_l1_inv (by omega) (by omega) _ 0 (Nat.zero_le _) h
     exact fin hn (fun _=>⟨by omega,fun q hq=>by
      obtain ⟨j,hj,rfl⟩:=List.getElem_of_mem hq
      exact h1 j hj (Nat.zero_le _)⟩) h2
   ·rename_i q
    exact fin hn (fun z=>absurd (g.2 z) q) h
  have J1:∀ b,syn_def_j1 fu x r9 b=some (0,k)→FmD x:=by
   intro b h
   rw [syn_def_j1] at h
   split at h
   ·cases h
   ·obtain ⟨b',e,h⟩:=bI2 h
    cases b' with
    | false=>cases h
    | true =>
     rw [if_pos rfl] at h
     split at h
     ·rename_i q; exact J2 _ (by simp [q]) (nmd_of (by omega) e) h
     ·rename_i q; exact J2 _ (by simp [q]) (nmd_of (by omega) e) h
  split at h <;> exact J1 _ h
end
theorem form_t {fu:Nat} (hf:300≤fu) {l:List TDef} {f:TFault} (h:syn_wrong fu l=some f) (hz:f.Err=0):l.length≤30∧∀ x ∈ l,FmD x:=by
 obtain ⟨f',h1,h2⟩:=syn_wrong_t fu (by omega) l
 rw [h] at h1
 obtain rfl:=Option.some.inj h1
 obtain ⟨-,ok⟩:=h2 hz
 have hl:=ok.le
 refine ⟨hl,?_⟩
 rw [syn_wrong,if_neg (by omega)] at h
 have L:∀ (m i:Nat) (c:Int),syn_wrong_l1 fu l m i c=some f→∀ j (hj:j<l.length),i≤j→FmD l[j]:=by
  intro m
  induction m with
  | zero=>intro i c h; cases h
  | succ m ih =>
   intro i c h j hj hij
   rw [syn_wrong_l1,if_pos (by omega),at_nat,List.getElem?_eq_getElem (show i<l.length by omega),bS] at h
   obtain ⟨r,e,h⟩:=bI2 h
   by_cases z:r.1≠0
   ·rw [if_pos z] at h
    rw [← Option.some.inj h] at hz
    exact absurd hz z
   ·rw [if_neg z,i64_ok (by omega),bS] at h
    by_cases q:j=i
    ·subst q
     obtain ⟨r1,r2⟩:=r
     obtain rfl:r1=0:=Decidable.not_not.1 z
     exact fm_def hf (ok.ok _ (List.getElem_mem _)) e
    ·exact ih (i+1) r.2 h j hj (by omega)
 intro x hx
 obtain ⟨j,hj,rfl⟩:=List.getElem_of_mem hx
 exact L _ 0 0 h j hj (Nat.zero_le _)
end Go.Y
namespace Go.Y
open Go.Wk Go.Xt
def RW:List Wd:=[[98,111,120],[102,110],[103,101,110],[116,97,115,107],[116,97,107,101,115],[121,105,101,108,100,115],[108,101,116],[105,102],[101,108,115,101],[119,104,105,108,101],[114,101,116,117,114,110],[115,116,111,112],[115,101,110,100],[111,117,116],[100,111],[114,101,99,118],[121,105,101,108,100],[115,116,97,114,116],[114,101,115,117,109,101],[97,108,105,118,101],[110,117,109],[98,111,111,108],[116,114,117,101],[102,97,108,115,101],[97,110,100],[111,114],[110,111,116]]
def wrd (c:UInt8):Bool:=isLet c || isDig c
def fst1:Wd→Bool
 | c::_=>isLet c
 | []=>true
def nm (w:Wd):Bool:=decide (0<w.length) && decide (w.length≤12) && fst1 w && w.all wrd && !RW.contains w
theorem index_iff (sub:List UInt8):∀ s:List UInt8,0≤Lib.index s sub ↔ ∃ i,i≤s.length∧sub.isPrefixOf (s.drop i)=true:=by
 intro s
 induction s with
 | nil =>
  simp only [Lib.index]
  cases sub with
  | nil=>simp
  | cons a l=>simp
 | cons b l ih =>
  simp only [Lib.index]
  by_cases h:sub.isPrefixOf (b::l)=true
  ·rw [if_pos h]
   exact ⟨fun _=>⟨0,by simp,h⟩,fun _=>by omega⟩
  ·rw [if_neg h]
   have e:(0≤(if (Lib.index l sub == -1)=true then (-1:Int) else Lib.index l sub+1)) ↔ 0≤Lib.index l sub:=by
    by_cases h1:Lib.index l sub=-1
    ·simp [h1]
    ·have h2:(Lib.index l sub == -1)=false:=by simpa using h1
     rw [h2]
     simp only [Bool.false_eq_true,if_false]
     have:-1≤Lib.index l sub:=by
      clear ih h1 h2 h
      induction l with
      | nil=>simp only [Lib.index]; split <;> omega
      | cons c l ih2 =>
       simp only [Lib.index]
       split
       ·omega
       ·split
        ·omega
        ·have:=ih2; omega
     omega
   rw [e,ih]
   constructor
   ·rintro ⟨i,hi,hp⟩
    exact ⟨i+1,by simpa using hi,by simpa using hp⟩
   ·rintro ⟨i,hi,hp⟩
    cases i with
    | zero=>exact absurd (by simpa using hp) h
    | succ i=>exact ⟨i,by simpa using hi,by simpa using hp⟩
theorem hay_words:∀ i,i<tx_0.length→(tx_0.drop i).head?=some 32→((tx_0.drop (i+1)).takeWhile (fun c=>c != 32)) ∈ RW∨(tx_0.drop (i+1)).takeWhile (fun c=>c != 32)=[]:=by decide +kernel
theorem hay_has:∀ w ∈ RW,Lib.contains tx_0 (32::w++[32])=true:=by decide +kernel
theorem tw_stop (l r:List UInt8) (h:∀ c ∈ l,c≠32):(l++32::r).takeWhile (fun c=>c != 32)=l:=by
 induction l with
 | nil=>simp
 | cons c l ih =>
  have hc:=h c (by simp)
  rw [List.cons_append,List.takeWhile_cons]
  simp only [bne_iff_ne,ne_eq,hc,not_false_eq_true,if_true]
  rw [ih fun d hd=>h d (by simp [hd])]
theorem hay_iff {l:List UInt8} (h0:l≠[]) (hw:∀ c ∈ l,c≠32):Lib.contains tx_0 (32::l++[32])=RW.contains l:=by
 rw [Bool.eq_iff_iff]
 constructor
 ·intro h
  have h1:=(index_iff _ _).1 (of_decide_eq_true h)
  obtain ⟨i,hi,hp⟩:=h1
  obtain ⟨r,hr⟩:=List.isPrefixOf_iff_prefix.1 hp
  have hi':i<tx_0.length:=by
   rcases Nat.lt_or_ge i tx_0.length with h | h
   ·exact h
   ·rw [List.drop_eq_nil_of_le h] at hr; simp at hr
  have e2:tx_0.drop (i+1)=l++32::r:=by
   have:=congrArg List.tail hr
   simpa using this.symm
  have hh:(tx_0.drop i).head?=some 32:=by rw [← hr]; rfl
  rcases hay_words i hi' hh with h | h
  ·rw [e2,tw_stop l r hw] at h
   simpa using h
  ·rw [e2,tw_stop l r hw] at h
   exact absurd h h0
 ·intro h
  exact hay_has l (by simpa using h)
theorem wrd_no {l:List UInt8} (h:l.all wrd=true):∀ c ∈ l,c≠32:=by
 intro c hc e
 subst e
 exact absurd (List.all_eq_true.1 h 32 hc) (by decide)
theorem n1_e (c:UInt8):lx_n1 c=some (wrd c):=by
 rw [lx_n1,letter_e,bS,wrd]
 cases h:isLet c with
 | true=>rfl
 | false=>rw [if_neg (by decide),digit_e,bS,Bool.false_or]
theorem while_tw (w:Wd) (hw:w.length≤12):∀ (m i:Nat),i≤w.length→w.length<m+i→lx_while_l1 w lx_n1 m i=some ((i+((w.drop i).takeWhile wrd).length:Nat):Int):=by
 intro m
 induction m with
 | zero=>intro i h1 h2; omega
 | succ m ih =>
  intro i h1 h2
  rw [lx_while_l1]
  by_cases c:i<w.length
  ·rw [if_pos (by omega),at_nat,List.getElem?_eq_getElem c,bS,n1_e,bS,lx_while_j1,List.drop_eq_getElem_cons c,List.takeWhile_cons]
   cases h:wrd w[i] with
   | true =>
    rw [if_pos rfl,i64_ok (by omega),bS,show ((i:Int)+1)=((i+1:Nat):Int) from rfl,ih (i+1) (by omega) (by omega)]
    simp
    omega
   | false=>simp
  ·rw [if_neg (by omega),lx_while_j1,if_neg (by decide),List.drop_eq_nil_of_le (by omega)]
   simp
theorem tw_all (l:Wd):decide (((l.takeWhile wrd).length:Int)=(l.length:Int))=l.all wrd:=by
 induction l with
 | nil=>rfl
 | cons c l ih =>
  rw [List.all_cons,List.takeWhile_cons]
  cases h:wrd c with
  | false=>simp; omega
  | true =>
   rw [Bool.true_and,← ih]
   simp only [if_true,List.length_cons]
   exact decide_eq_decide.2 (by omega)
theorem lex_named_e {fu:Nat} (hf:20≤fu) (w:Wd):lex_named fu w=some (nm w):=by
 have bad:lex_named_j1 fu w true=some false:=rfl
 rw [lex_named]
 by_cases h1:(w.length:Int)<1
 ·rw [if_pos h1,bad,nm,decide_eq_false (by omega)]
  rfl
 rw [if_neg h1]
 by_cases h2:(12:Int)<w.length
 ·rw [if_pos h2,bad,nm,decide_eq_false (show ¬ w.length≤12 by omega)]
  simp
 rw [if_neg h2]
 cases w with
 | nil=>simp at h1
 | cons c u =>
  rw [at_0 (by simp),bS]
  show Option.bind (lx_letter c) _=_
  rw [letter_e,bS]
  cases hc:isLet c with
  | false =>
   rw [if_neg (by decide),bad,nm,fst1,hc]
   simp
  | true =>
   have hl:(c::u).length≤12:=by omega
   have e1:cat [32] (c::u)=some (32::c::u):=if_pos (by simp at hl ⊢; omega)
   have e2:cat (32::c::u) [32]=some (32::(c::u)++[32]):=if_pos (by simp at hl ⊢; omega)
   rw [if_pos rfl,e1,bS,e2,bS,scont,if_pos (by decide +kernel),bS]
   have hn:nm (c::u)=((c::u).all wrd && !RW.contains (c::u)):=by
    rw [nm,fst1,hc,decide_eq_true (by simp),decide_eq_true hl]
    simp
   rw [hn]
   have hW:lx_while fu (c::u) lx_n1=some ((((c::u).takeWhile wrd).length:Nat):Int):=by
    rw [lx_while,show (0:Int)=((0:Nat):Int) from rfl,while_tw _ hl fu 0 (by omega) (by omega)]
    simp
   by_cases ha:(c::u).all wrd=true
   ·rw [hay_iff (by simp) (wrd_no ha),ha,Bool.true_and]
    cases hr:RW.contains (c::u) with
    | true=>rfl
    | false=>rw [lex_named_j1,if_neg (by decide),hW,bS,tw_all,ha]; rfl
   ·have ha:(c::u).all wrd=false:=by simpa using ha
    rw [ha,Bool.false_and]
    cases Lib.contains tx_0 (32::(c::u)++[32]) with
    | true=>rfl
    | false=>rw [lex_named_j1,if_neg (by decide),hW,bS,tw_all,ha]
def cls (c:UInt8):Int:=if isLet c then 1 else if isDig c then 2 else if c.toNat=32∨c.toNat=9∨c.toNat=10 then 3 else if c.toNat=35 then 4 else 5
theorem class_e (c:UInt8):r1_class c=some (cls c):=by
 have hL:isLet c=decide (97≤c.toNat∧c.toNat≤122∨c.toNat=95):=rfl
 have hD:isDig c=decide (48≤c.toNat∧c.toNat≤57):=rfl
 have j4:∀ b,b=decide (c.toNat=32∨c.toNat=9∨c.toNat=10)→r1_class_j4 c b=some (if c.toNat=32∨c.toNat=9∨c.toNat=10 then 3 else if c.toNat=35 then 4 else 5):=by
  intro b hb
  rw [r1_class_j4,hb]
  by_cases h:c.toNat=32∨c.toNat=9∨c.toNat=10
  ·rw [decide_eq_true h,if_pos rfl,if_pos h]
  ·rw [decide_eq_false h,if_neg (by decide),if_neg h]
   by_cases h5:c.toNat=35
   ·rw [if_pos (by omega),if_pos h5]
   ·rw [if_neg (by omega),if_neg h5]
 have j3:∀ b,b=isDig c→r1_class_j3 c b=some (if isDig c then 2 else if c.toNat=32∨c.toNat=9∨c.toNat=10 then 3 else if c.toNat=35 then 4 else 5):=by
  intro b hb
  rw [r1_class_j3,hb]
  cases isDig c with
  | true=>rfl
  | false =>
   simp only [Bool.false_eq_true,if_false]
   by_cases h1:c.toNat=32
   ·rw [if_pos (show ((c.toNat:Int)=32) by omega),j4 _ (decide_eq_true (.inl h1)).symm]
   rw [if_neg (show ¬ ((c.toNat:Int)=32) by omega)]
   by_cases h2:c.toNat=9
   ·rw [if_pos (show ((c.toNat:Int)=9) by omega),j4 _ (decide_eq_true (.inr (.inl h2))).symm]
   rw [if_neg (show ¬ ((c.toNat:Int)=9) by omega),j4 _ (decide_eq_decide.2 (by omega))]
 have j2:∀ b,b=isLet c→r1_class_j2 c b=some (cls c):=by
  intro b hb
  rw [r1_class_j2,hb,cls]
  cases isLet c with
  | true=>rfl
  | false =>
   simp only [Bool.false_eq_true,if_false]
   by_cases h:(48:Int)≤(c.toNat:Int)
   ·rw [if_pos h,j3 _ (by rw [hD]; exact decide_eq_decide.2 (by omega))]
   ·rw [if_neg h,j3 _ (by rw [hD]; exact (decide_eq_false (by omega)).symm)]
 rw [r1_class]
 have j1:∀ b,b=decide (97≤c.toNat∧c.toNat≤122)→r1_class_j1 c b=some (cls c):=by
  intro b hb
  rw [r1_class_j1,hb]
  by_cases h:97≤c.toNat∧c.toNat≤122
  ·rw [decide_eq_true h,if_pos rfl,j2 true (by rw [hL]; exact (decide_eq_true (.inl h)).symm)]
  ·rw [decide_eq_false h,if_neg (by decide),j2 _ (by rw [hL]; exact decide_eq_decide.2 (by omega))]
 by_cases h:(97:Int)≤(c.toNat:Int)
 ·rw [if_pos h,j1 _ (decide_eq_decide.2 (by omega))]
 ·rw [if_neg h,j1 _ (decide_eq_false (by omega)).symm]
theorem res_e (w:Wd):r1_res w=some (RW.contains w):=by
 have L:∀ (m i:Nat),i≤27→27<m+i→r1_res_l1 w m i=some ((RW.drop i).contains w):=by
  intro m
  induction m with
  | zero=>intro i h1 h2; omega
  | succ m ih =>
   intro i h1 h2
   rw [r1_res_l1]
   by_cases c:i<27
   ·have hlen:RW.length=27:=rfl
    have hi:i<RW.length:=by omega
    rw [if_pos (by omega)]
    show Option.bind (at_ RW (i:Int)) _=_
    rw [at_nat,List.getElem?_eq_getElem hi,bS,List.drop_eq_getElem_cons hi,List.contains_cons]
    by_cases e:RW[i]=w
    ·rw [if_pos e,e]
     simp
    ·have e':(w == RW[i])=false:=by simpa using Ne.symm e
     rw [if_neg e,i64_ok (by omega),bS,e',Bool.false_or]
     exact ih (i+1) (by omega) (by omega)
   ·rw [if_neg (by omega),List.drop_eq_nil_of_le (by show 27≤i; omega)]
    rfl
 rw [r1_res]
 exact L 28 0 (by omega) (by omega)
theorem r1_named_e (w:Wd):r1_named w=some (nm w):=by
 have hcl:∀ c,(cls c=1 ↔ isLet c=true)∧(isLet c=false→(cls c=2 ↔ isDig c=true)):=by
  intro c
  unfold cls
  cases isLet c <;> cases isDig c <;> simp
  split
  ·decide
  ·split <;> decide
 have small:∀ c,wrd c=true→c.toNat<128:=by
  intro c h
  unfold wrd isLet isDig at h
  simp at h
  omega
 have L:∀ (m q:Nat),q≤w.length→w.length<m+q→(w.take q).all wrd=true→(0<q→fst1 w=true)→r1_named_l1 w m q=some (nm w):=by
  intro m
  induction m with
  | zero=>intro q h1 h2; omega
  | succ m ih =>
   intro q h1 h2 h3 h4
   rw [r1_named_l1]
   by_cases c:q<w.length
   ·rw [if_pos c,at_nat,List.getElem?_eq_getElem c,bS,class_e,bS]
    obtain ⟨k1,k2⟩:=hcl w[q]
    have bad:nm w=false→r1_named_j1 w q (r1_named_l1 w m) true=some (nm w):=fun h=>by rw [h]; rfl
    have good:wrd w[q]=true→(q=0→isLet w[q]=true)→r1_named_j1 w q (r1_named_l1 w m) false=some (nm w):=by
     intro hw hq
     rw [r1_named_j1,if_neg (by decide)]
     have e:wd w q=1:=by
      show (Utf8.decode ⟨⟨w⟩⟩ q).2=1
      rw [decode_ascii ⟨⟨w⟩⟩ q c (small _ hw)]
     rw [e]
     refine ih (q+1) (by omega) (by omega) ?_ fun _=>?_
     ·rw [List.take_succ_eq_append_getElem c,List.all_append,h3]
      simp [hw]
     ·rcases Nat.eq_zero_or_pos q with h | h
      ·subst h
       cases w with
       | nil=>rfl
       | cons d u=>exact hq rfl
      ·exact h4 h
    have nw:wrd w[q]=false→nm w=false:=fun h=>by
     have:w.all wrd=false:=List.all_eq_false.2 ⟨_,List.getElem_mem c,by simp [h]⟩
     rw [nm,this]
     simp
    by_cases c1:cls w[q]=1
    ·rw [if_neg (by simpa using c1)]
     have:=k1.1 c1
     exact good (by rw [wrd,this]; rfl) fun _=>this
    ·rw [if_pos c1]
     have hl:isLet w[q]=false:=by
      cases h:isLet w[q] with
      | false=>rfl
      | true=>exact absurd (k1.2 h) c1
     by_cases c2:cls w[q]=2
     ·have hd:=(k2 hl).1 c2
      rw [if_neg (by simpa using c2)]
      by_cases h0:q=0
      ·rw [decide_eq_true (by omega)]
       refine bad ?_
       subst h0
       cases w with
       | nil=>simp at c
       | cons d u =>
        have:isLet d=false:=hl
        rw [nm,fst1,this]
        simp
      ·rw [decide_eq_false (by omega)]
       exact good (by rw [wrd,hd]; simp) fun h=>absurd h h0
     ·rw [if_pos c2]
      refine bad (nw ?_)
      have:isDig w[q]=false:=by
       cases h:isDig w[q] with
       | false=>rfl
       | true=>exact absurd ((k2 hl).2 h) c2
      rw [wrd,hl,this]
      rfl
   ·have hq:q=w.length:=by omega
    subst hq
    rw [List.take_length] at h3
    rw [if_neg c]
    by_cases p:(0:Int)<(w.length:Int)
    ·rw [if_pos p]
     by_cases p2:(w.length:Int)≤12
     ·rw [if_pos p2,res_e,bS,nm,h3,h4 (by omega),decide_eq_true (by omega),decide_eq_true (by omega)]
      simp
     ·rw [if_neg p2,nm,decide_eq_false (show ¬ w.length≤12 by omega)]
      simp
    ·rw [if_neg p,nm,decide_eq_false (by omega)]
     simp
 rw [r1_named]
 exact L (w.length+1) 0 (by omega) (by omega) (by simp) (by omega)
end Go.Y
namespace Go.Y
open Go.Wk Go.Xt
theorem bN' {α β:Type} {f:α→Option β}:Option.bind (none:Option α) f=none:=rfl
theorem more_e (k d:Int):(i64 (k+1)=none∧r2_more k d=none∧syn_node k d=none)∨(∃ i,r2_more k d=some (false,i)∧syn_node k d=some (4,i))∨(∃ i,r2_more k d=some (true,i)∧syn_node k d=some (0,i)):=by
 cases h:i64 (k+1) with
 | none=>exact .inl ⟨rfl,by rw [r2_more,h,bN'],by rw [syn_node,h,bN']⟩
 | some i =>
  rw [r2_more,syn_node,h,bS,bS]
  by_cases c:i≤2000
  ·rw [if_pos c,if_neg (by omega)]
   by_cases c2:d≤40
   ·rw [decide_eq_true c2,decide_eq_false (by omega)]
    exact .inr (.inr ⟨i,rfl,rfl⟩)
   ·rw [decide_eq_false c2,decide_eq_true (by omega)]
    exact .inr (.inl ⟨i,rfl,rfl⟩)
  ·rw [if_neg c,if_pos (by omega)]
   exact .inr (.inl ⟨i,rfl,rfl⟩)
theorem r2_kids_e {k:Int} (h1:1≤k) (h2:k≤24):r2_kids k=some (kidN k):=by
 have:k=1∨k=2∨k=3∨k=4∨k=5∨k=6∨k=7∨k=8∨k=9∨k=10∨k=11∨k=12∨k=13∨k=14∨k=15∨k=16∨k=17∨k=18∨k=19∨k=20∨k=21∨k=22∨k=23∨k=24:=by omega
 rcases this with rfl | rfl | rfl | rfl | rfl | rfl | rfl | rfl | rfl | rfl | rfl | rfl | rfl | rfl | rfl | rfl | rfl | rfl | rfl | rfl | rfl | rfl | rfl | rfl <;> rfl
theorem kidN_neg {k:Int} (h1:1≤k) (h2:k≤24):kidN k<0 ↔ k=19∨k=22:=by
 have:k=1∨k=2∨k=3∨k=4∨k=5∨k=6∨k=7∨k=8∨k=9∨k=10∨k=11∨k=12∨k=13∨k=14∨k=15∨k=16∨k=17∨k=18∨k=19∨k=20∨k=21∨k=22∨k=23∨k=24:=by omega
 rcases this with rfl | rfl | rfl | rfl | rfl | rfl | rfl | rfl | rfl | rfl | rfl | rfl | rfl | rfl | rfl | rfl | rfl | rfl | rfl | rfl | rfl | rfl | rfl | rfl <;> decide
theorem expr_eq:∀ (n n':Nat) (x:TExpr) (d k:Int),62≤n+d→62≤n'+d→0≤d→d≤41→(R2E_run n').r2_expr k x d=(SynExpr_run n).syn_expr k x d:=by
 intro n
 induction n with
 | zero=>intro n' x d k h0 h0' h1 h2; omega
 | succ n ih =>
  intro n' x d k h0 h0' h1 h2
  obtain ⟨n',rfl⟩:∃ m,n'=m+1:=⟨n' - 1,by omega⟩
  show r2_expr (R2E_run n') k x d=syn_expr n (SynExpr_run n) k x d
  rw [r2_expr,syn_expr]
  rcases more_e k d with ⟨-,e1,e2⟩ | ⟨i,e1,e2⟩ | ⟨i,e1,e2⟩
  ·rw [e1,e2,bN',bN']
  ·rw [e1,e2,bS,bS,if_neg (show ¬ ((false,i):Bool×Int).1=true by simp),if_pos (show ((4,i):Int×Int).1≠0 by simp)]
  ·rw [e1,e2,bS,bS,if_pos rfl,if_neg (show ¬ ((0,i):Int×Int).1≠0 by simp)]
   by_cases hd:d=41
   ·subst hd
    exfalso
    rw [syn_node] at e2
    cases h:i64 (k+1) with
    | none=>rw [h,bN'] at e2; cases e2
    | some j =>
     rw [h,bS,decide_eq_true (by decide)] at e2
     split at e2 <;> cases e2
   have hn:20≤n:=by omega
   have L:∀ (m:Nat) (j q:Int),r2_expr_l1 (R2E_run n') x d m j q=syn_expr_l1 (SynExpr_run n) x d m j q:=by
    intro m
    induction m with
    | zero=>intro j q; rfl
    | succ m ihm =>
     intro j q
     rw [r2_expr_l1,syn_expr_l1]
     split
     ·congr 1
      funext y
      rw [i64_ok (by omega),bS,bS,ih n' y (d+1) q (by omega) (by omega) (by omega) (by omega)]
      congr 1
      funext r
      split
      ·rfl
      ·congr 1
       funext j'
       exact ihm j' r.2
     ·rfl
   have J6:∀ b,r2_expr_j4 (R2E_run n') x d (true,i) b=syn_expr_j6 (SynExpr_run n) x d (0,i) b:=by
    intro b
    cases b with
    | true=>rfl
    | false=>rw [r2_expr_j4,syn_expr_j6]; exact L _ _ _
   have J1:∀ b,(b=false→1≤x.Kind∧x.Kind≤24)→r2_expr_j1 (R2E_run n') x d (true,i) b=syn_expr_j1 n (SynExpr_run n) x d (0,i) b:=by
    intro b hb
    cases b with
    | true=>rfl
    | false =>
     obtain ⟨k1,k2⟩:=hb rfl
     have hk2:=kidN_le x.Kind
     have J4:∀ b,r2_expr_j3 (R2E_run n') x d (true,i) b=syn_expr_j4 (SynExpr_run n) x d (0,i) (kidN x.Kind) b:=by
      intro b
      cases b with
      | true=>rfl
      | false =>
       rw [r2_expr_j3,syn_expr_j4]
       simp only [Bool.false_eq_true,if_false]
       rw [r2_kids_e k1 k2,bS]
       by_cases c:0≤kidN x.Kind
       ·rw [if_pos c,if_pos c]
        by_cases c2:(x.Kids.length:Int)≠kidN x.Kind
        ·rw [if_pos c2,decide_eq_true c2,J6]
         rfl
        ·rw [if_neg c2,decide_eq_false c2,syn_expr_j5,if_neg (by decide),if_neg (by omega),J6,decide_eq_false (by omega)]
       ·rw [if_neg c,if_neg c,syn_expr_j5,if_neg (by decide),if_pos (by omega),J6]
     have J3:r2_expr_j2 (R2E_run n') x d (true,i) false=syn_expr_j3 n (SynExpr_run n) x d (0,i) (kidN x.Kind) false:=by
      have hneg:=kidN_neg k1 k2
      rw [r2_expr_j2,syn_expr_j3]
      simp only [Bool.false_eq_true,if_false,r1_named_e,lex_named_e hn,bS,J4]
      by_cases c3:x.Kind=3
      ·rw [if_pos c3,if_pos c3]
      rw [if_neg c3,if_neg c3]
      by_cases c20:x.Kind=20
      ·rw [if_pos c20,if_pos c20]
      rw [if_neg c20,if_neg c20]
      by_cases c19:x.Kind=19
      ·rw [if_pos c19,if_pos (hneg.2 (.inl c19))]
      rw [if_neg c19]
      by_cases c22:x.Kind=22
      ·rw [if_pos c22,if_pos (hneg.2 (.inr c22))]
      rw [if_neg c22,if_neg (fun h=>by rcases hneg.1 h with h | h; exact c19 h; exact c22 h)]
     have T:r2_expr_j2 (R2E_run n') x d (true,i) true=some (3,i):=rfl
     have T':syn_expr_j2 n (SynExpr_run n) x d (0,i) (kidN x.Kind) true=some (3,i):=rfl
     have T'':syn_expr_j3 n (SynExpr_run n) x d (0,i) (kidN x.Kind) true=some (3,i):=rfl
     have E2:syn_expr_j2 n (SynExpr_run n) x d (0,i) (kidN x.Kind) false=(if x.Kind=2 then (if x.N≠0 then syn_expr_j3 n (SynExpr_run n) x d (0,i) (kidN x.Kind) (decide (x.N≠1)) else syn_expr_j3 n (SynExpr_run n) x d (0,i) (kidN x.Kind) false) else syn_expr_j3 n (SynExpr_run n) x d (0,i) (kidN x.Kind) false):=rfl
     rw [r2_expr_j1,syn_expr_j1]
     simp only [Bool.false_eq_true,if_false]
     rw [syn_kids_t,bS]
     by_cases c1:x.Kind=1
     ·rw [if_pos c1,if_pos c1,if_neg (show ¬ x.Kind=2 by omega)]
      by_cases p1:x.N<0
      ·rw [if_pos p1,if_pos p1,T,T']
      rw [if_neg p1,if_neg p1]
      by_cases p2:(999999999999999:Int)<x.N
      ·rw [if_pos p2,decide_eq_true p2,T,T']
      ·rw [if_neg p2,decide_eq_false p2,E2,if_neg (show ¬ x.Kind=2 by omega),J3]
     rw [if_neg c1,if_neg c1,E2]
     by_cases c2:x.Kind=2
     ·rw [if_pos c2,if_pos c2]
      by_cases p1:x.N<0
      ·rw [if_pos p1,if_pos (by omega),decide_eq_true (by omega),T,T'']
      rw [if_neg p1]
      by_cases p0:x.N≠0
      ·rw [if_pos p0]
       by_cases p2:(1:Int)<x.N
       ·rw [decide_eq_true p2,decide_eq_true (by omega),T,T'']
       ·rw [decide_eq_false p2,decide_eq_false (by omega),J3]
      ·rw [if_neg p0,decide_eq_false (by omega),J3]
     ·rw [if_neg c2,if_neg c2,J3]
   by_cases c:x.Kind<1
   ·rw [if_pos c,if_pos c]
    exact J1 true (fun h=>by cases h)
   ·rw [if_neg c,if_neg c]
    exact J1 _ (fun h=>by have:=of_decide_eq_false h; omega)
theorem stats_eq:∀ (n n':Nat) (l:List TStat) (d k:Int),2*(42 - d)+65≤n→(42 - d)+65≤n'→0≤d→d≤41→(R2S_run n').r2_stats k l d=(SynStat_run n).syn_stats k l d:=by
 intro n
 induction n using Nat.strongRecOn with
 | _ n ih =>
  intro n' l d k h0 h0' h1 h2
  obtain ⟨n,rfl⟩:∃ m,n=m+2:=⟨n - 2,by omega⟩
  obtain ⟨n',rfl⟩:∃ m,n'=m+1:=⟨n' - 1,by omega⟩
  show r2_stats n' (R2S_run n') k l d=syn_stats (SynStat_run (n+1)) k l d
  rw [r2_stats,syn_stats]
  by_cases c50:(50:Int)<(l.length:Int)
  ·rw [if_pos c50,if_pos c50]
  rw [if_neg c50,if_neg c50]
  have hn:20≤n:=by omega
  have S:∀ (x:TStat) (i k:Int) (K:Int→Int→Option (Int×Int)),((r2_more k d).bind fun r146=>if r146.1=true then (if x.Kind<1 then r2_stats_j1 n' (R2S_run n') d i x r146 K true else r2_stats_j1 n' (R2S_run n') d i x r146 K (decide ((9:Int)<x.Kind))) else some (4,r146.2)) =
    (syn_stat n (SynStat_run n) k x d).bind fun r=>if r.1≠0 then some (r.1,r.2) else (i64 (i+1)).bind fun j=>K j r.2:=by
   intro x i k K
   rw [syn_stat]
   have fin:∀ q:Int,((some ((0:Int),q):Option (Int×Int)).bind fun r=>if r.1≠0 then some (r.1,r.2) else (i64 (i+1)).bind fun j=>K j r.2)=(i64 (i+1)).bind fun j=>K j q:=fun q=>by rw [bS,if_neg (by simp)]
   have bad:∀ e q:Int,e≠0→((some (e,q):Option (Int×Int)).bind fun r=>if r.1≠0 then some (r.1,r.2) else (i64 (i+1)).bind fun j=>K j r.2)=some (e,q):=fun e q h=>by rw [bS,if_pos h]
   rcases more_e k d with ⟨-,e1,e2⟩ | ⟨q,e1,e2⟩ | ⟨q,e1,e2⟩
   ·rw [e1,e2]; rfl
   ·rw [e1,e2,bS,bS,if_neg (show ¬ ((false,q):Bool×Int).1=true by simp),if_pos (show ((4,q):Int×Int).1≠0 by simp),bad 4 q (by decide)]
   ·rw [e1,e2,bS,bS,if_pos rfl,if_neg (show ¬ ((0,q):Int×Int).1≠0 by simp)]
    by_cases hd:d=41
    ·subst hd
     exfalso
     rw [syn_node] at e2
     cases h:i64 (k+1) with
     | none=>rw [h,bN'] at e2; cases e2
     | some j =>
      rw [h,bS,decide_eq_true (by decide)] at e2
      split at e2 <;> cases e2
    have J4:∀ z:Int,r2_stats_j4 (R2S_run n') d i x K z=(syn_stat_j4 (SynStat_run n) x d z).bind fun r=>if r.1≠0 then some (r.1,r.2) else (i64 (i+1)).bind fun j=>K j r.2:=by
     intro z
     rw [r2_stats_j4,syn_stat_j4]
     by_cases c3:x.Kind=3
     ·rw [if_pos c3,if_pos c3,i64_ok (by omega),bS,bS,ih n (by omega) n' x.Else (d+1) z (by omega) (by omega) (by omega) (by omega)]
      cases (SynStat_run n).syn_stats z x.Else (d+1) with
      | none=>rfl
      | some r=>rfl
     ·rw [if_neg c3,if_neg c3,fin]
    have J3:∀ (r:Int×Int) b,r2_stats_j3 (R2S_run n') d i x r K b=(syn_stat_j3 (SynStat_run n) x d r b).bind fun r=>if r.1≠0 then some (r.1,r.2) else (i64 (i+1)).bind fun j=>K j r.2:=by
     intro r b
     cases b with
     | false=>exact J4 r.2
     | true =>
      rw [r2_stats_j3,syn_stat_j3,if_pos rfl,if_pos rfl,i64_ok (by omega),bS,bS,ih n (by omega) n' x.Body (d+1) r.2 (by omega) (by omega) (by omega) (by omega)]
      cases (SynStat_run n).syn_stats r.2 x.Body (d+1) with
      | none=>rfl
      | some r' =>
       rw [bS,bS]
       by_cases c:r'.1≠0
       ·rw [if_pos c,if_pos c,bad _ _ c]
       ·rw [if_neg c,if_neg c]
        exact J4 r'.2
    have J2:∀ b,r2_stats_j2 n' (R2S_run n') d i x (true,q) K b=(syn_stat_j2 n (SynStat_run n) x d (0,q) b).bind fun r=>if r.1≠0 then some (r.1,r.2) else (i64 (i+1)).bind fun j=>K j r.2:=by
     intro b
     cases b with
     | true=>rfl
     | false =>
      rw [r2_stats_j2,syn_stat_j2]
      simp only [Bool.false_eq_true,if_false]
      by_cases c6:x.Kind=6
      ·rw [if_pos c6,if_pos c6,fin]
      rw [if_neg c6,if_neg c6,i64_ok (by omega),bS,bS,expr_eq n n' x.X (d+1) q (by omega) (by omega) (by omega) (by omega)]
      cases (SynExpr_run n).syn_expr q x.X (d+1) with
      | none=>rfl
      | some r' =>
       rw [bS,bS]
       by_cases c:r'.1≠0
       ·rw [if_pos c,if_pos c,bad _ _ c]
       ·rw [if_neg c,if_neg c]
        by_cases c3:x.Kind=3
        ·rw [if_pos c3,if_pos c3]
         exact J3 r' true
        ·rw [if_neg c3,if_neg c3]
         exact J3 r' _
    have J1:∀ b,r2_stats_j1 n' (R2S_run n') d i x (true,q) K b=(syn_stat_j1 n (SynStat_run n) x d (0,q) b).bind fun r=>if r.1≠0 then some (r.1,r.2) else (i64 (i+1)).bind fun j=>K j r.2:=by
     intro b
     cases b with
     | true=>rfl
     | false =>
      rw [r2_stats_j1,syn_stat_j1]
      simp only [Bool.false_eq_true,if_false,r1_named_e,lex_named_e hn,bS,J2]
      by_cases c1:x.Kind=1
      ·rw [if_pos c1,if_pos c1]
      rw [if_neg c1,if_neg c1]
      by_cases c2:x.Kind=2
      ·rw [if_pos c2,if_pos c2]
      rw [if_neg c2,if_neg c2]
      by_cases c7:x.Kind=7
      ·rw [if_pos c7,if_pos c7]
      ·rw [if_neg c7,if_neg c7]
    by_cases c:x.Kind<1
    ·rw [if_pos c,if_pos c]
     exact J1 true
    ·rw [if_neg c,if_neg c]
     exact J1 _
  have L:∀ (m:Nat) (j q:Int),r2_stats_l1 n' (R2S_run n') l d m j q=syn_stats_l1 (SynStat_run (n+1)) l d m j q:=by
   intro m
   induction m with
   | zero=>intro j q; rfl
   | succ m ihm =>
    intro j q
    rw [r2_stats_l1,syn_stats_l1]
    split
    ·congr 1
     funext y
     rw [S]
     show _=Option.bind (syn_stat n (SynStat_run n) q y d) _
     congr 1
     funext r
     split
     ·rfl
     ·congr 1
      funext j'
      exact ihm j' r.2
    ·rfl
  exact L _ _ _
theorem typ_eq {fu:Nat} (hf:20≤fu) (t:TType):r2_type t=syn_typ fu t:=by
 rw [r2_type,syn_typ]
 have J:∀ b,r2_type_j1 t b=syn_typ_j1 fu t b:=by
  intro b
  cases b with
  | true=>rfl
  | false =>
   rw [r2_type_j1,syn_typ_j1]
   simp only [Bool.false_eq_true,if_false,r1_named_e,lex_named_e hf,bS]
   rfl
 rw [J,J]
theorem def_eq {fu:Nat} (hf:200≤fu) (x:TDef) (k:Int):r2_def fu k x=syn_def fu k x:=by
 rw [r2_def,syn_def]
 rcases more_e k 1 with ⟨-,e1,e2⟩ | ⟨q,e1,e2⟩ | ⟨q,e1,e2⟩
 ·rw [e1,e2]; rfl
 ·rw [e1,e2,bS,bS,if_neg (show ¬ ((false,q):Bool×Int).1=true by simp),if_pos (show ((4,q):Int×Int).1≠0 by simp)]
 ·rw [e1,e2,bS,bS,if_pos rfl,if_neg (show ¬ ((0,q):Int×Int).1≠0 by simp)]
  have J1:∀ b,(b=false→1≤x.Kind∧x.Kind≤4)→r2_def_j1 fu x (true,q) b=syn_def_j1 fu x (0,q) b:=by
   intro b hb
   cases b with
   | true=>rfl
   | false =>
    obtain ⟨k1,k4⟩:=hb rfl
    have J5:r2_def_j5 fu x (true,q)=syn_def_j5 fu x (0,q):=by
     rw [r2_def_j5,syn_def_j5]
     by_cases c:x.Kind=1
     ·rw [if_pos c,if_neg (show ¬ x.Kind≠1 by omega)]
      have J6:∀ b,r2_def_j6 fu x (true,q) b=syn_def_j6 (0,q) b:=by
       intro b
       cases b with
       | true=>rfl
       | false=>rw [r2_def_j6]; simp only [Bool.false_eq_true,if_false]; rw [if_pos c]; rfl
      rw [J6,J6]
     ·rw [if_neg c,if_pos c,r2_def_j6]
      simp only [Bool.false_eq_true,if_false]
      rw [if_neg c,stats_eq fu fu x.Body 2 q (by omega) (by omega) (by omega) (by omega)]
    have J4:r2_def_j4 fu x (true,q)=syn_def_j4 fu x (0,q):=by
     rw [r2_def_j4,syn_def_j4,typ_eq (by omega:20≤fu),J5]
     by_cases c:x.Kind<4
     ·rw [if_pos c,if_pos (by omega)]
     ·rw [if_neg c,if_neg (by omega)]
    have J3:r2_def_j3 fu x (true,q)=syn_def_j3 fu x (0,q):=by
     rw [r2_def_j3,syn_def_j3,typ_eq (by omega:20≤fu),J4]
    have L:∀ (m:Nat) (i:Int),r2_def_l1 fu x (true,q) m i=syn_def_l1 fu x (0,q) m i:=by
     intro m
     induction m with
     | zero=>intro i; rfl
     | succ m ih =>
      intro i
      rw [r2_def_l1,syn_def_l1,J3]
      simp only [typ_eq (by omega:20≤fu),r1_named_e,lex_named_e (by omega:20≤fu),bS,ih]
    have J2:∀ b,r2_def_j2 fu x (true,q) b=syn_def_j2 fu x (0,q) b:=by
     intro b
     cases b with
     | false=>exact J3
     | true =>
      rw [r2_def_j2,syn_def_j2,L,J3]
      try rfl
    rw [r2_def_j1,syn_def_j1]
    simp only [Bool.false_eq_true,if_false,r1_named_e,lex_named_e (by omega:20≤fu),bS,J2]
  by_cases c:x.Kind<1
  ·rw [if_pos c,if_pos c]
   exact J1 true (fun h=>by cases h)
  ·rw [if_neg c,if_neg c]
   exact J1 _ (fun h=>by have:=of_decide_eq_false h; omega)
theorem wrong_eq {fu:Nat} (hf:200≤fu) (l:List TDef):r2_wrong fu l=syn_wrong fu l:=by
 rw [r2_wrong,syn_wrong]
 have L:∀ (m:Nat) (i k:Int),r2_wrong_l1 fu l m i k=syn_wrong_l1 fu l m i k:=by
  intro m
  induction m with
  | zero=>intro i k; rfl
  | succ m ih =>
   intro i k
   rw [r2_wrong_l1,syn_wrong_l1]
   simp only [def_eq hf,ih]
 rw [L]
end Go.Y
namespace Go.Y
open Go.Wk Go.Xt
def wd (t:TType):List UInt8:=if t.Kind=1 then [110,117,109] else if t.Kind=2 then [98,111,111,108] else 61::t.Gen
theorem nmd_le {w:List UInt8} (h:Nmd w):w.length≤12:=by
 have h:=h 20 (Nat.le_refl _)
 rw [lex_named] at h
 have bad:lex_named_j1 20 w true≠some true:=fun h=>by cases h
 split at h
 ·exact absurd h bad
 ·split at h
  ·exact absurd h bad
  ·omega
theorem r3_word_e {t:TType} (h:TyF t):r3_word t=some (wd t):=by
 obtain ⟨⟨h1,h2⟩,h3⟩:=h
 rw [r3_word,wd]
 by_cases c1:t.Kind=1
 ·rw [if_pos c1,if_pos c1]
 rw [if_neg c1,if_neg c1]
 by_cases c2:t.Kind=2
 ·rw [if_pos c2,if_pos c2]
 rw [if_neg c2,if_neg c2]
 have:=nmd_le (h3 (by omega))
 rw [cat,if_pos (by simp; omega),bS]
 rfl
def BOk (t:TType):Prop:=bareT t=t∧TyF t
theorem TyF.bok {t:TType} (h:TyF t):BOk (bareT t):=by
 obtain ⟨⟨h1,h2⟩,h3⟩:=h
 unfold bareT
 by_cases c:t.Kind≠3
 ·rw [if_pos c]
  refine ⟨?_,⟨h1,h2⟩,fun e=>absurd e c⟩
  unfold bareT
  rw [if_pos c]
 ·rw [if_neg c]
  refine ⟨?_,⟨h1,h2⟩,h3⟩
  unfold bareT
  rw [if_neg c]
theorem wd_bare {t:TType} (h:OkT t):wd (bareT t)=wd t:=by
 unfold bareT
 by_cases c:t.Kind≠3
 ·rw [if_pos c,wd,wd]
  dsimp only
  obtain ⟨h1,h2⟩:=h
  by_cases c1:t.Kind=1
  ·rw [if_pos c1,if_pos c1]
  ·rw [if_neg c1,if_neg c1,if_pos (by omega),if_pos (by omega)]
 ·rw [if_neg c]
theorem BOk.case {t:TType} (h:BOk t):t=⟨1,[]⟩∨t=⟨2,[]⟩∨∃ g,t=⟨3,g⟩∧Nmd g:=by
 obtain ⟨h0,⟨h1,h2⟩,h3⟩:=h
 obtain ⟨k,g⟩:=t
 dsimp only at h1 h2 h3
 have:k=1∨k=2∨k=3:=by omega
 rcases this with rfl | rfl | rfl
 ·exact .inl h0.symm
 ·exact .inr (.inl h0.symm)
 ·exact .inr (.inr ⟨g,rfl,h3 rfl⟩)
theorem bok1:BOk ⟨1,[]⟩:=⟨rfl,⟨by decide,by decide⟩,fun h=>absurd h (by decide)⟩
theorem bok2:BOk ⟨2,[]⟩:=⟨rfl,⟨by decide,by decide⟩,fun h=>absurd h (by decide)⟩
theorem wd_inj {a b:TType} (ha:BOk a) (hb:BOk b):wd a=wd b ↔ a=b:=by
 constructor
 ·intro h
  rcases ha.case with rfl | rfl | ⟨g,rfl,-⟩ <;> rcases hb.case with rfl | rfl | ⟨g',rfl,-⟩ <;> simp [wd] at h ⊢
  exact h
 ·rintro rfl; rfl
theorem eqT (a b:TType):andL [(decide (a.Kind=b.Kind)),(decide (a.Gen=b.Gen))]=decide (a=b):=by
 obtain ⟨k,g⟩:=a
 obtain ⟨k',g'⟩:=b
 simp [andL]
theorem wd_at {t:TType} (h:BOk t):∃ c:UInt8,at_ (wd t) 0=some c∧(((c.toNat:Int)=61) ↔ t.Kind=3):=by
 rcases h.case with rfl | rfl | ⟨g,rfl,-⟩
 ·exact ⟨110,rfl,by decide⟩
 ·exact ⟨98,rfl,by decide⟩
 ·exact ⟨61,rfl,by simp⟩
def z0:TDef:=TDef.mk 0 [] (TType.mk 0 []) (TType.mk 0 []) 0 ([]:List TParam) ([]:List TStat)
def fnd (k:Int) (n:List UInt8):List TDef→TDef×Bool
 | []=>(z0,false)
 | d::t=>if d.Kind=k∧d.Name=n then (d,true) else fnd k n t
theorem find_l1 {l:List TDef} (hl:l.length≤1000) (k:Int) (n:List UInt8):∀ (m i:Nat),i≤l.length→l.length<m+i→r3_find_l1 l k n m i=some (fnd k n (l.drop i)):=by
 intro m
 induction m with
 | zero=>intro i h1 h2; omega
 | succ m ih =>
  intro i h1 h2
  rw [r3_find_l1]
  by_cases c:i<l.length
  ·rw [if_pos (by omega),at_nat,List.getElem?_eq_getElem c,bS,List.drop_eq_getElem_cons c,fnd]
   have nx:(i64 ((i:Int)+1)).bind (fun i=>r3_find_l1 l k n m i)=some (fnd k n (l.drop (i+1))):=by
    rw [i64_ok (by omega),bS]
    exact ih (i+1) c (by omega)
   by_cases c1:l[i].Kind=k
   ·rw [if_pos c1,r3_find_j1]
    by_cases c2:l[i].Name=n
    ·rw [if_pos (by simpa using c2),if_pos ⟨c1,c2⟩]
    ·rw [if_neg (by simpa using c2),if_neg (fun h=>c2 h.2)]
     exact nx
   ·rw [if_neg c1,r3_find_j1,if_neg (by decide),if_neg (fun h=>c1 h.1)]
    exact nx
  ·rw [if_neg (by omega),List.drop_eq_nil_of_le (by omega)]
   rfl
theorem fnd_spec (k:Int) (n:List UInt8):∀ l:List TDef,(∃ d ∈ l,d.Kind=k∧d.Name=n∧fnd k n l=(d,true))∨((∀ d ∈ l,¬ (d.Kind=k∧d.Name=n))∧fnd k n l=(z0,false))
 | []=>.inr ⟨fun d h=>(by cases h),rfl⟩
 | a::l=>by
  rw [fnd]
  by_cases c:a.Kind=k∧a.Name=n
  ·rw [if_pos c]
   exact .inl ⟨a,List.mem_cons_self ..,c.1,c.2,rfl⟩
  ·rw [if_neg c]
   rcases fnd_spec k n l with ⟨d,h1,h2,h3,h4⟩ | ⟨h1,h2⟩
   ·exact .inl ⟨d,List.mem_cons_of_mem _ h1,h2,h3,h4⟩
   ·refine .inr ⟨fun d hd=>?_,h2⟩
    rcases List.mem_cons.1 hd with rfl | hd
    ·exact c
    ·exact h1 d hd
def fz (o:Option TDef) (k:Int):TDef×Bool:=if isK o k=true then (o.getD z0,true) else (z0,false)
structure Ctx (l:List TDef) (p:TSp):Prop where
 len:l.length≤30
 only:∀ n d,mget p.named n=some d→d ∈ l∧d.Name=n
 nm:∀ d ∈ l,mget p.named d.Name=some d
 fm:∀ d ∈ l,FmD d
theorem Ctx.find {l:List TDef} {p:TSp} (C:Ctx l p) (k:Int) (n:List UInt8):r3_find l k n=some (fz (mget p.named n) k):=by
 have hl:=C.len
 have:=find_l1 (l:=l) (by omega) k n (l.length+1) 0 (by omega) (by omega)
 rw [r3_find,show (0:Int)=((0:Nat):Int) from rfl,this,List.drop_zero]
 rcases fnd_spec k n l with ⟨d,h1,h2,h3,h4⟩ | ⟨h1,h2⟩
 ·have:=C.nm d h1
  rw [h3] at this
  rw [h4,this,fz,if_pos (isK_i h2)]
  rfl
 ·rw [h2,fz]
  by_cases c:isK (mget p.named n) k=true
  ·obtain ⟨d,e1,e2⟩:=isK_t c
   obtain ⟨m1,m2⟩:=C.only _ _ e1
   exact absurd ⟨e2,m2⟩ (h1 d m1)
  ·rw [if_neg c]
def lkB (n:List UInt8):Bl→Option TType
 | []=>none
 | m::B=>match lkB n B with
  | some t=>some t
  | none=>mget m n
def lkV (n:List UInt8):List TYieldref3Name→Option (List UInt8)
 | []=>none
 | v::V=>match lkV n V with
  | some t=>some t
  | none=>if v.Name=n then some v.Word else none
theorem lkB_app (n:List UInt8) (m:List (List UInt8×TType)):∀ B:Bl,lkB n (B++[m])=match mget m n with | some t=>some t | none=>lkB n B
 | []=>by
  rw [List.nil_append,lkB,lkB]
  cases mget m n <;> rfl
 | a::B=>by
  rw [List.cons_append,lkB,lkB_app n m B]
  cases h:mget m n with
  | some t=>rfl
  | none=>simp only; rw [lkB]
theorem lkV_app (n:List UInt8) (v:TYieldref3Name):∀ V:List TYieldref3Name,lkV n (V++[v])=if v.Name=n then some v.Word else lkV n V
 | []=>rfl
 | a::V=>by
  rw [List.cons_append,lkV,lkV_app n v V]
  by_cases c:v.Name=n
  ·rw [if_pos c,if_pos c]
  ·rw [if_neg c,if_neg c,lkV]
theorem sema_look_e {p:TSp} {B:Bl} (hl:B.length≤100) (fu:Nat) (hf:110≤fu) (d:TDef) (name:List UInt8):sema_look fu p d B name=some (match lkB name B with | some t=>(t,true) | none=>(⟨0,[]⟩,false)):=by
 have L:∀ (n j:Nat),j≤B.length→j<n→sema_look_l1 name B n ((j:Int) - 1)=some (match lkB name (B.take j) with | some t=>(t,true) | none=>(⟨0,[]⟩,false)):=by
  intro n
  induction n with
  | zero=>intro j h1 h2; omega
  | succ n ih =>
   intro j h1 h2
   rw [sema_look_l1]
   cases j with
   | zero=>rw [if_neg (by omega)]; rfl
   | succ j =>
    have e:((j+1:Nat):Int) - 1=(j:Int):=by omega
    rw [e,if_pos (by omega),at_nat,List.getElem?_eq_getElem (show j<B.length by omega),bS,List.take_succ_eq_append_getElem (by omega),lkB_app]
    cases h:mget B[j] name with
    | none =>
     rw [if_neg (by simp),i64_ok (by omega),bS]
     exact ih j (by omega) (by omega)
    | some t=>rfl
 rw [sema_look,i64_ok (by omega),bS,L fu B.length (by omega) (by omega),List.take_of_length_le (by omega)]
theorem r3_look_e {V:List TYieldref3Name} {fu:Nat} (hl:V.length<fu) (hv:V.length≤4294967296) (name:List UInt8):r3_look fu V name=some (match lkV name V with | some t=>(t,true) | none=>([],false)):=by
 have L:∀ (n j:Nat),j≤V.length→j<n→r3_look_l1 V name n ((j:Int) - 1)=some (match lkV name (V.take j) with | some t=>(t,true) | none=>([],false)):=by
  intro n
  induction n with
  | zero=>intro j h1 h2; omega
  | succ n ih =>
   intro j h1 h2
   rw [r3_look_l1]
   cases j with
   | zero=>rw [if_neg (by omega)]; rfl
   | succ j =>
    have e:((j+1:Nat):Int) - 1=(j:Int):=by omega
    rw [e,if_pos (by omega),at_nat,List.getElem?_eq_getElem (show j<V.length by omega),bS,bS,List.take_succ_eq_append_getElem (by omega),lkV_app]
    by_cases c:V[j].Name=name
    ·rw [if_pos c,if_pos c]
    ·rw [if_neg c,if_neg c,i64_ok (by omega),bS]
     exact ih j (by omega) (by omega)
 rw [r3_look,i64_ok (by omega),bS,L fu V.length (by omega) (by omega),List.take_of_length_le (by omega)]
structure Rel (B:Bl) (V:List TYieldref3Name):Prop where
 eq:∀ n,lkV n V=(lkB n B).map wd
 ok:∀ n t,lkB n B=some t→BOk t
theorem FmE.ok:∀ (k:Nat) (x:TExpr),FmE k x→OkE k x
 | 0,_,h=>h
 | k+1,x,h=>⟨h.1,h.2.1,h.2.2.1,fun y hy=>FmE.ok k y (h.2.2.2.2.2.2 y hy)⟩
end Go.Y
namespace Go.Y
open Go.Wk Go.Xt
theorem ff:¬ (false=true):=by decide
theorem sema_num_e:sema_num=some ⟨1,[]⟩:=rfl
theorem sema_boolean_e:sema_boolean=some ⟨2,[]⟩:=rfl
def EX (l:List TDef) (p:TSp) (d:TDef) (B:Bl) (V:List TYieldref3Name) (k:Nat):Prop:=∀ (x:TExpr) (n m:Nat),FmE k x→3*k+110≤n→5*k+3100≤m→∃ t w e,(SemaE_run n).sema_expr p d B x=some (t,e)∧(R3T_run m).r3_type l d V x=some (w,e)∧(e=0→w=wd t∧BOk t)
section
variable {l:List TDef} {p:TSp} {d:TDef} {B:Bl} {V:List TYieldref3Name}
theorem typed_te {k:Nat} (H:EX l p d B V k) {x y:TExpr} {i:Nat} {want:TType} (hk:x.Kids[i]?=some y) (hy:FmE k y) (hw:TyF want) {n m:Nat} (hn:3*k+111≤n) (hm:5*k+3102≤m):∃ e,(SemaE_run n).sema_typed p d B y want=some e∧(R3T_run m).r3_must (i:Int) (wd want) l d V x=some e:=by
 obtain ⟨n,rfl⟩:∃ q,n=q+1:=⟨n - 1,by omega⟩
 obtain ⟨m,rfl⟩:∃ q,m=q+2:=⟨m - 2,by omega⟩
 obtain ⟨t,w,e,h1,h2,h3⟩:=H y n m hy (by omega) (by omega)
 have ha:(R3T_run (m+1)).r3_ask (i:Int) l d V x=some (w,e):=by
  show r3_ask (R3T_run m) (i:Int) l d V x=_
  rw [r3_ask,at_nat,hk,bS,h2,bS]
 refine ⟨if e=0∧t≠bareT want then 9 else e,?_,?_⟩
 ·show sema_typed (SemaE_run n) p d B y want=_
  rw [sema_typed,h1,bS]
  dsimp only
  by_cases z:e=0
  ·rw [if_pos z,sema_bare_e,bS,sema_typed_j1_e,eqT]
   by_cases q:t=bareT want
   ·rw [decide_eq_true q,if_neg (show ¬ ((!true)=true) by decide),if_neg (fun h=>h.2 q)]
   ·rw [decide_eq_false q,if_pos (by decide),if_pos ⟨z,q⟩]
  ·rw [if_neg z,sema_typed_j1_e,if_neg ff,if_neg (fun h=>z h.1)]
 ·show r3_must (R3T_run (m+1)) (i:Int) (wd want) l d V x=_
  rw [r3_must,ha,bS]
  dsimp only
  by_cases z:e=0
  ·obtain ⟨rfl,hb⟩:=h3 z
   rw [if_pos z,r3_must_j1]
   have iff:=wd_inj hb hw.bok
   rw [wd_bare hw.1] at iff
   by_cases q:t=bareT want
   ·rw [if_neg (by simpa using iff.2 q),if_neg (fun h=>h.2 q)]
   ·rw [if_pos (show decide (wd t≠wd want)=true from decide_eq_true fun h=>q (iff.1 h)),if_pos ⟨z,q⟩]
  ·rw [if_neg z,r3_must_j1,if_neg ff,if_neg (fun h=>z h.1)]
theorem tyf1:TyF ⟨1,[]⟩:=bok1.2
theorem tyf2:TyF ⟨2,[]⟩:=bok2.2
theorem given_te (C:Ctx l p) (eh:EH p d B) {k:Nat} (H:EX l p d B V k) {x:TExpr} (h6:x.Kids.length≤6) (hkids:∀ y ∈ x.Kids,FmE k y) {kind:Int} (hk:kind=2∨kind=3) {n m:Nat} (hn:3*k+112≤n) (hm:5*k+3103≤m) :
  ∃ od e g,(SemaE_run n).sema_args p d B x kind=some (od,e)∧(R3T_run m).r3_given kind l x l d V x=some (g,e)∧(e=0→od=some g∧mget p.named x.Name=some g∧g.Kind=kind):=by
 obtain ⟨n,rfl⟩:∃ q,n=q+1:=⟨n - 1,by omega⟩
 obtain ⟨m,rfl⟩:∃ q,m=q+1:=⟨m - 1,by omega⟩
 show ∃ od e g,sema_args (SemaE_run n) p d B x kind=_∧r3_given (R3T_run m) kind l x l d V x=_∧_
 rw [sema_args,r3_given,sema_find_e,bS,C.find,bS,fz]
 dsimp only
 by_cases q:isK (mget p.named x.Name) kind=true
 ·obtain ⟨g,hg,hgk⟩:=isK_t q
  obtain ⟨m1,m2⟩:=C.only _ _ hg
  have fm:=C.fm g m1
  obtain ⟨hp6,hps⟩:=fm.ps (by omega)
  rw [if_pos q,if_pos q,if_pos rfl,hg,bS]
  dsimp only [Option.getD]
  by_cases c:(g.Params.length:Int)≠(x.Kids.length:Int)
  ·rw [decide_eq_true c,if_pos c,sema_args_j1,if_pos rfl]
   exact ⟨_,5,_,rfl,rfl,fun h=>absurd h (by decide)⟩
  ·rw [decide_eq_false c,if_neg c,sema_args_j1,if_neg ff]
   show ∃ od e g',(Option.bind (some g) _)=_∧_
   rw [bS]
   have L:∀ (q i:Nat),i≤g.Params.length→g.Params.length<q+i→∃ od e g',sema_args_l1 (SemaE_run n) x p d B (some g,isK (some g) kind) g q i=some (od,e)∧r3_given_l1 (R3T_run m) l d V x (g,true) q i=some (g',e)∧(e=0→od=some g'∧g'=g):=by
    intro q
    induction q with
    | zero=>intro i h1 h2; omega
    | succ q ih =>
     intro i h1 h2
     rw [sema_args_l1,r3_given_l1]
     dsimp only
     by_cases ci:i<g.Params.length
     ·have hik:i<x.Kids.length:=by omega
      have e1:at_ g.Params (i:Int)=some g.Params[i]:=by rw [at_nat,List.getElem?_eq_getElem ci]
      have e2:at_ x.Kids (i:Int)=some x.Kids[i]:=by rw [at_nat,List.getElem?_eq_getElem hik]
      have ht:=(hps _ (List.getElem_mem ci)).2
      obtain ⟨e,r1,r2⟩:=typed_te (n:=n) (m:=m) H (List.getElem?_eq_getElem hik) (hkids _ (List.getElem_mem hik)) ht (by omega) (by omega)
      rw [if_pos (by omega),if_pos (by omega),e1,bS,e2,bS,bS,r1,bS,r3_word_e ht,bS,r2,bS,r3_given_j1]
      by_cases z:e=0
      ·rw [if_neg (by simpa using z),if_neg (by simpa using z),i64_ok (by omega),bS,bS]
       exact ih (i+1) (by omega) (by omega)
      ·rw [if_pos z,if_pos z]
       exact ⟨_,e,_,rfl,rfl,fun h=>absurd h z⟩
     ·rw [if_neg (by omega),if_neg (by omega)]
      exact ⟨_,0,_,rfl,rfl,fun _=>⟨rfl,rfl⟩⟩
   obtain ⟨od,e,g',r1,r2,r3⟩:=L (g.Params.length+1) 0 (by omega) (by omega)
   rw [show ((0:Nat):Int)=0 from rfl] at r1 r2
   rw [r1,r2]
   exact ⟨od,e,g',rfl,rfl,fun z=>by
    obtain ⟨h1,rfl⟩:=r3 z
    exact ⟨h1,rfl,hgk⟩⟩
 ·rw [if_neg q,if_neg q,if_neg ff]
  exact ⟨_,7,_,rfl,rfl,fun h=>absurd h (by decide)⟩
theorem expr_te (C:Ctx l p) (hf:FmD d) (eh:EH p d B) (rl:Rel B V) (hv:V.length≤3000):∀ k,EX l p d B V k:=by
 intro k
 induction k with
 | zero=>intro x n m hx; exact hx.elim
 | succ k H =>
  intro x n m hx hn hm
  obtain ⟨k1,k24,hk,hN,hB,hM,hkids⟩:=hx
  obtain ⟨n,rfl⟩:∃ q,n=q+1:=⟨n - 1,by omega⟩
  obtain ⟨m,rfl⟩:∃ q,m=q+1:=⟨m - 1,by omega⟩
  show ∃ t w e,sema_expr n (SemaE_run n) p d B x=_∧r3_type m (R3T_run m) l d V x=_∧_
  have T:∀ (i:Nat) (y:TExpr) (want:TType),x.Kids[i]?=some y→TyF want→∃ e,(SemaE_run n).sema_typed p d B y want=some e∧(R3T_run m).r3_must (i:Int) (wd want) l d V x=some e:=fun i y want hi hw=>typed_te H hi (hkids y (List.mem_of_getElem? hi)) hw (by omega) (by omega)
  have A:∀ (i:Nat) (y:TExpr) (q:Nat),x.Kids[i]?=some y→3*k+110≤q→∃ t w e,(SemaE_run q).sema_expr p d B y=some (t,e)∧(R3T_run m).r3_ask (i:Int) l d V x=some (w,e)∧(e=0→w=wd t∧BOk t∧TyOk p t):=by
   intro i y q hi hq
   obtain ⟨m',rfl⟩:∃ q,m=q+1:=⟨m - 1,by omega⟩
   have hy:=hkids y (List.mem_of_getElem? hi)
   obtain ⟨t,w,e,r1,r2,r3⟩:=H y q m' hy hq (by omega)
   obtain ⟨t',e',s1,s2⟩:=(sema_t q).expr k p d B y eh (FmE.ok k y hy) hq
   rw [r1] at s1
   obtain ⟨rfl,rfl⟩:t=t'∧e=e':=by simpa using s1
   refine ⟨t,w,e,r1,?_,fun z=>⟨(r3 z).1,(r3 z).2,(s2 z).1⟩⟩
   show r3_ask (R3T_run m') (i:Int) l d V x=_
   rw [r3_ask,at_nat,hi,bS,r2,bS]
  have kone:kidN x.Kind=1→∃ a,x.Kids=[a]:=fun h=>one (by have:=hk.eq (by omega); omega)
  have ktwo:kidN x.Kind=2→∃ a b,x.Kids=[a,b]:=fun h=>two (by have:=hk.eq (by omega); omega)
  rw [sema_expr,r3_type]
  by_cases c1:x.Kind=1
  ·rw [if_pos c1,if_pos c1]
   exact ⟨⟨1,[]⟩,_,0,rfl,rfl,fun _=>⟨rfl,bok1⟩⟩
  rw [if_neg c1,if_neg c1]
  by_cases c2:x.Kind=2
  ·rw [if_pos c2,if_pos c2]
   exact ⟨⟨2,[]⟩,_,0,rfl,rfl,fun _=>⟨rfl,bok2⟩⟩
  rw [if_neg c2,if_neg c2]
  by_cases c3:x.Kind=3
  ·rw [if_pos c3,if_pos c3,sema_look_e eh.bl n (by omega),r3_look_e (by omega) (by omega),bS,bS,rl.eq]
   cases h:lkB x.Name B with
   | none=>exact ⟨⟨1,[]⟩,[],7,rfl,rfl,fun h=>absurd h (by decide)⟩
   | some t=>exact ⟨t,wd t,0,rfl,rfl,fun _=>⟨rfl,rl.ok _ _ h⟩⟩
  rw [if_neg c3,if_neg c3]
  by_cases c4:x.Kind=4
  ·rw [if_pos c4,if_pos c4]
   obtain ⟨a,ha⟩:=kone (by rw [c4]; rfl)
   obtain ⟨e,r1,r2⟩:=T 0 a ⟨1,[]⟩ (by rw [ha]; rfl) tyf1
   refine ⟨⟨1,[]⟩,[110,117,109],e,?_,?_,fun _=>⟨rfl,bok1⟩⟩
   ·rw [ha]
    show ((SemaE_run n).sema_typed p d B a ⟨1,[]⟩).bind (fun r=>some (TType.mk 1 [],r))=_
    rw [r1,bS]
   ·show ((R3T_run m).r3_must ((0:Nat):Int) (wd ⟨1,[]⟩) l d V x).bind _=_
    rw [r2,bS]
  rw [if_neg c4,if_neg c4]
  by_cases c5:x.Kind=5
  ·rw [if_pos c5,if_pos c5]
   obtain ⟨a,ha⟩:=kone (by rw [c5]; rfl)
   obtain ⟨e,r1,r2⟩:=T 0 a ⟨2,[]⟩ (by rw [ha]; rfl) tyf2
   refine ⟨⟨2,[]⟩,[98,111,111,108],e,?_,?_,fun _=>⟨rfl,bok2⟩⟩
   ·rw [ha]
    show ((SemaE_run n).sema_typed p d B a ⟨2,[]⟩).bind (fun r=>some (TType.mk 2 [],r))=_
    rw [r1,bS]
   ·show ((R3T_run m).r3_must ((0:Nat):Int) (wd ⟨2,[]⟩) l d V x).bind _=_
    rw [r2,bS]
  rw [if_neg c5,if_neg c5]
  have E3:(if x.Kind=11 then sema_expr_j3 (SemaE_run n) x p d B (decide (x.Kind=11)) else sema_expr_j3 (SemaE_run n) x p d B (decide (x.Kind=12)))=sema_expr_j3 (SemaE_run n) x p d B (decide (x.Kind=11∨x.Kind=12)):=by
   by_cases c:x.Kind=11
   ·rw [if_pos c,decide_eq_true c,decide_eq_true (.inl c)]
   ·rw [if_neg c]; congr 1; exact decide_eq_decide.2 (by omega)
  have F3:(if x.Kind=11 then r3_type_j1 (R3T_run m) l d V x (decide (x.Kind=11)) else r3_type_j1 (R3T_run m) l d V x (decide (x.Kind=12)))=r3_type_j1 (R3T_run m) l d V x (decide (x.Kind=11∨x.Kind=12)):=by
   by_cases c:x.Kind=11
   ·rw [if_pos c,decide_eq_true c,decide_eq_true (.inl c)]
   ·rw [if_neg c]; congr 1; exact decide_eq_decide.2 (by omega)
  rw [E3,F3,sema_expr_j3,r3_type_j1]
  by_cases c12:x.Kind=11∨x.Kind=12
  ·rw [decide_eq_true c12,if_pos rfl,if_pos rfl]
   obtain ⟨a,b,ha⟩:=ktwo (by rcases c12 with c | c <;> rw [c] <;> rfl)
   obtain ⟨n',rfl⟩:∃ q,n=q+1:=⟨n - 1,by omega⟩
   obtain ⟨t,w,e,r1,r2,r3⟩:=A 0 a n' (by rw [ha]; rfl) (by omega)
   obtain ⟨t',w',e',s1,s2,s3⟩:=A 1 b n' (by rw [ha]; rfl) (by omega)
   show ∃ t w e,(sema_both (SemaE_run n') p d B x).bind _=_∧((R3T_run m).r3_ask ((0:Nat):Int) l d V x).bind _=_∧_
   rw [r2,bS,sema_both,ha,at_0 (by simp),bS]
   dsimp only [List.getElem_cons_zero]
   rw [r1,bS]
   dsimp only
   by_cases z:e=0
   ·obtain ⟨rfl,ht,-⟩:=r3 z
    rw [if_neg (by simpa using z),if_neg (by simpa using z),at_1 (by simp),bS]
    dsimp only [List.getElem_cons_succ,List.getElem_cons_zero]
    rw [s1,bS]
    show ∃ t w e,_=_∧((R3T_run m).r3_ask ((1:Nat):Int) l d V x).bind _=_∧_
    rw [s2,bS]
    dsimp only
    by_cases z':e'=0
    ·obtain ⟨rfl,ht',-⟩:=s3 z'
     have iff:=wd_inj ht ht'
     rw [if_pos z',if_neg (show ¬ e'≠0 by simpa using z'),eqT]
     by_cases q:t=t'
     ·subst q
      obtain ⟨c,e1,e2⟩:=wd_at ht
      rw [decide_eq_true rfl,if_pos rfl,sema_plain_e,bS,sema_both_j1_e,bS,if_neg (show ¬ (wd t≠wd t) by simp),e1,bS,r3_type_j2]
      by_cases k3:t.Kind=3
      ·refine ⟨⟨2,[]⟩,[],9,?_,?_,fun h=>absurd h (by decide)⟩
       ·rw [decide_eq_false (by simpa using k3)]; rfl
       ·rw [if_pos (decide_eq_true (e2.2 k3))]
      ·refine ⟨⟨2,[]⟩,[98,111,111,108],e',?_,?_,fun _=>⟨rfl,bok2⟩⟩
       ·rw [decide_eq_true k3]; rfl
       ·rw [if_neg (by simpa using fun h=>k3 (e2.1 h)),z']
     ·rw [decide_eq_false q,if_neg ff,sema_both_j1_e,bS,if_pos (fun h=>q (iff.1 h))]
      exact ⟨⟨2,[]⟩,[],9,rfl,rfl,fun h=>absurd h (by decide)⟩
    ·rw [if_neg z',if_pos z',sema_both_j1_e,bS]
     exact ⟨⟨2,[]⟩,[],e',rfl,rfl,fun h=>absurd h z'⟩
   ·rw [if_pos z,if_pos z]
    exact ⟨⟨2,[]⟩,[],e,rfl,rfl,fun h=>absurd h z⟩
  rw [decide_eq_false c12,if_neg ff,if_neg ff]
  by_cases c19:x.Kind=19
  ·rw [if_pos c19,if_pos c19]
   obtain ⟨od,e,g,r1,r2,r3⟩:=given_te (n:=n) (m:=m) C eh H hk.le hkids (.inl rfl) (by omega) (by omega)
   rw [r1,bS,r2,bS]
   dsimp only
   by_cases z:e=0
   ·obtain ⟨rfl,h2,h3⟩:=r3 z
    have fm:=C.fm g (C.only _ _ h2).1
    have ty:=fm.ty (by omega)
    rw [if_neg (by simpa using z),if_neg (by simpa using z),bS,sema_bare_e,bS,r3_word_e ty,bS]
    exact ⟨_,_,0,rfl,rfl,fun _=>⟨(wd_bare ty.1).symm,ty.bok⟩⟩
   ·rw [if_pos z,if_pos z]
    exact ⟨⟨1,[]⟩,[],e,rfl,rfl,fun h=>absurd h z⟩
  rw [if_neg c19,if_neg c19]
  by_cases c20:x.Kind=20
  ·rw [if_pos c20,if_neg (show ¬ x.Kind=22 by omega),if_pos c20,sema_find_e,bS,C.find,bS,fz]
   dsimp only
   by_cases q:isK (mget p.named x.Name) 1=true
   ·obtain ⟨g,hg,hgk⟩:=isK_t q
    have fm:=C.fm g (C.only _ _ hg).1
    have ty:=fm.ty (by omega)
    rw [if_pos q,if_pos q,if_pos rfl,hg,bS]
    dsimp only [Option.getD]
    rw [sema_bare_e,bS,r3_word_e ty,bS]
    exact ⟨_,_,0,rfl,rfl,fun _=>⟨(wd_bare ty.1).symm,ty.bok⟩⟩
   ·rw [if_neg q,if_neg q,if_neg ff]
    exact ⟨⟨1,[]⟩,[],7,rfl,rfl,fun h=>absurd h (by decide)⟩
  rw [if_neg c20]
  by_cases c21:x.Kind=21
  ·rw [if_pos c21,if_neg (show ¬ x.Kind=22 by omega),if_neg c20,if_pos c21]
   by_cases d3:d.Kind≠3
   ·rw [if_pos d3,if_pos d3]
    exact ⟨⟨1,[]⟩,[],8,rfl,rfl,fun h=>absurd h (by decide)⟩
   ·rw [if_neg d3,if_neg d3]
    obtain ⟨a,ha⟩:=kone (by rw [c21]; rfl)
    have tk:=hf.tk (by omega)
    have ty:=hf.ty (by omega)
    obtain ⟨e,r1,r2⟩:=T 0 a d.Typ (by rw [ha]; rfl) ty
    rw [r3_word_e tk,bS,r3_word_e ty,bS]
    refine ⟨bareT d.Takes,wd d.Takes,e,?_,?_,fun _=>⟨(wd_bare tk.1).symm,tk.bok⟩⟩
    ·rw [ha,at_0 (by simp),bS]
     dsimp only [List.getElem_cons_zero]
     rw [sema_bare_e,bS,r1,bS,sema_expr_j4]
    ·show ((R3T_run m).r3_must ((0:Nat):Int) (wd d.Typ) l d V x).bind _=_
     rw [r2,bS,r3_type_j3]
  rw [if_neg c21]
  by_cases c22:x.Kind=22
  ·rw [if_pos c22,if_pos c22]
   obtain ⟨od,e,g,r1,r2,r3⟩:=given_te (n:=n) (m:=m) C eh H hk.le hkids (.inr rfl) (by omega) (by omega)
   have hnm:=hM (.inr (.inr (.inr c22)))
   have:=nmd_le hnm
   rw [r1,bS,r2,bS,cat,if_pos (by simp; omega),bS]
   exact ⟨⟨3,x.Name⟩,_,e,rfl,rfl,fun _=>⟨rfl,rfl,⟨show (1:Int)≤3 by decide,show (3:Int)≤3 by decide⟩,fun _=>hnm⟩⟩
  rw [if_neg c22,if_neg c22,if_neg c20,if_neg c21]
  have F4:(if x.Kind=23 then r3_type_j4 (R3T_run m) l d V x (decide (x.Kind=23)) else r3_type_j4 (R3T_run m) l d V x (decide (x.Kind=24)))=r3_type_j4 (R3T_run m) l d V x (decide (x.Kind=23∨x.Kind=24)):=by
   by_cases c:x.Kind=23
   ·rw [if_pos c,decide_eq_true c,decide_eq_true (.inl c)]
   ·rw [if_neg c]; congr 1; exact decide_eq_decide.2 (by omega)
  rw [F4,r3_type_j4]
  by_cases c24:x.Kind=23∨x.Kind=24
  ·rw [decide_eq_true c24,if_pos rfl]
   obtain ⟨n',rfl⟩:∃ q,n=q+1:=⟨n - 1,by omega⟩
   have h0:∃ a,x.Kids[0]?=some a∧at_ x.Kids 0=some a:=by
    rcases c24 with c | c
    ·obtain ⟨a,b,ha⟩:=ktwo (by rw [c]; rfl)
     exact ⟨a,by rw [ha]; rfl,by rw [ha]; rfl⟩
    ·obtain ⟨a,ha⟩:=kone (by rw [c]; rfl)
     exact ⟨a,by rw [ha]; rfl,by rw [ha]; rfl⟩
   obtain ⟨a,ha,ha'⟩:=h0
   obtain ⟨t,w,e,r1,r2,r3⟩:=A 0 a n' ha (by omega)
   have hh:(SemaE_run (n'+1)).sema_handle p d B a=if e≠0 then some (none,e) else if t.Kind≠3 then some (none,9) else some (mget p.named t.Gen,0):=by
    show sema_handle (SemaE_run n') p d B a=_
    rw [sema_handle,r1,bS]
    dsimp only
    by_cases z:e=0
    ·rw [if_neg (by simpa using z),if_neg (by simpa using z),sema_plain_e,bS]
     by_cases q:t.Kind≠3
     ·rw [if_pos (decide_eq_true q),if_pos q]
     ·rw [if_neg (by simpa using q),if_neg q]
    ·rw [if_pos z,if_pos z]
   have a0:(R3T_run m).r3_ask 0 l d V x=some (w,e):=r2
   rcases c24 with c | c
   ·rw [if_pos c,ha',bS,hh,a0,bS]
    dsimp only
    by_cases z:e=0
    ·obtain ⟨rfl,ht,hty⟩:=r3 z
     obtain ⟨ch,e1,e2⟩:=wd_at ht
     have z':¬ e≠0:=fun h=>h z
     rw [if_neg z',if_neg z',e1,bS]
     by_cases q:t.Kind≠3
     ·rw [if_pos q,if_pos (show (ch.toNat:Int)≠61 from fun h=>q (e2.1 h)),bS]
      dsimp only
      rw [if_pos (show (9:Int)≠0 by decide)]
      exact ⟨⟨1,[]⟩,[],9,rfl,rfl,fun h=>absurd h (by decide)⟩
     ·have k3:t.Kind=3:=by omega
      obtain ⟨g,hg,hgk⟩:=hty k3
      have fm:=C.fm g (C.only _ _ hg).1
      have ty:=fm.ty (by omega)
      have tk:=fm.tk hgk
      obtain ⟨a',b',hab⟩:=ktwo (by rw [c]; rfl)
      obtain ⟨e',s1,s2⟩:=T 1 b' g.Takes (by rw [hab]; rfl) tk
      have cutw:cut (wd t) 1 ((wd t).length:Int)=some t.Gen:=by
       rw [wd,if_neg (by omega),if_neg (by omega),cut,if_pos (by simp; omega)]
       simp
      rw [if_neg q,if_neg (show ¬ (ch.toNat:Int)≠61 from fun h=>h (e2.2 k3)),bS]
      dsimp only
      rw [if_neg (show ¬ ((0:Int)≠0) by decide),hg,bS,if_neg (show ¬ x.Kind=24 by omega),cutw,bS,C.find,bS,fz,hg,if_pos (isK_i hgk)]
      dsimp only [Option.getD]
      rw [r3_type_j5]
      refine ⟨bareT g.Typ,wd g.Typ,e',?_,?_,fun _=>⟨(wd_bare ty.1).symm,ty.bok⟩⟩
      ·rw [hab,at_1 (by simp),bS]
       dsimp only [List.getElem_cons_succ,List.getElem_cons_zero]
       rw [sema_bare_e,bS,s1,bS,sema_expr_j5]
      ·show (r3_word g.Typ).bind _=_
       rw [r3_word_e ty,bS]
       show (r3_word g.Takes).bind _=_
       rw [r3_word_e tk,bS]
       show ((R3T_run m).r3_must ((1:Nat):Int) (wd g.Takes) l d V x).bind _=_
       rw [s2,bS,r3_type_j6]
    ·rw [if_pos z,if_pos z,bS]
     dsimp only
     rw [if_pos z]
     exact ⟨⟨1,[]⟩,[],e,rfl,rfl,fun h=>absurd h z⟩
   ·rw [if_neg (show ¬ x.Kind=23 by omega),if_pos c,ha',bS,hh,a0,bS]
    dsimp only
    by_cases z:e=0
    ·obtain ⟨rfl,ht,hty⟩:=r3 z
     obtain ⟨ch,e1,e2⟩:=wd_at ht
     have z':¬ e≠0:=fun h=>h z
     rw [if_neg z',if_neg z',e1,bS]
     by_cases q:t.Kind≠3
     ·rw [if_pos q,if_pos (show (ch.toNat:Int)≠61 from fun h=>q (e2.1 h)),bS]
      exact ⟨⟨2,[]⟩,[],9,rfl,rfl,fun h=>absurd h (by decide)⟩
     ·have k3:t.Kind=3:=by omega
      rw [if_neg q,if_neg (show ¬ (ch.toNat:Int)≠61 from fun h=>h (e2.2 k3)),bS,if_pos c]
      exact ⟨⟨2,[]⟩,_,0,rfl,rfl,fun _=>⟨rfl,bok2⟩⟩
    ·rw [if_pos z,if_pos z,bS]
     exact ⟨⟨2,[]⟩,[],e,rfl,rfl,fun h=>absurd h z⟩
  rw [decide_eq_false c24,if_neg ff,if_neg (show ¬ x.Kind=23 by omega),if_neg (show ¬ x.Kind=24 by omega)]
  obtain ⟨a,b,hab⟩:=ktwo (by unfold kidN; rw [if_neg (by omega),if_neg (by omega),if_pos (by omega)])
  have BIN:∀ (want out:TType),TyF want→BOk out→∃ w e,sema_expr_j6 (SemaE_run n) x p d B want.Kind want.Gen out.Kind out.Gen=some (out,e)∧r3_type_j10 (R3T_run m) l d V x (wd want) (wd out)=some (w,e)∧(e=0→w=wd out∧BOk out):=by
   intro want out hw ho
   obtain ⟨e0,r1,r2⟩:=T 0 a want (by rw [hab]; rfl) hw
   obtain ⟨e1,s1,s2⟩:=T 1 b want (by rw [hab]; rfl) hw
   have r2':(R3T_run m).r3_must 0 (wd want) l d V x=some e0:=r2
   have s2':(R3T_run m).r3_must 1 (wd want) l d V x=some e1:=s2
   have hlen:x.Kids.length=2:=by rw [hab]; rfl
   have a0:at_ x.Kids 0=some a:=by rw [hab]; rfl
   have a1:at_ x.Kids 1=some b:=by rw [hab]; rfl
   rw [sema_expr_j6,hlen,sema_expr_l1,if_pos (by omega),a0,bS,r3_type_j10,r2',bS]
   show ∃ w e,((SemaE_run n).sema_typed p d B a want).bind _=_∧_
   rw [r1,bS]
   by_cases z:e0=0
   ·rw [if_neg (by simpa using z),if_neg (by simpa using z),i64_ok (by omega),bS,s2',bS]
    show ∃ w e,sema_expr_l1 (SemaE_run n) x p d B want.Kind want.Gen out.Kind out.Gen (1+1) 1=_∧_
    rw [sema_expr_l1,if_pos (by omega),a1,bS]
    show ∃ w e,((SemaE_run n).sema_typed p d B b want).bind _=_∧_
    rw [s1,bS]
    by_cases z1:e1=0
    ·rw [if_neg (by simpa using z1),i64_ok (by omega),bS]
     show ∃ w e,sema_expr_l1 (SemaE_run n) x p d B want.Kind want.Gen out.Kind out.Gen (0+1) 2=_∧_
     rw [sema_expr_l1,if_neg (by omega)]
     exact ⟨wd out,0,rfl,by rw [z1],fun _=>⟨rfl,ho⟩⟩
    ·rw [if_pos z1]
     exact ⟨wd out,e1,rfl,rfl,fun h=>absurd h z1⟩
   ·rw [if_pos z,if_pos z]
    exact ⟨[],e0,rfl,rfl,fun h=>absurd h z⟩
  have F7:(if x.Kind=17 then r3_type_j7 (R3T_run m) l d V x true else r3_type_j7 (R3T_run m) l d V x (decide (x.Kind=18)))=r3_type_j7 (R3T_run m) l d V x (decide (17≤x.Kind)):=by
   by_cases c:x.Kind=17
   ·rw [if_pos c,decide_eq_true (by omega)]
   ·rw [if_neg c]; congr 1; exact decide_eq_decide.2 (by omega)
  have J8:∀ s o,r3_type_j8 (R3T_run m) l d V x s o=r3_type_j10 (R3T_run m) l d V x s (if 13≤x.Kind∧x.Kind≤16 then [98,111,111,108] else o):=by
   intro s o
   rw [r3_type_j8]
   by_cases c:(13:Int)≤x.Kind
   ·rw [if_pos c,r3_type_j9]
    by_cases c':x.Kind≤16
    ·rw [if_pos (decide_eq_true c'),if_pos ⟨c,c'⟩]
    ·rw [if_neg (by simpa using c'),if_neg (fun h=>c' h.2)]
   ·rw [if_neg c,r3_type_j9,if_neg ff,if_neg (fun h=>c h.1)]
  rw [F7,r3_type_j7]
  by_cases c17:(17:Int)≤x.Kind
  ·rw [decide_eq_true c17,if_pos rfl,J8,if_neg (fun h=>by omega)]
   obtain ⟨w,e,q1,q2,q3⟩:=BIN ⟨2,[]⟩ ⟨2,[]⟩ tyf2 bok2
   refine ⟨_,w,e,?_,q2,q3⟩
   rw [sema_num_e,bS,bS,if_pos c17,sema_boolean_e,bS,bS]
   exact q1
  ·rw [decide_eq_false c17,if_neg ff,J8]
   by_cases c13:(13:Int)≤x.Kind
   ·rw [if_pos ⟨c13,by omega⟩]
    obtain ⟨w,e,q1,q2,q3⟩:=BIN ⟨1,[]⟩ ⟨2,[]⟩ tyf1 bok2
    refine ⟨_,w,e,?_,q2,q3⟩
    rw [sema_num_e,bS,bS,if_neg c17,if_pos c13,sema_boolean_e,bS]
    exact q1
   ·rw [if_neg (fun h=>c13 h.1)]
    obtain ⟨w,e,q1,q2,q3⟩:=BIN ⟨1,[]⟩ ⟨1,[]⟩ tyf1 bok1
    refine ⟨_,w,e,?_,q2,q3⟩
    rw [sema_num_e,bS,bS,if_neg c17,if_neg c13]
    exact q1
end
end Go.Y
namespace Go.Y
open Go.Wk Go.Xt
section
variable {l:List TDef} {p:TSp} {d:TDef}
theorem of_te {B:Bl} {V:List TYieldref3Name} {k:Nat} (H:EX l p d B V k) {y:TExpr} {want:TType} (hy:FmE k y) (hw:TyF want) {n m:Nat} (hn:3*k+111≤n) (hm:5*k+3100≤m):∃ e,(SemaE_run n).sema_typed p d B y want=some e∧r3_of m l d V y (wd want)=some e:=by
 obtain ⟨n,rfl⟩:∃ q,n=q+1:=⟨n - 1,by omega⟩
 obtain ⟨t,w,e,h1,h2,h3⟩:=H y n m hy (by omega) (by omega)
 refine ⟨if e=0∧t≠bareT want then 9 else e,?_,?_⟩
 ·show sema_typed (SemaE_run n) p d B y want=_
  rw [sema_typed,h1,bS]
  dsimp only
  by_cases z:e=0
  ·rw [if_pos z,sema_bare_e,bS,sema_typed_j1_e,eqT]
   by_cases q:t=bareT want
   ·rw [decide_eq_true q,if_neg (show ¬ ((!true)=true) by decide),if_neg (fun h=>h.2 q)]
   ·rw [decide_eq_false q,if_pos (by decide),if_pos ⟨z,q⟩]
  ·rw [if_neg z,sema_typed_j1_e,if_neg ff,if_neg (fun h=>z h.1)]
 ·rw [r3_of,h2,bS]
  dsimp only
  by_cases z:e=0
  ·obtain ⟨rfl,hb⟩:=h3 z
   rw [if_pos z,r3_of_j1]
   have iff:=wd_inj hb hw.bok
   rw [wd_bare hw.1] at iff
   by_cases q:t=bareT want
   ·rw [if_neg (by simpa using iff.2 q),if_neg (fun h=>h.2 q)]
   ·rw [if_pos (show decide (wd t≠wd want)=true from decide_eq_true fun h=>q (iff.1 h)),if_pos ⟨z,q⟩]
  ·rw [if_neg z,r3_of_j1,if_neg ff,if_neg (fun h=>z h.1)]
theorem FmS.ok:∀ (k:Nat) (x:TStat),FmS k x→OkS k x
 | 0,_,h=>h
 | k+1,x,h=>by
  obtain ⟨h1,h9,hX,hN,hB,hE⟩:=h
  exact ⟨h1,h9,fun c=>FmE.ok k _ (hX c),fun c=>⟨(hB c).1,fun y hy=>FmS.ok k y ((hB c).2 y hy)⟩,fun c=>⟨(hE c).1,fun y hy=>FmS.ok k y ((hE c).2 y hy)⟩⟩
theorem Rel.nil {B:Bl} {V:List TYieldref3Name} (h:Rel B V):Rel (B++[[]]) V:=⟨fun n=>by rw [lkB_app,h.eq]; rfl,fun n t ht=>h.ok n t (by rw [lkB_app] at ht; exact ht)⟩
theorem Rel.let1 {B:Bl} {V:List TYieldref3Name} (h:Rel B V) (h0:0<B.length) {n:List UInt8} {t:TType} (ht:BOk t):Rel (B.set (B.length - 1) (mput (B[B.length - 1]'(by omega)) n t)) (V++[⟨n,wd t⟩]):=by
 have e1:B=B.take (B.length - 1)++[B[B.length - 1]'(by omega)]:=by
  have:=List.take_succ_eq_append_getElem (l:=B) (i:=B.length - 1) (by omega)
  rw [← this,List.take_of_length_le (by omega)]
 have e2:B.set (B.length - 1) (mput (B[B.length - 1]'(by omega)) n t)=B.take (B.length - 1)++[mput (B[B.length - 1]'(by omega)) n t]:=by
  rw [List.set_eq_take_append_cons_drop,if_pos (by omega),List.drop_eq_nil_of_le (by omega)]
 have key:∀ n',lkB n' (B.set (B.length - 1) (mput (B[B.length - 1]'(by omega)) n t))=if n=n' then some t else lkB n' B:=by
  intro n'
  have e3:lkB n' B=match mget (B[B.length - 1]'(by omega)) n' with | some t=>some t | none=>lkB n' (B.take (B.length - 1)):=by
   have:=lkB_app n' (B[B.length - 1]'(by omega)) (B.take (B.length - 1))
   rw [← e1] at this
   exact this
  rw [e2,lkB_app,mget_mput,e3]
  by_cases c:n=n'
  ·rw [if_pos c,if_pos c]
  ·rw [if_neg c,if_neg c]
   all_goals rfl
 refine ⟨fun n'=>?_,fun n' t' h'=>?_⟩
 ·rw [lkV_app,key]
  by_cases c:n=n'
  ·rw [if_pos c,if_pos c]; rfl
  ·rw [if_neg c,if_neg c,h.eq]
 ·rw [key] at h'
  by_cases c:n=n'
  ·rw [if_pos c] at h'
   cases h'
   exact ht
  ·rw [if_neg c] at h'
   exact h.ok n' t' h'
def BX (l:List TDef) (p:TSp) (d:TDef) (k:Nat):Prop:=∀ (L:List TStat) (B:Bl) (V:List TYieldref3Name) (n m:Nat),EH p d B→Rel B V→B.length+k≤90→V.length+60*(k+1)≤3000→L.length≤50→(∀ y ∈ L,FmS k y)→5*k+130≤n→6*k+3400≤m →
 ∃ e,(SemaS_run n).sema_stats p d B L=some (e,B)∧(R3B_run m).r3_block l d V L=some e
theorem stat_te (C:Ctx l p) (hf:FmD d) {k:Nat} (HB:BX l p d k) {B:Bl} {V:List TYieldref3Name} (eh:EH p d B) (rl:Rel B V) (h0:0<B.length) (hB:B.length+k≤90) (hV:V.length+60*(k+1)≤3000) {x:TStat} (hx:FmS (k+1) x) {n m:Nat} (hn:5*k+133≤n) (hm:6*k+3405≤m)
  {L:List TStat} {q i:Nat} (hL:L.length≤50) (hi:i<L.length) (hxi:at_ L (i:Int)=some x) :
  ∃ e B',sema_stat n (SemaS_run n) p d B x=some (e,B')∧(e≠0→r3_block_l1 m (R3B_run m) l d L (q+1) i V=some e)∧(e=0→∃ V',r3_block_l1 m (R3B_run m) l d L (q+1) i V=r3_block_l1 m (R3B_run m) l d L q ((i+1:Nat):Int) V'∧Rel B' V'∧V'.length≤V.length+1):=by
 have hok:=FmS.ok (k+1) x hx
 obtain ⟨h1,h9,hX,hN,hBd,hEl⟩:=hx
 have X:=expr_te C hf eh rl (by omega) k
 have nx:∀ V',(i64 ((i:Int)+1)).bind (fun j=>r3_block_l1 m (R3B_run m) l d L q j V')=r3_block_l1 m (R3B_run m) l d L q ((i+1:Nat):Int) V':=fun V'=>by rw [i64_ok (by omega),bS]; rfl
 have nx':∀ V',(i64 ((i:Int)+1)).bind (fun j=>(r3_block_l1 m (R3B_run m) l d L q) j V')=r3_block_l1 m (R3B_run m) l d L q ((i+1:Nat):Int) V':=nx
 rw [r3_block_l1,if_pos (by omega),hxi,bS,sema_stat]
 by_cases c1:x.Kind=1
 ·rw [if_pos c1,if_pos c1]
  obtain ⟨t,w,e,r1,r2,r3⟩:=X x.X n m (hX (by omega)) (by omega) (by omega)
  rw [r1,bS,r2,bS]
  dsimp only
  by_cases z:e=0
  ·obtain ⟨rfl,hb⟩:=r3 z
   have z':¬ e≠0:=fun h=>h z
   rw [if_neg z',if_neg z',sema_look_e eh.bl n (by omega),bS,r3_look_e (by omega) (by omega),bS,rl.eq]
   cases h:lkB x.Name B with
   | some t' =>
    refine ⟨7,B,rfl,fun _=>rfl,fun h=>absurd h (by decide)⟩
   | none =>
    dsimp only [Option.map]
    rw [if_neg ff,if_neg ff,app_ok (by simp; omega),bS,i64_ok (by omega),bS,show ((B.length:Int) - 1)=((B.length - 1:Nat):Int) by omega,at_nat,List.getElem?_eq_getElem (by omega),bS]
    refine ⟨0,_,rfl,fun h=>absurd rfl h,fun _=>⟨_,nx _,?_,by simp⟩⟩
    exact rl.let1 h0 hb
  ·rw [if_pos z,if_pos z]
   exact ⟨e,B,rfl,fun _=>rfl,fun h=>absurd h z⟩
 rw [if_neg c1,if_neg c1]
 by_cases c2:x.Kind=2
 ·rw [if_pos c2,if_pos c2,sema_look_e eh.bl n (by omega),bS,r3_look_e (by omega) (by omega),bS,rl.eq]
  cases h:lkB x.Name B with
  | none=>exact ⟨7,B,rfl,fun _=>rfl,fun h=>absurd h (by decide)⟩
  | some t =>
   obtain ⟨e,r1,r2⟩:=of_te X (n:=n) (m:=m) (hX (by omega)) (rl.ok _ _ h).2 (by omega) (by omega)
   dsimp only [Option.map]
   rw [if_pos rfl,if_pos rfl,r1,bS,r2,bS]
   refine ⟨e,B,rfl,fun z=>by rw [if_pos z],fun z=>⟨V,?_,rl,by omega⟩⟩
   rw [if_neg (fun h=>h z)]
   exact nx V
 rw [if_neg c2,if_neg c2]
 have E2:(if x.Kind=3 then sema_stat_j2 n (SemaS_run n) x p d B (decide (x.Kind=3)) else sema_stat_j2 n (SemaS_run n) x p d B (decide (x.Kind=4)))=sema_stat_j2 n (SemaS_run n) x p d B (decide (x.Kind=3∨x.Kind=4)):=by
  by_cases c:x.Kind=3
  ·rw [if_pos c,decide_eq_true c,decide_eq_true (.inl c)]
  ·rw [if_neg c]; congr 1; exact decide_eq_decide.2 (by omega)
 have F2:(if x.Kind=3 then r3_block_j1 m (R3B_run m) l d i V x (r3_block_l1 m (R3B_run m) l d L q) (decide (x.Kind=3)) else r3_block_j1 m (R3B_run m) l d i V x (r3_block_l1 m (R3B_run m) l d L q) (decide (x.Kind=4)))=r3_block_j1 m (R3B_run m) l d i V x (r3_block_l1 m (R3B_run m) l d L q) (decide (x.Kind=3∨x.Kind=4)):=by
  by_cases c:x.Kind=3
  ·rw [if_pos c,decide_eq_true c,decide_eq_true (.inl c)]
  ·rw [if_neg c]; congr 1; exact decide_eq_decide.2 (by omega)
 rw [E2,F2,sema_stat_j2,r3_block_j1]
 by_cases c34:x.Kind=3∨x.Kind=4
 ·rw [decide_eq_true c34,if_pos rfl,if_pos rfl,sema_boolean_e,bS]
  obtain ⟨e,r1,r2⟩:=of_te X (n:=n) (m:=m) (hX (by omega)) tyf2 (by omega) (by omega)
  have r2':r3_of m l d V x.X [98,111,111,108]=some e:=r2
  rw [r1,bS,r2',bS]
  by_cases z:e=0
  ·have z':¬ e≠0:=fun h=>h z
   obtain ⟨hb5,hbo⟩:=hBd c34
   obtain ⟨e1,s1,s2⟩:=HB x.Body B V n m eh rl hB hV hb5 hbo (by omega) (by omega)
   rw [if_neg z',if_neg z',s1,bS,s2,bS]
   dsimp only
   by_cases y:e1=0
   ·have y':¬ e1≠0:=fun h=>h y
    rw [if_neg y',if_neg y',sema_stat_j3]
    by_cases c3:x.Kind=3
    ·obtain ⟨he5,hel⟩:=hEl c3
     obtain ⟨e2,t1,t2⟩:=HB x.Else B V n m eh rl hB hV he5 hel (by omega) (by omega)
     rw [decide_eq_false (show ¬ x.Kind=4 by omega),if_neg ff,if_pos c3,t1,bS,t2,bS]
     refine ⟨e2,B,rfl,fun z=>by rw [if_pos z],fun z=>⟨V,?_,rl,by omega⟩⟩
     rw [if_neg (fun h=>h z)]
     exact nx V
    ·rw [decide_eq_true (show x.Kind=4 by omega),if_pos rfl,if_neg c3]
     exact ⟨e1,B,rfl,fun z=>absurd y z,fun z=>⟨V,nx V,rl,by omega⟩⟩
   ·rw [if_pos y,if_pos y,sema_stat_j3,if_pos rfl]
    exact ⟨e1,B,rfl,fun _=>rfl,fun h=>absurd h y⟩
  ·rw [if_pos z,if_pos z]
   exact ⟨e,B,rfl,fun _=>rfl,fun h=>absurd h z⟩
 rw [decide_eq_false c34,if_neg ff,if_neg ff]
 by_cases c5:x.Kind=5
 ·rw [if_pos c5,if_pos c5]
  by_cases d2:d.Kind≠2
  ·rw [if_pos d2,if_pos d2]
   exact ⟨8,B,rfl,fun _=>rfl,fun h=>absurd h (by decide)⟩
  ·have ty:=hf.ty (by omega)
   obtain ⟨e,r1,r2⟩:=of_te X (n:=n) (m:=m) (hX (by omega)) ty (by omega) (by omega)
   rw [if_neg d2,if_neg d2,r1,bS,r3_word_e ty,bS,r2,bS,r3_block_j2]
   refine ⟨e,B,rfl,fun z=>by rw [if_pos z],fun z=>⟨V,?_,rl,by omega⟩⟩
   rw [if_neg (fun h=>h z)]
   exact nx V
 rw [if_neg c5,if_neg c5]
 by_cases c6:x.Kind=6
 ·rw [if_pos c6,if_pos c6]
  by_cases d2:d.Kind=2
  ·rw [if_pos d2,if_pos d2]
   exact ⟨8,B,rfl,fun _=>rfl,fun h=>absurd h (by decide)⟩
  ·rw [if_neg d2,if_neg d2]
   exact ⟨0,B,rfl,fun h=>absurd rfl h,fun _=>⟨V,nx V,rl,by omega⟩⟩
 rw [if_neg c6,if_neg c6]
 by_cases c7:x.Kind=7
 ·rw [if_pos c7,if_pos c7,sema_find_e,bS,C.find,bS,fz]
  dsimp only
  by_cases w:isK (mget p.named x.Name) 1=true
  ·obtain ⟨g,hg,hgk⟩:=isK_t w
   have ty:=(C.fm g (C.only _ _ hg).1).ty (by omega)
   obtain ⟨e,r1,r2⟩:=of_te X (n:=n) (m:=m) (hX (by omega)) ty (by omega) (by omega)
   rw [if_pos w,if_pos w,if_pos rfl,hg,bS]
   dsimp only [Option.getD]
   rw [r1,bS,r3_word_e ty,bS,r2,bS,r3_block_j3]
   refine ⟨e,B,rfl,fun z=>by rw [if_pos z],fun z=>⟨V,?_,rl,by omega⟩⟩
   rw [if_neg (fun h=>h z)]
   exact nx V
  ·rw [if_neg w,if_neg w,if_neg ff]
   exact ⟨7,B,rfl,fun _=>rfl,fun h=>absurd h (by decide)⟩
 rw [if_neg c7,if_neg c7]
 obtain ⟨t,w,e,r1,r2,r3⟩:=X x.X n m (hX c6) (by omega) (by omega)
 rw [r2,bS]
 dsimp only
 by_cases c8:x.Kind=8
 ·rw [if_pos c8,r1,bS,if_pos c8]
  dsimp only
  by_cases z:e=0
  ·obtain ⟨rfl,hb⟩:=r3 z
   obtain ⟨ch,e1,e2⟩:=wd_at hb
   rw [if_pos z,if_neg (show ¬ e≠0 from fun h=>h z),sema_plain_e,bS,sema_stat_j4_e,e1,bS,r3_block_j4]
   by_cases k3:t.Kind=3
   ·refine ⟨9,B,?_,fun _=>?_,fun h=>absurd h (by decide)⟩
    ·rw [decide_eq_false (by simpa using k3),if_pos (by decide)]
    ·rw [if_pos (decide_eq_true (e2.2 k3))]
   ·refine ⟨e,B,?_,fun h=>absurd z h,fun _=>⟨V,?_,rl,by omega⟩⟩
    ·rw [decide_eq_true k3,if_neg (by decide)]
    ·rw [if_neg (by simpa using fun h=>k3 (e2.1 h))]
     exact nx V
  ·rw [if_neg z,if_pos z,sema_stat_j4_e,if_neg ff]
   exact ⟨e,B,rfl,fun _=>rfl,fun h=>absurd h z⟩
 ·rw [if_neg c8,if_pos (show x.Kind=9 by omega),r1,bS,if_neg c8]
  refine ⟨e,B,rfl,fun z=>by rw [if_pos z],fun z=>⟨V,?_,rl,by omega⟩⟩
  rw [if_neg (fun h=>h z),r3_block_j4,if_neg ff]
  exact nx V
theorem block_te (C:Ctx l p) (hf:FmD d):∀ k,BX l p d k:=by
 intro k
 induction k with
 | zero =>
  intro L B V n m eh rl hB hV hL hy hn hm
  have:L=[]:=by
   cases L with
   | nil=>rfl
   | cons y L=>exact (hy y (List.mem_cons_self ..)).elim
  subst this
  obtain ⟨e,r1,-⟩:=(semaS_t n).stats 0 p d B [] eh (by simp) (by simp) (by omega) (by omega)
  refine ⟨e,r1,?_⟩
  obtain ⟨n,rfl⟩:∃ q,n=q+1:=⟨n - 1,by omega⟩
  obtain ⟨m,rfl⟩:∃ q,m=q+1:=⟨m - 1,by omega⟩
  have bl:=eh.bl
  have r0:sema_stats (SemaS_run n) p d B []=some (e,B):=r1
  rw [sema_stats,app_ok (by simp; omega),bS,sema_stats_j1] at r0
  have r0':(sema_pop p d (B++[[]])).bind (fun r139=>some ((0:Int),r139))=some (e,B):=r0
  rw [sema_pop_t p d _ (by simp) (by simp; omega),bS] at r0'
  have he:(0:Int)=e:=congrArg Prod.fst (Option.some.inj r0')
  subst he
  show r3_block m (R3B_run m) l d V []=_
  rw [r3_block,app_ok (by simp; omega),bS]
  rfl
 | succ k HB =>
  intro L B V n m eh rl hB hV hL hy hn hm
  obtain ⟨e,r1,-⟩:=(semaS_t n).stats (k+1) p d B L eh hL (fun y h=>FmS.ok _ _ (hy y h)) (by omega) (by omega)
  refine ⟨e,r1,?_⟩
  obtain ⟨n,rfl⟩:∃ q,n=q+2:=⟨n - 2,by omega⟩
  obtain ⟨m,rfl⟩:∃ q,m=q+1:=⟨m - 1,by omega⟩
  have bl:=eh.bl
  have r0:sema_stats (SemaS_run (n+1)) p d B L=some (e,B):=r1
  rw [sema_stats,app_ok (by simp; omega),bS,sema_stats_j1] at r0
  have loop:∀ (q i:Nat) (B':Bl) (V':List TYieldref3Name),i≤L.length→L.length<q+i→EH p d B'→Rel B' V'→B'.length=B.length+1→V'.length≤V.length+i →
    ∃ e B'',sema_stats_l1 (SemaS_run (n+1)) L p d q i B'=some (e,B'')∧r3_block_l1 m (R3B_run m) l d L q i V'=some e:=by
   intro q
   induction q with
   | zero=>intro i B' V' h1 h2; omega
   | succ q ih =>
    intro i B' V' h1 h2 eh' rl' hb hv
    rw [sema_stats_l1]
    by_cases c:i<L.length
    ·have hxi:at_ L (i:Int)=some L[i]:=by rw [at_nat,List.getElem?_eq_getElem c]
     obtain ⟨e,B'',s1,s2,s3⟩:=stat_te C hf HB eh' rl' (by omega) (by omega) (by omega) (hy _ (List.getElem_mem c)) (n:=n) (m:=m) (by omega) (by omega) (q:=q) hL c hxi
     obtain ⟨e',B3,t1,t2,t3,t4,-⟩:=(semaS_t (n+1)).stat (k+1) p d B' L[i] eh' (by omega) (FmS.ok _ _ (hy _ (List.getElem_mem c))) (by omega) (by omega)
     have t0:sema_stat n (SemaS_run n) p d B' L[i]=some (e',B3):=t1
     rw [s1] at t0
     obtain ⟨rfl,rfl⟩:e=e'∧B''=B3:=by simpa using t0
     rw [if_pos (by omega),hxi,bS,t1,bS]
     dsimp only
     by_cases z:e=0
     ·obtain ⟨V2,v1,v2,v3⟩:=s3 z
      rw [if_neg (fun h=>h z),i64_ok (by omega),bS,v1]
      exact ih (i+1) B'' V2 (by omega) (by omega) ⟨eh'.pg,eh'.hd,t4,by omega⟩ v2 (by omega) (by omega)
     ·rw [if_pos z,sema_pop_t p d _ (by omega) (by omega),bS,s2 z]
      exact ⟨e,_,rfl,rfl⟩
    ·rw [if_neg (by omega),sema_pop_t p d _ (by omega) (by omega),bS,r3_block_l1,if_neg (by omega)]
     exact ⟨0,_,rfl,rfl⟩
  have sc1:ScOk p (B++[[]]):=by
   intro m' hm' k t ht
   rcases List.mem_append.1 hm' with h | h
   ·exact eh.sc _ h k t ht
   ·rw [List.mem_singleton.1 h] at ht
    cases ht
  have eh1:EH p d (B++[[]]):=⟨eh.pg,eh.hd,sc1,by simp; omega⟩
  obtain ⟨e',B'',s1,s2⟩:=loop (L.length+1) 0 (B++[[]]) V (by omega) (by omega) eh1 rl.nil (by simp) (by omega)
  rw [show ((0:Nat):Int)=0 from rfl] at s1 s2
  rw [s1] at r0
  have he:e'=e:=congrArg Prod.fst (Option.some.inj r0)
  subst he
  show r3_block m (R3B_run m) l d V L=_
  rw [r3_block,app_ok (by simp; omega),bS]
  exact s2
end
end Go.Y
namespace Go.Y
open Go.Wk Go.Xt
theorem mem_take1 {α:Type} {l:List α} {i:Nat} (h:i<l.length):l[i] ∈ l.take (i+1):=by
 rw [List.take_succ_eq_append_getElem h]
 exact List.mem_append_right _ (List.mem_singleton.2 rfl)
section
variable {l:List TDef} {p:TSp} {d:TDef}
theorem body_te (C:Ctx l p) (hp:Pg p) (hh:HeadOk p d) (hf:FmD d) {fu:Nat} (hu:5000≤fu):∃ e,sema_body fu p d=some e∧r3_body fu l d=some e:=by
 rw [sema_body,r3_body]
 by_cases c1:d.Kind=1
 ·rw [if_pos c1,if_pos c1]
  exact ⟨0,rfl,rfl⟩
 rw [if_neg c1,if_neg c1]
 obtain ⟨h5,hS⟩:=hf.bo c1
 have J:∀ (B:Bl) (V:List TYieldref3Name),EH p d B→Rel B V→B.length=1→V.length≤6→∃ e,sema_body_j1 fu p d B=some e∧r3_body_j1 fu l d V=some e:=by
  intro B V eh rl hb hv
  obtain ⟨e,r1,r2⟩:=block_te C hf 39 d.Body B V fu fu eh rl (by omega) (by omega) h5 hS (by omega) (by omega)
  rw [sema_body_j1,r3_body_j1,r1,bS,r2,bS]
  exact ⟨e,rfl,rfl⟩
 have sc0:ScOk p [([]:List (List UInt8×TType))]:=by
  intro m hm k t ht
  rw [List.mem_singleton.1 hm] at ht
  cases ht
 have rl0:Rel [([]:List (List UInt8×TType))] []:=⟨fun n=>rfl,fun n t h=>by cases h⟩
 by_cases c4:d.Kind=4
 ·rw [if_neg (by simpa using c4),if_neg (by simpa using c4)]
  exact J _ _ ⟨hp,hh,sc0,by simp⟩ rl0 rfl (by simp)
 rw [if_pos c4,if_pos c4]
 have k23:d.Kind=2∨d.Kind=3:=by have:=hf.k1; have:=hf.k4; omega
 obtain ⟨h6,hps⟩:=hf.ps k23
 have L:∀ (m i:Nat) (B:Bl) (V:List TYieldref3Name),i≤d.Params.length→d.Params.length<m+i→ScOk p B→Rel B V→B.length=1→V.length=i→∃ e,sema_body_l1 fu p d m i B=some e∧r3_body_l1 fu l d m i V=some e:=by
  intro m
  induction m with
  | zero=>intro i B V h1 h2; omega
  | succ m ih =>
   intro i B V h1 h2 sc rl hb hv
   rw [sema_body_l1,r3_body_l1]
   by_cases c:i<d.Params.length
   ·have e1:at_ d.Params (i:Int)=some d.Params[i]:=by rw [at_nat,List.getElem?_eq_getElem c]
    have ty:=(hps _ (List.getElem_mem c)).2
    have h0:0<B.length:=by omega
    rw [if_pos (by omega),if_pos (by omega),e1,bS,bS,at_0 h0,bS,sema_bare_e,bS,r3_word_e ty,bS,app_ok (by simp; omega),bS,sema_body_j2,r3_body_j2,i64_ok (by omega),bS,bS]
    have key:=rl.let1 h0 (n:=d.Params[i].Name) ty.bok
    have i0:B.length - 1=0:=by omega
    simp only [i0,wd_bare ty.1] at key
    refine ih (i+1) _ _ c (by omega) ?_ key (by simpa using hb) (by simp; omega)
    intro m' hm' k t ht
    rcases List.mem_or_eq_of_mem_set hm' with hm' | rfl
    ·exact sc m' hm' k t ht
    ·rw [mget_mput] at ht
     split at ht
     ·obtain rfl:=Option.some.inj ht
      exact (hh.ps k23 _ (List.getElem_mem _)).bare
     ·exact sc _ (List.getElem_mem _) k t ht
   ·rw [if_neg (by omega),if_neg (by omega)]
    exact J B V ⟨hp,hh,sc,by omega⟩ rl hb (by omega)
 exact L (d.Params.length+1) 0 _ [] (by omega) (by omega) sc0 rl0 rfl rfl
theorem head_te (C:Ctx l p) (hf:FmD d):∃ e,sema_head p d=some e∧r3_head l d=some e:=by
 have sj:∀ b,sema_head_j3 b=some (if b=true then 9 else 0):=fun b=>by cases b <;> rfl
 have rj:∀ b,r3_head_j3 b=some (if b=true then 9 else 0):=fun b=>by cases b <;> rfl
 have J:∃ e,sema_head_j2 d=some e∧r3_head_j1 d=some e:=by
  rw [sema_head_j2,r3_head_j1]
  by_cases c3:d.Kind=3
  ·rw [if_pos c3,if_pos c3,sema_plain_e,bS]
   by_cases t3:d.Takes.Kind=3
   ·rw [if_neg (by simpa using t3),if_pos t3,sj,rj]
    exact ⟨_,rfl,rfl⟩
   ·rw [if_pos (by simpa using t3),if_neg t3,if_pos (by omega),if_pos (by omega),sema_plain_e,bS,sj,rj]
    refine ⟨_,rfl,?_⟩
    by_cases y:d.Typ.Kind=3
    ·simp [y]
    ·simp [y]
  ·rw [if_neg c3,if_neg c3]
   by_cases c4:d.Kind≠4
   ·rw [if_pos c4,if_pos c4,sema_plain_e,bS,sj,rj]
    refine ⟨_,rfl,?_⟩
    by_cases y:d.Typ.Kind=3
    ·simp [y]
    ·simp [y]
   ·rw [if_neg c4,if_neg c4,sj,rj]
    exact ⟨_,rfl,rfl⟩
 by_cases k23:d.Kind=2∨d.Kind=3
 ·have e0:sema_head p d=sema_head_l1 p d (d.Params.length+1) 0 []:=by
   rw [sema_head]
   by_cases c2:d.Kind=2
   ·rw [if_pos c2,sema_head_j1,if_pos rfl]
   ·rw [if_neg c2,decide_eq_true (show d.Kind=3 by omega),sema_head_j1,if_pos rfl]
  rw [e0,r3_head]
  obtain ⟨h6,hps⟩:=hf.ps k23
  have L2:∀ (x:TParam) (i:Nat) (L:List TParam) (K:Int→Option Int),L.length≤6→i≤10→∀ (m j:Nat),j≤L.length→L.length<m+j→r3_head_l2 l i x L K m j=if (∃ y ∈ L.drop j,y.Name=x.Name) then some 7 else if x.Typ.Kind=3∧isK (mget p.named x.Typ.Gen) 3=false then some 7 else K ((i:Int)+1):=by
   intro x i L K hL hi m
   induction m with
   | zero=>intro j h1 h2; omega
   | succ m ih =>
    intro j h1 h2
    rw [r3_head_l2]
    by_cases c:j<L.length
    ·rw [if_pos (by omega),at_nat,List.getElem?_eq_getElem c,bS,List.drop_eq_getElem_cons c]
     by_cases q:L[j].Name=x.Name
     ·rw [if_pos q,if_pos ⟨_,List.mem_cons_self ..,q⟩]
     ·rw [if_neg q,i64_ok (by omega),bS]
      have:=ih (j+1) c (by omega)
      rw [show ((j:Int)+1)=((j+1:Nat):Int) from rfl,this]
      by_cases w:∃ y ∈ L.drop (j+1),y.Name=x.Name
      ·obtain ⟨y,y1,y2⟩:=w
       rw [if_pos ⟨y,y1,y2⟩,if_pos ⟨y,List.mem_cons_of_mem _ y1,y2⟩]
      ·have w':¬ ∃ y ∈ L[j]::L.drop (j+1),y.Name=x.Name:=by
        rintro ⟨y,y1,y2⟩
        rcases List.mem_cons.1 y1 with rfl | y1
        ·exact q y2
        ·exact w ⟨y,y1,y2⟩
       rw [if_neg w,if_neg w']
    ·rw [if_neg (by omega),List.drop_eq_nil_of_le (by omega),if_neg (show ¬ ∃ y ∈ ([]:List TParam),y.Name=x.Name by simp)]
     by_cases k3:x.Typ.Kind=3
     ·rw [if_pos k3,C.find,bS,fz]
      by_cases q:isK (mget p.named x.Typ.Gen) 3=true
      ·rw [if_pos q,if_pos rfl,if_neg (fun h=>by rw [q] at h; exact absurd h.2 (by decide)),i64_ok (by omega),bS]
      ·rw [if_neg q,if_neg ff,if_pos ⟨k3,by simpa using q⟩]
     ·rw [if_neg k3,if_neg (fun h=>k3 h.1),i64_ok (by omega),bS]
  have L:∀ (m i:Nat) (S:List (List UInt8×Int)),i≤d.Params.length→d.Params.length<m+i→(∀ n,(mget S n).getD 0=if (∃ y ∈ d.Params.take i,y.Name=n) then 1 else 0)→∃ e,sema_head_l1 p d m i S=some e∧r3_head_l1 l d m i=some e:=by
   intro m
   induction m with
   | zero=>intro i S h1 h2; omega
   | succ m ih =>
    intro i S h1 h2 hS
    rw [sema_head_l1,r3_head_l1]
    by_cases c:i<d.Params.length
    ·have e1:at_ d.Params (i:Int)=some d.Params[i]:=by rw [at_nat,List.getElem?_eq_getElem c]
     have F2:(if d.Kind≠2 then r3_head_j2 l d i d.Params[i] (r3_head_l1 l d m) (decide (d.Kind≠3)) else r3_head_j2 l d i d.Params[i] (r3_head_l1 l d m) false)=r3_head_j2 l d i d.Params[i] (r3_head_l1 l d m) false:=by
      by_cases c2:d.Kind≠2
      ·rw [if_pos c2,decide_eq_false (by omega)]
      ·rw [if_neg c2]
     have hcut:cut d.Params 0 (i:Int)=some (d.Params.take i):=by
      rw [cut,if_pos (by omega)]
      simp
     rw [if_pos (by omega),if_pos (by omega),e1,bS,bS,F2,r3_head_j2,if_neg ff,hcut,bS,show (0:Int)=((0:Nat):Int) from rfl,L2 d.Params[i] i (d.Params.take i) _ (by simp; omega) (by omega) _ 0 (by omega) (by omega),List.drop_zero]
     have hn:=hS d.Params[i].Name
     by_cases w:∃ y ∈ d.Params.take i,y.Name=d.Params[i].Name
     ·rw [if_pos w] at hn
      rw [if_pos w,show ((0:Nat):Int)=0 from rfl,hn,i64_ok (by decide),bS,mget_mput,if_pos rfl]
      exact ⟨7,rfl,rfl⟩
     ·rw [if_neg w] at hn
      rw [if_neg w,show ((0:Nat):Int)=0 from rfl,hn,i64_ok (by decide),bS,mget_mput,if_pos rfl]
      show ∃ e,(if (1:Int)<1 then some 7 else _)=_∧_
      rw [if_neg (by decide),sema_typ,sema_plain_e,bS,sema_find_e]
      have next:∃ e,(i64 ((i:Int)+1)).bind (fun i104=>sema_head_l1 p d m i104 (mput S d.Params[i].Name ((0:Int)+1)))=some e∧r3_head_l1 l d m ((i:Int)+1)=some e:=by
       rw [i64_ok (by omega),bS]
       refine ih (i+1) _ c (by omega) fun n=>?_
       rw [mget_mput]
       by_cases q:d.Params[i].Name=n
       ·rw [if_pos q,if_pos ⟨d.Params[i],mem_take1 c,q⟩]
        rfl
       ·rw [if_neg q,hS n]
        by_cases y:∃ y ∈ d.Params.take i,y.Name=n
        ·obtain ⟨y,y1,y2⟩:=y
         rw [if_pos ⟨y,y1,y2⟩,if_pos ⟨y,by rw [List.take_succ_eq_append_getElem c]; exact List.mem_append_left _ y1,y2⟩]
        ·have y':¬ ∃ z ∈ d.Params.take (i+1),z.Name=n:=by
          rintro ⟨z,z1,z2⟩
          rw [List.take_succ_eq_append_getElem c] at z1
          rcases List.mem_append.1 z1 with z1 | z1
          ·exact y ⟨z,z1,z2⟩
          ·rw [List.mem_singleton.1 z1] at z2
           exact q z2
         rw [if_neg y,if_neg y']
      by_cases k3:d.Params[i].Typ.Kind=3
      ·rw [if_neg (by simpa using k3)]
       simp only [bS]
       by_cases q:isK (mget p.named d.Params[i].Typ.Gen) 3=true
       ·rw [if_pos q,if_neg (fun h=>by rw [q] at h; exact absurd h.2 (by decide)),bS,if_neg (show ¬ ((0:Int)≠0) by decide)]
        exact next
       ·rw [if_neg q,if_pos ⟨k3,by simpa using q⟩]
        exact ⟨7,rfl,rfl⟩
      ·rw [if_pos (by simpa using k3),if_neg (fun h=>k3 h.1),bS,if_neg (show ¬ ((0:Int)≠0) by decide)]
       exact next
    ·rw [if_neg (by omega),if_neg (by omega)]
     exact J
  exact L (d.Params.length+1) 0 [] (by omega) (by omega) fun n=>by simp [mget]
 ·have k1:d.Kind=1∨d.Kind=4:=by have:=hf.k1; have:=hf.k4; omega
  have e0:sema_head p d=sema_head_j2 d:=by
   rw [sema_head,if_neg (by omega),decide_eq_false (by omega),sema_head_j1,if_neg ff]
  have e1:r3_head l d=r3_head_j1 d:=by
   rw [r3_head,r3_head_l1]
   by_cases c:(0:Int)<(d.Params.length:Int)
   ·rw [if_pos c,at_0 (by omega),bS,if_pos (by omega),decide_eq_true (by omega),r3_head_j2,if_pos rfl]
   ·rw [if_neg c]
  rw [e0,e1]
  exact J
end
def Both (a:Option (TSp×TFault)) (b:Option (List TOwner×TFault)):Prop:=∃ p f,a=some (p,f)∧f.Err≠0∧b=some ([],f)
theorem l3_te {fu:Nat} (hu:5000≤fu) {l:List TDef} {N:List (List UInt8×TDef)} (C:Ctx l ⟨l,N⟩) (hd:∀ d ∈ l,HeadOk ⟨l,N⟩ d):∀ (m i:Nat),i≤l.length→l.length<m+i→Both (sema_named_l3 fu l N m i) (r3_owners_l4 fu l m i)∨(sema_named_l3 fu l N m i=some (⟨l,N⟩,⟨0,0⟩)∧r3_owners_l4 fu l m i=r3_owners_l5 fu l (l.length+1) 0 []):=by
 have hl:=C.len
 intro m
 induction m with
 | zero=>intro i h1 h2; omega
 | succ m ih =>
  intro i h1 h2
  rw [sema_named_l3,r3_owners_l4]
  by_cases c:i<l.length
  ·have hm:=List.getElem_mem c
   obtain ⟨e,r1,r2⟩:=body_te C (fun k d h=>hd d (C.only k d h).1) (hd _ hm) (C.fm _ hm) hu
   have e1:at_ l (i:Int)=some l[i]:=by rw [at_nat,List.getElem?_eq_getElem c]
   rw [if_pos (by omega),if_pos (by omega),e1,bS,bS,r1,bS,r2,bS]
   by_cases z:e=0
   ·rw [if_neg (fun h=>h z),if_neg (fun h=>h z),i64_ok (by omega),bS,bS]
    exact ih (i+1) c (by omega)
   ·rw [if_pos z,if_pos z]
    exact .inl ⟨_,_,rfl,z,rfl⟩
  ·rw [if_neg (by omega),if_neg (by omega)]
   exact .inr ⟨rfl,rfl⟩
theorem l2_te {fu:Nat} (hu:5000≤fu) {l:List TDef} {N:List (List UInt8×TDef)} (C:Ctx l ⟨l,N⟩) (ok:OkP l):∀ (m i:Nat),i≤l.length→l.length<m+i→(∀ d ∈ l.take i,HeadOk ⟨l,N⟩ d)→Both (sema_named_l2 fu l N m i) (r3_owners_l3 fu l m i)∨(sema_named_l2 fu l N m i=some (⟨l,N⟩,⟨0,0⟩)∧r3_owners_l3 fu l m i=r3_owners_l5 fu l (l.length+1) 0 []):=by
 have hl:=C.len
 intro m
 induction m with
 | zero=>intro i h1 h2; omega
 | succ m ih =>
  intro i h1 h2 hd
  rw [sema_named_l2,r3_owners_l3]
  by_cases c:i<l.length
  ·have hm:=List.getElem_mem c
   obtain ⟨e,r1,r2⟩:=head_te C (C.fm _ hm)
   obtain ⟨e',s1,s2⟩:=sema_head_t ⟨l,N⟩ l[i] (ok.ok _ hm)
   rw [r1] at s1
   obtain rfl:=Option.some.inj s1
   have e1:at_ l (i:Int)=some l[i]:=by rw [at_nat,List.getElem?_eq_getElem c]
   rw [if_pos (by omega),if_pos (by omega),e1,bS,bS,r1,bS,r2,bS]
   by_cases z:e=0
   ·rw [if_neg (fun h=>h z),if_neg (fun h=>h z),i64_ok (by omega),bS,bS]
    refine ih (i+1) c (by omega) fun d h=>?_
    rw [List.take_succ_eq_append_getElem c] at h
    rcases List.mem_append.1 h with h | h
    ·exact hd d h
    ·rw [List.mem_singleton.1 h]; exact s2 z
   ·rw [if_pos z,if_pos z]
    exact .inl ⟨_,_,rfl,z,rfl⟩
  ·rw [if_neg (by omega),if_neg (by omega)]
   rw [List.take_of_length_le (by omega)] at hd
   exact l3_te hu C hd _ 0 (by omega) (by omega)
theorem own_dup {fu:Nat} (hu:100≤fu) {l:List TDef} (hl:l.length≤30) (t:Int) (ht:0≤t∧t≤100) {i:Nat} (hi:i<l.length) (K:Int→Int→Option (List TOwner×TFault)):∀ (m j:Nat),j≤i→i<m+j→r3_owners_l2 l t i K m j=if (∃ y ∈ (l.take i).drop j,y.Name=l[i].Name) then some ([],⟨7,i⟩) else if l[i].Kind=4 then K (t+1) ((i:Int)+1) else K t ((i:Int)+1):=by
 have e1:at_ l (i:Int)=some l[i]:=by rw [at_nat,List.getElem?_eq_getElem hi]
 have hlen:(l.take i).length=i:=by rw [List.length_take]; omega
 intro m
 induction m with
 | zero=>intro j h1 h2; omega
 | succ m ih =>
  intro j h1 h2
  rw [r3_owners_l2]
  by_cases c:j<i
  ·have e2:at_ l (j:Int)=some (l[j]'(by omega)):=by rw [at_nat,List.getElem?_eq_getElem (by omega)]
   have e3:(l.take i).drop j=l[j]'(by omega)::(l.take i).drop (j+1):=by
    rw [List.drop_eq_getElem_cons (by omega),List.getElem_take]
   rw [if_pos (by omega),e2,bS,e1,bS,e3]
   by_cases q:(l[j]'(by omega)).Name=l[i].Name
   ·rw [if_pos q,if_pos ⟨_,List.mem_cons_self ..,q⟩]
   ·rw [if_neg q,i64_ok (by omega),bS]
    have:=ih (j+1) c (by omega)
    rw [show ((j:Int)+1)=((j+1:Nat):Int) from rfl,this]
    by_cases w:∃ y ∈ (l.take i).drop (j+1),y.Name=l[i].Name
    ·obtain ⟨y,y1,y2⟩:=w
     rw [if_pos ⟨y,y1,y2⟩,if_pos ⟨y,List.mem_cons_of_mem _ y1,y2⟩]
    ·have w':¬ ∃ y ∈ l[j]'(by omega)::(l.take i).drop (j+1),y.Name=l[i].Name:=by
      rintro ⟨y,y1,y2⟩
      rcases List.mem_cons.1 y1 with rfl | y1
      ·exact q y2
      ·exact w ⟨y,y1,y2⟩
     rw [if_neg w,if_neg w']
  ·rw [if_neg (by omega),e1,bS,List.drop_eq_nil_of_le (by omega),if_neg (show ¬ ∃ y ∈ ([]:List TDef),y.Name=l[i].Name by simp)]
   by_cases k4:l[i].Kind=4
   ·rw [if_pos k4,if_pos k4,i64_ok (by omega),bS,i64_ok (by omega),bS]
   ·rw [if_neg k4,if_neg k4,i64_ok (by omega),bS]
theorem names_te {fu:Nat} (hu:5000≤fu) {l:List TDef} (ok:OkP l) (hF:∀ d ∈ l,FmD d):∀ (m i:Nat) (t:Int) (N:List (List UInt8×TDef)),i≤l.length→l.length<m+i→0≤t∧t≤i→(∀ n d,mget N n=some d→d ∈ l.take i∧d.Name=n)→(∀ d ∈ l.take i,mget N d.Name=some d) →
  Both (sema_named_l1 fu l m t i N) (r3_owners_l1 fu l m t i)∨(∃ N',sema_named_l1 fu l m t i N=some (⟨l,N'⟩,⟨0,0⟩)∧r3_owners_l1 fu l m t i=r3_owners_l5 fu l (l.length+1) 0 []):=by
 have hl:=ok.le
 intro m
 induction m with
 | zero=>intro i t N h1 h2; omega
 | succ m ih =>
  intro i t N h1 h2 ht n1 n2
  rw [sema_named_l1,r3_owners_l1]
  by_cases c:i<l.length
  ·have e1:at_ l (i:Int)=some l[i]:=by rw [at_nat,List.getElem?_eq_getElem c]
   have tk:=List.take_succ_eq_append_getElem c
   rw [if_pos (by omega),if_pos (by omega),e1]
   simp only [bS]
   rw [show (0:Int)=((0:Nat):Int) from rfl,own_dup (fu:=fu) (by omega) hl t (by omega) c _ fu 0 (by omega) (by omega)]
   by_cases q:(mget N l[i].Name).isSome=true
   ·rw [if_pos q]
    obtain ⟨d,hd⟩:=Option.isSome_iff_exists.1 q
    obtain ⟨m1,m2⟩:=n1 _ _ hd
    rw [List.drop_zero,if_pos ⟨d,m1,m2⟩]
    exact .inl ⟨_,_,rfl,(show (7:Int)≠0 by decide),rfl⟩
   ·have hno:¬ ∃ y ∈ (l.take i).drop 0,y.Name=l[i].Name:=by
     rintro ⟨y,y1,y2⟩
     rw [List.drop_zero] at y1
     have:=n2 _ y1
     rw [y2] at this
     rw [this] at q
     exact q rfl
    rw [if_neg q,if_neg hno]
    have key:∀ t',0≤t'∧t'≤((i+1:Nat):Int)→_:=fun t' h=>ih (i+1) t' (mput N l[i].Name l[i]) c (by omega) h (fun n d hd=>by
     rw [mget_mput] at hd
     by_cases w:l[i].Name=n
     ·rw [if_pos w] at hd
      obtain rfl:=Option.some.inj hd
      exact ⟨mem_take1 c,w⟩
     ·rw [if_neg w] at hd
      obtain ⟨a,b⟩:=n1 _ _ hd
      exact ⟨by rw [tk]; exact List.mem_append_left _ a,b⟩) (fun d hd=>by
     rw [mget_mput]
     rw [tk] at hd
     rcases List.mem_append.1 hd with hd | hd
     ·have:=n2 d hd
      by_cases w:l[i].Name=d.Name
      ·rw [w,this] at q
       exact absurd rfl q
      ·rw [if_neg w,this]
     ·rw [List.mem_singleton.1 hd,if_pos rfl])
    by_cases k4:l[i].Kind=4
    ·rw [if_pos k4,if_pos k4,i64_ok (by omega),bS,i64_ok (by omega),bS]
     exact key (t+1) (by omega)
    ·rw [if_neg k4,if_neg k4,i64_ok (by omega),bS]
     exact key t (by omega)
  ·rw [if_neg (show ¬ ((i:Int)<(l.length:Int)) by omega),if_neg (show ¬ ((i:Int)<(l.length:Int)) by omega)]
   rw [List.take_of_length_le (by omega)] at n1 n2
   by_cases z:t=0
   ·rw [if_pos z,if_pos z]
    exact .inl ⟨_,_,rfl,(show (6:Int)≠0 by decide),rfl⟩
   ·rw [if_neg z,if_neg z]
    have C:Ctx l ⟨l,N⟩:=⟨hl,n1,n2,hF⟩
    rcases l2_te hu C ok (l.length+1) 0 (by omega) (by omega) (by simp) with h | ⟨h,h'⟩
    ·exact .inl h
    ·exact .inr ⟨N,h,h'⟩
end Go.Y
namespace Go.Y
open Go.Wk Go.Xt
def qE (q:Int):Nat→TExpr→List Nm
 | 0,_=>[]
 | k+1,x=>(if x.Kind=q then [x.Name] else [])++(x.Kids.map (qE q k)).flatten
def qS (q:Int):Nat→TStat→List Nm
 | 0,_=>[]
 | k+1,s=>(if q=0 then (if s.Kind=7 then [s.Name] else []) else if s.Kind=6 then [] else qE q k s.X)++(if s.Kind=3∨s.Kind=4 then (s.Body.map (qS q k)).flatten else [])++(if s.Kind=3 then (s.Else.map (qS q k)).flatten else [])
def qD (q:Int) (d:TDef):List Nm:=(d.Body.map (qS q 39)).flatten
theorem map_map_eq {α β:Type} (f:α→α) (g:α→β) (l:List α) (h:∀ y ∈ l,g (f y)=g y):(l.map f).map g=l.map g:=by
 rw [List.map_map]
 exact List.map_congr_left h
section
variable {q:Int}
theorem bareE_fm (hq:q=0∨q=19∨q=20∨q=22):∀ (k K:Nat) (x:TExpr),FmE k x→k≤K→FmE k (bareE K x)∧SzE k (bareE K x)∧qE q k (bareE K x)=qE q k x:=by
 intro k
 induction k with
 | zero=>intro K x h; exact h.elim
 | succ k ih =>
  intro K x h hK
  obtain ⟨K,rfl⟩:∃ m,K=m+1:=⟨K - 1,by omega⟩
  obtain ⟨k1,k24,hk,hN,hB,hM,hkids⟩:=h
  have I:=fun y hy=>ih K y (hkids y hy) (by omega)
  rw [bareE]
  refine ⟨⟨k1,k24,⟨by simpa using hk.eq,by simpa using hk.le⟩,fun h=>?_,fun h=>?_,fun h=>?_,fun y hy=>?_⟩,⟨?_,fun y hy=>?_⟩,?_⟩
  ·dsimp only at h ⊢
   rw [if_pos (.inl h)]
   exact hN h
  ·dsimp only at h ⊢
   rw [if_pos (.inr h)]
   exact hB h
  ·dsimp only at h ⊢
   rw [if_pos h]
   exact hM h
  ·obtain ⟨z,hz,rfl⟩:=List.mem_map.1 hy
   exact (I z hz).1
  ·have:=hk.le
   simp only [List.length_map]
   omega
  ·obtain ⟨z,hz,rfl⟩:=List.mem_map.1 hy
   exact (I z hz).2.1
  ·rw [qE,qE]
   dsimp only
   rw [map_map_eq _ _ _ fun y hy=>(I y hy).2.2]
   congr 1
   by_cases c:x.Kind=q
   ·rw [if_pos c,if_pos c,if_pos (by omega)]
   ·rw [if_neg c,if_neg c]
theorem bareS_fm (hq:q=0∨q=19∨q=20∨q=22):∀ (k K:Nat) (x:TStat),FmS k x→k≤K→FmS k (bareS K x)∧SzS (k+1) (bareS K x)∧qS q k (bareS K x)=qS q k x:=by
 intro k
 induction k with
 | zero=>intro K x h; exact h.elim
 | succ k ih =>
  intro K x h hK
  obtain ⟨K,rfl⟩:∃ m,K=m+1:=⟨K - 1,by omega⟩
  obtain ⟨k1,k9,hX,hN,hB,hE⟩:=h
  rw [bareS]
  have XX:x.Kind≠6→FmE k (bareE K x.X)∧SzE k (bareE K x.X)∧qE q k (bareE K x.X)=qE q k x.X:=fun h=>bareE_fm hq k K x.X (hX h) (by omega)
  have BB:(x.Kind=3∨x.Kind=4)→∀ y ∈ x.Body,FmS k (bareS K y)∧SzS (k+1) (bareS K y)∧qS q k (bareS K y)=qS q k y:=fun h y hy=>ih K y ((hB h).2 y hy) (by omega)
  have EE:x.Kind=3→∀ y ∈ x.Else,FmS k (bareS K y)∧SzS (k+1) (bareS K y)∧qS q k (bareS K y)=qS q k y:=fun h y hy=>ih K y ((hE h).2 y hy) (by omega)
  refine ⟨⟨k1,k9,fun h=>?_,fun h=>?_,fun h=>⟨?_,fun y hy=>?_⟩,fun h=>⟨?_,fun y hy=>?_⟩⟩,⟨?_,⟨?_,fun y hy=>?_⟩,⟨?_,fun y hy=>?_⟩⟩,?_⟩
  ·dsimp only at h ⊢
   rw [if_pos h]
   exact (XX h).1
  ·dsimp only at h ⊢
   rw [if_pos h]
   exact hN h
  ·dsimp only at h ⊢
   rw [if_pos h,List.length_map]
   exact (hB h).1
  ·dsimp only at h hy
   rw [if_pos h] at hy
   obtain ⟨z,hz,rfl⟩:=List.mem_map.1 hy
   exact (BB h z hz).1
  ·dsimp only at h ⊢
   rw [if_pos h,List.length_map]
   exact (hE h).1
  ·dsimp only at h hy
   rw [if_pos h] at hy
   obtain ⟨z,hz,rfl⟩:=List.mem_map.1 hy
   exact (EE h z hz).1
  ·dsimp only
   by_cases c:x.Kind≠6
   ·rw [if_pos c]
    exact (XX c).2.1.up (by omega)
   ·rw [if_neg c]
    exact ⟨by simp,by simp⟩
  ·dsimp only
   by_cases c:x.Kind=3∨x.Kind=4
   ·have:=(hB c).1
    rw [if_pos c,List.length_map]
    omega
   ·rw [if_neg c]
    simp
  ·dsimp only at hy
   by_cases c:x.Kind=3∨x.Kind=4
   ·rw [if_pos c] at hy
    obtain ⟨z,hz,rfl⟩:=List.mem_map.1 hy
    exact (BB c z hz).2.1
   ·rw [if_neg c] at hy
    cases hy
  ·dsimp only
   by_cases c:x.Kind=3
   ·have:=(hE c).1
    rw [if_pos c,List.length_map]
    omega
   ·rw [if_neg c]
    simp
  ·dsimp only at hy
   by_cases c:x.Kind=3
   ·rw [if_pos c] at hy
    obtain ⟨z,hz,rfl⟩:=List.mem_map.1 hy
    exact (EE c z hz).2.1
   ·rw [if_neg c] at hy
    cases hy
  ·rw [qS,qS]
   dsimp only
   congr 1
   ·congr 1
    ·by_cases z:q=0
     ·rw [if_pos z,if_pos z]
      by_cases c:x.Kind=7
      ·rw [if_pos c,if_pos c,if_pos (by omega)]
      ·rw [if_neg c,if_neg c]
     ·rw [if_neg z,if_neg z]
      by_cases c:x.Kind=6
      ·rw [if_pos c,if_pos c]
      ·rw [if_neg c,if_neg c,if_pos c]
       exact (XX c).2.2
    ·by_cases c:x.Kind=3∨x.Kind=4
     ·rw [if_pos c,if_pos c,if_pos c,map_map_eq _ _ _ fun y hy=>(BB c y hy).2.2]
     ·rw [if_neg c,if_neg c]
   ·by_cases c:x.Kind=3
    ·rw [if_pos c,if_pos c,if_pos c,map_map_eq _ _ _ fun y hy=>(EE c y hy).2.2]
    ·rw [if_neg c,if_neg c]
end
theorem any_flat {α:Type} {f:α→List Nm} {l:List α} {n:Nm}:n ∈ (l.map f).flatten ↔ ∃ y ∈ l,n ∈ f y:=by
 constructor
 ·intro h
  obtain ⟨a,ha,hb⟩:=mem_flat h
  exact ⟨a,ha,hb⟩
 ·rintro ⟨y,h1,h2⟩
  exact List.mem_flatten.2 ⟨f y,List.mem_map.2 ⟨y,h1,rfl⟩,h2⟩
theorem speaks_e (q:Int) (n:Nm):∀ (k m:Nat) (x:TExpr),FmE k x→k+1≤m→(R3K_run m).r3_speaks x q n=some (decide (n ∈ qE q k x)):=by
 intro k
 induction k with
 | zero=>intro m x h; exact h.elim
 | succ k ih =>
  intro m x h hm
  obtain ⟨m,rfl⟩:∃ q,m=q+1:=⟨m - 1,by omega⟩
  obtain ⟨k1,k24,hk,hN,hB,hM,hkids⟩:=h
  show r3_speaks (R3K_run m) x q n=_
  have h6:=hk.le
  have L:∀ (f i:Nat),i≤x.Kids.length→x.Kids.length<f+i→r3_speaks_l1 (R3K_run m) x q n f i=some (decide (n ∈ ((x.Kids.drop i).map (qE q k)).flatten)):=by
   intro f
   induction f with
   | zero=>intro i h1 h2; omega
   | succ f ihf =>
    intro i h1 h2
    rw [r3_speaks_l1]
    by_cases c:i<x.Kids.length
    ·rw [if_pos (by omega),at_nat,List.getElem?_eq_getElem c,bS,ih m _ (hkids _ (List.getElem_mem c)) (by omega),bS,List.drop_eq_getElem_cons c,List.map_cons,List.flatten_cons]
     by_cases w:n ∈ qE q k x.Kids[i]
     ·rw [if_pos (decide_eq_true w),decide_eq_true (List.mem_append_left _ w)]
     ·rw [if_neg (by simpa using w),i64_ok (by omega),bS]
      have:=ihf (i+1) c (by omega)
      rw [show ((i:Int)+1)=((i+1:Nat):Int) from rfl,this]
      congr 1
      exact decide_eq_decide.2 ⟨fun h=>List.mem_append_right _ h,fun h=>(List.mem_append.1 h).resolve_left w⟩
    ·rw [if_neg (by omega),List.drop_eq_nil_of_le (by omega)]
     rfl
  have J:∀ b,r3_speaks_j1 (R3K_run m) x q n b=some (b || decide (n ∈ (x.Kids.map (qE q k)).flatten)):=by
   intro b
   rw [r3_speaks_j1]
   cases b with
   | true=>rfl
   | false =>
    have:=L (x.Kids.length+1) 0 (by omega) (by omega)
    rw [show ((0:Nat):Int)=0 from rfl,List.drop_zero] at this
    rw [if_neg ff,this,Bool.false_or]
  rw [r3_speaks,qE]
  by_cases c:x.Kind=q
  ·rw [if_pos c,J,if_pos c]
   congr 1
   rw [← Bool.decide_or]
   exact decide_eq_decide.2 ⟨fun h=>h.elim (fun e=>List.mem_append_left _ (List.mem_singleton.2 e.symm)) fun e=>List.mem_append_right _ e,fun h=>(List.mem_append.1 h).imp (fun e=>(List.mem_singleton.1 e).symm) id⟩
  ·rw [if_neg c,J,if_neg c,Bool.false_or,List.nil_append]
theorem says_e (q:Int) (hq:q=0∨q=19∨q=20∨q=22) (n:Nm):∀ (k K m:Nat) (L:List TStat),L.length≤50→(∀ y ∈ L,FmS k y∧SzS K y)→k≤K→K+50+k≤m→(R3S_run m).r3_says L q n=some (decide (n ∈ (L.map (qS q k)).flatten)):=by
 intro k
 induction k with
 | zero =>
  intro K m L hL h hK hm
  have:L=[]:=by
   cases L with
   | nil=>rfl
   | cons y L=>exact ((h y (List.mem_cons_self ..)).1).elim
  subst this
  obtain ⟨m,rfl⟩:∃ q,m=q+1:=⟨m - 1,by omega⟩
  show r3_says m (R3S_run m) [] q n=_
  rw [r3_says,bstats_t m K [] (by omega) (by simp) (by simp),bS]
  rfl
 | succ k ih =>
  intro K m L hL h hK hm
  obtain ⟨m,rfl⟩:∃ q,m=q+1:=⟨m - 1,by omega⟩
  obtain ⟨K,rfl⟩:∃ q,K=q+1:=⟨K - 1,by omega⟩
  show r3_says m (R3S_run m) L q n=_
  rw [r3_says,bstats_t m (K+1) L (by omega) (by omega) (fun y hy=>(h y hy).2),bS,List.length_map]
  have rec1:∀ (M:List TStat),M.length≤50→(∀ y ∈ M,FmS k y)→(R3S_run m).r3_says (M.map (bareS K)) q n=some (decide (n ∈ (M.map (qS q k)).flatten)):=by
   intro M hM hy
   have:=ih (k+1) m (M.map (bareS K)) (by simpa using hM) (fun y hy'=>by
    obtain ⟨z,hz,rfl⟩:=List.mem_map.1 hy'
    have:=bareS_fm hq k K z (hy z hz) (by omega)
    exact ⟨this.1,this.2.1⟩) (Nat.le_succ _) (by omega)
   rw [this,map_map_eq _ _ _ fun y hy'=>(bareS_fm hq k K y (hy y hy') (by omega)).2.2]
  have nil1:(R3S_run m).r3_says [] q n=some false:=by
   have:=rec1 [] (by simp) (by simp)
   exact this
  have lp:∀ (f i:Nat),i≤L.length→L.length<f+i→r3_says_l1 m (R3S_run m) q n (L.map (bareS (K+1))) f i=some (decide (n ∈ ((L.drop i).map (qS q (k+1))).flatten)):=by
   intro f
   induction f with
   | zero=>intro i h1 h2; omega
   | succ f ihf =>
    intro i h1 h2
    rw [r3_says_l1,List.length_map]
    by_cases c:i<L.length
    ·obtain ⟨hf,hs⟩:=h _ (List.getElem_mem c)
     rw [if_pos (by omega),at_nat,List.getElem?_map,List.getElem?_eq_getElem c]
     dsimp only [Option.map]
     rw [bS,List.drop_eq_getElem_cons c,List.map_cons,List.flatten_cons]
     have nx:=ihf (i+1) c (by omega)
     generalize L[i]=x at hf hs ⊢
     have j1:∀ b,r3_says_j1 i (r3_says_l1 m (R3S_run m) q n (L.map (bareS (K+1))) f) b=some (b || decide (n ∈ ((L.drop (i+1)).map (qS q (k+1))).flatten)):=by
      intro b
      rw [r3_says_j1]
      cases b with
      | true=>rfl
      | false=>rw [if_neg ff,i64_ok (by omega),bS,Bool.false_or]; exact nx
     obtain ⟨k1,k9,hX,hN,hB,hE⟩:=hf
     have eB:(R3S_run m).r3_says (bareS (K+1) x).Body q n=some (decide (n ∈ (if x.Kind=3∨x.Kind=4 then (x.Body.map (qS q k)).flatten else []))):=by
      rw [bareS]
      dsimp only
      by_cases w:x.Kind=3∨x.Kind=4
      ·rw [if_pos w,if_pos w]
       exact rec1 _ (hB w).1 (hB w).2
      ·rw [if_neg w,if_neg w,nil1]; rfl
     have eE:(R3S_run m).r3_says (bareS (K+1) x).Else q n=some (decide (n ∈ (if x.Kind=3 then (x.Else.map (qS q k)).flatten else []))):=by
      rw [bareS]
      dsimp only
      by_cases w:x.Kind=3
      ·rw [if_pos w,if_pos w]
       exact rec1 _ (hE w).1 (hE w).2
      ·rw [if_neg w,if_neg w,nil1]; rfl
     have kk:(bareS (K+1) x).Kind=x.Kind:=rfl
     have fin:∀ (H A B D:List Nm) (b:Bool),(b=true ↔ n ∈ H)→((b || decide (n ∈ A)) || decide (n ∈ B) || decide (n ∈ D))=decide (n ∈ H++A++B++D):=by
      intro H A B D b hb
      cases b with
      | true =>
       rw [Bool.true_or,Bool.true_or,Bool.true_or]
       exact (decide_eq_true (by simp [hb.1 rfl])).symm
      | false =>
       have:n ∉ H:=fun h=>by have:=hb.2 h; cases this
       rw [Bool.false_or,← Bool.decide_or,← Bool.decide_or]
       exact decide_eq_decide.2 (by simp [this,or_assoc])
     have rest:∀ (H:List Nm) (b:Bool),(b=true ↔ n ∈ H)→∀ o:Option Bool,o=some b→(o.bind fun r=>if r=true then r3_says_j1 i (r3_says_l1 m (R3S_run m) q n (L.map (bareS (K+1))) f) true else ((R3S_run m).r3_says (bareS (K+1) x).Body q n).bind fun r=>if r=true then r3_says_j1 i (r3_says_l1 m (R3S_run m) q n (L.map (bareS (K+1))) f) true else ((R3S_run m).r3_says (bareS (K+1) x).Else q n).bind fun r=>r3_says_j1 i (r3_says_l1 m (R3S_run m) q n (L.map (bareS (K+1))) f) r)=some (decide (n ∈ H++(if x.Kind=3∨x.Kind=4 then (x.Body.map (qS q k)).flatten else [])++(if x.Kind=3 then (x.Else.map (qS q k)).flatten else [])++((L.drop (i+1)).map (qS q (k+1))).flatten)):=by
      intro H b hb o ho
      rw [ho,bS,← fin H _ _ _ b hb,eB,bS,eE,bS,j1,j1]
      cases b with
      | true=>rfl
      | false =>
       rw [if_neg ff,Bool.false_or]
       by_cases w:n ∈ (if x.Kind=3∨x.Kind=4 then (x.Body.map (qS q k)).flatten else [])
       ·rw [decide_eq_true w]; rfl
       ·rw [decide_eq_false w,if_neg ff,Bool.false_or]
     rw [qS,kk]
     by_cases z:q=0
     ·have np:¬ (0:Int)<q:=by omega
      rw [if_pos z,if_pos z]
      by_cases c7:x.Kind=7
      ·have nm7:(bareS (K+1) x).Name=x.Name:=by
        rw [bareS]
        dsimp only
        rw [if_pos (by omega)]
       rw [if_pos c7,if_pos c7,nm7]
       by_cases w:x.Name=n
       ·rw [if_pos w]
        have:=rest [x.Name] true (by simp [w]) (some true) rfl
        rw [bS,if_pos rfl] at this
        exact this
       ·rw [if_neg w,if_neg np]
        have:=rest [x.Name] false (by simp [Ne.symm w]) (some false) rfl
        rw [bS,if_neg ff] at this
        exact this
      ·rw [if_neg c7,if_neg c7,if_neg np]
       have:=rest [] false (by simp) (some false) rfl
       rw [bS,if_neg ff] at this
       exact this
     ·have np:(0:Int)<q:=by omega
      have sp:(R3K_run m).r3_speaks (bareS (K+1) x).X q n=some (decide (n ∈ (if x.Kind=6 then [] else qE q k x.X))):=by
       rw [bareS]
       dsimp only
       by_cases c6:x.Kind≠6
       ·have:=bareE_fm hq k K x.X (hX c6) (by omega)
        rw [if_pos c6,if_neg c6,speaks_e q n k m _ this.1 (by omega),this.2.2]
       ·obtain ⟨m,rfl⟩:∃ q,m=q+1:=⟨m - 1,by omega⟩
        rw [if_neg c6,if_pos (by simpa using c6)]
        show r3_speaks (R3K_run m) ⟨0,0,[],[]⟩ q n=_
        rw [r3_speaks,if_neg (show ¬ (0:Int)=q from fun h=>z h.symm)]
        rfl
      rw [if_neg z,if_neg z,if_pos np]
      exact rest _ _ (by simp) _ sp
    ·rw [if_neg (by omega),List.drop_eq_nil_of_le (by omega)]
     rfl
  have:=lp (L.length+1) 0 (by omega) (by omega)
  rw [show ((0:Nat):Int)=0 from rfl,List.drop_zero] at this
  exact this
end Go.Y
namespace Go.Y
open Go.Wk Go.Xt
inductive Rc (l:List TDef) (t:TDef):TDef→Prop
 | base:Rc l t t
 | step {d e:TDef}:Rc l t d→e ∈ l→(e.Kind=2∨e.Kind=3)→e.Name ∈ cD d→Rc l t e
theorem qE_c:∀ (k:Nat) (x:TExpr) (c:Nm),c ∈ qE 19 k x∨c ∈ qE 22 k x→c ∈ cE k x
 | 0,_,_,h=>by rcases h with h | h <;> cases h
 | k+1,x,c,h=>by
  rw [cE]
  rcases h with h | h
  ·rw [qE] at h
   rcases List.mem_append.1 h with h | h
   ·rcases mem_ite h with ⟨q,h⟩ | ⟨q,h⟩
    ·rw [if_pos (.inl q)]; exact List.mem_append_left _ h
    ·cases h
   ·obtain ⟨a,ha,hb⟩:=mem_flat h
    exact List.mem_append_right _ (any_flat.2 ⟨a,ha,qE_c k a c (.inl hb)⟩)
  ·rw [qE] at h
   rcases List.mem_append.1 h with h | h
   ·rcases mem_ite h with ⟨q,h⟩ | ⟨q,h⟩
    ·rw [if_pos (.inr q)]; exact List.mem_append_left _ h
    ·cases h
   ·obtain ⟨a,ha,hb⟩:=mem_flat h
    exact List.mem_append_right _ (any_flat.2 ⟨a,ha,qE_c k a c (.inr hb)⟩)
theorem cE_q {p:TSp}:∀ (k:Nat) (x:TExpr),Calls p k x→∀ c ∈ cE k x,(c ∈ qE 19 k x∧∃ d,mget p.named c=some d∧d.Kind=2)∨(c ∈ qE 22 k x∧∃ d,mget p.named c=some d∧d.Kind=3)
 | 0,_,h,_,_=>h.elim
 | k+1,x,h,c,hc=>by
  obtain ⟨h1,h2,h3,h4⟩:=h
  rw [cE] at hc
  rw [qE,qE]
  rcases List.mem_append.1 hc with hc | hc
  ·rcases mem_ite hc with ⟨q,hc⟩ | ⟨q,hc⟩
   ·have e:=List.mem_singleton.1 hc
    rcases q with q | q
    ·refine .inl ⟨?_,?_⟩
     ·rw [if_pos q]; exact List.mem_append_left _ hc
     ·rw [e]; exact h1 q
    ·refine .inr ⟨?_,?_⟩
     ·rw [if_pos q]; exact List.mem_append_left _ hc
     ·rw [e]; exact h2 q
   ·cases hc
  ·obtain ⟨a,ha,hb⟩:=mem_flat hc
   rcases cE_q k a (h4 a ha) c hb with ⟨q1,q2⟩ | ⟨q1,q2⟩
   ·exact .inl ⟨List.mem_append_right _ (any_flat.2 ⟨a,ha,q1⟩),q2⟩
   ·exact .inr ⟨List.mem_append_right _ (any_flat.2 ⟨a,ha,q1⟩),q2⟩
theorem rE_q:∀ (k:Nat) (x:TExpr),rE k x=qE 20 k x
 | 0,_=>rfl
 | k+1,x=>by rw [rE,qE,List.map_congr_left fun y _=>rE_q k y]
theorem sS_q:∀ (k:Nat) (x:TStat),sS k x=qS 0 k x
 | 0,_=>rfl
 | k+1,x=>by rw [sS,qS,if_pos rfl,List.map_congr_left (f:=sS k) (g:=qS 0 k) fun y _=>sS_q k y,List.map_congr_left (f:=sS k) (g:=qS 0 k) fun y _=>sS_q k y]
theorem rS_q:∀ (k:Nat) (x:TStat),rS k x=qS 20 k x
 | 0,_=>rfl
 | k+1,x=>by rw [rS,qS,if_neg (show ¬ (20:Int)=0 by decide),rE_q,List.map_congr_left (f:=rS k) (g:=qS 20 k) fun y _=>rS_q k y,List.map_congr_left (f:=rS k) (g:=qS 20 k) fun y _=>rS_q k y]
theorem sD_q (d:TDef):sD d=qD 0 d:=by rw [sD,qD,List.map_congr_left fun y _=>sS_q 39 y]
theorem rD_q (d:TDef):rD d=qD 20 d:=by rw [rD,qD,List.map_congr_left fun y _=>rS_q 39 y]
theorem mem_iteI {c:Prop} [Decidable c] {l:List Nm} {b:Nm} (h:c) (hb:b ∈ l):b ∈ (if c then l else []):=by rw [if_pos h]; exact hb
theorem qS_c:∀ (k:Nat) (x:TStat) (c:Nm),c ∈ qS 19 k x∨c ∈ qS 22 k x→c ∈ cS k x
 | 0,_,_,h=>by rcases h with h | h <;> cases h
 | k+1,x,c,h=>by
  have key:∀ q:Int,q≠0→(∀ y,c ∈ qE q k y→c ∈ cE k y)→(∀ y,c ∈ qS q k y→c ∈ cS k y)→c ∈ qS q (k+1) x→c ∈ cS (k+1) x:=by
   intro q hq hE hS h
   rw [qS,if_neg hq] at h
   rw [cS]
   rcases List.mem_append.1 h with h | h
   ·rcases List.mem_append.1 h with h | h
    ·refine List.mem_append_left _ (List.mem_append_left _ ?_)
     rcases mem_ite h with ⟨w,h⟩ | ⟨w,h⟩
     ·cases h
     ·rw [if_neg w]; exact hE _ h
    ·refine List.mem_append_left _ (List.mem_append_right _ ?_)
     rcases mem_ite h with ⟨w,h⟩ | ⟨w,h⟩
     ·obtain ⟨a,ha,hb⟩:=mem_flat h
      exact mem_iteI w (any_flat.2 ⟨a,ha,hS a hb⟩)
     ·cases h
   ·refine List.mem_append_right _ ?_
    rcases mem_ite h with ⟨w,h⟩ | ⟨w,h⟩
    ·obtain ⟨a,ha,hb⟩:=mem_flat h
     exact mem_iteI w (any_flat.2 ⟨a,ha,hS a hb⟩)
    ·cases h
  rcases h with h | h
  ·exact key 19 (by decide) (fun y hy=>qE_c k y c (.inl hy)) (fun y hy=>qS_c k y c (.inl hy)) h
  ·exact key 22 (by decide) (fun y hy=>qE_c k y c (.inr hy)) (fun y hy=>qS_c k y c (.inr hy)) h
theorem cS_q {p:TSp}:∀ (k:Nat) (x:TStat),CallsS p k x→∀ c ∈ cS k x,(c ∈ qS 19 k x∧∃ d,mget p.named c=some d∧d.Kind=2)∨(c ∈ qS 22 k x∧∃ d,mget p.named c=some d∧d.Kind=3)
 | 0,_,h,_,_=>h.elim
 | k+1,x,h,c,hc=>by
  obtain ⟨h1,h2,h3,h4⟩:=h
  rw [cS] at hc
  rw [qS,qS,if_neg (show ¬ (19:Int)=0 by decide),if_neg (show ¬ (22:Int)=0 by decide)]
  rcases List.mem_append.1 hc with hc | hc
  ·rcases List.mem_append.1 hc with hc | hc
   ·rcases mem_ite hc with ⟨w,hc⟩ | ⟨w,hc⟩
    ·cases hc
    ·rw [if_neg w,if_neg w]
     exact (cE_q k _ (h1 w) c hc).imp (fun ⟨a,b⟩=>⟨List.mem_append_left _ (List.mem_append_left _ a),b⟩) (fun ⟨a,b⟩=>⟨List.mem_append_left _ (List.mem_append_left _ a),b⟩)
   ·rcases mem_ite hc with ⟨w,hc⟩ | ⟨w,hc⟩
    ·obtain ⟨a,ha,hb⟩:=mem_flat hc
     exact (cS_q k a (h2 w a ha) c hb).imp (fun ⟨q,b⟩=>⟨List.mem_append_left _ (List.mem_append_right _ (mem_iteI w (any_flat.2 ⟨a,ha,q⟩))),b⟩) (fun ⟨q,b⟩=>⟨List.mem_append_left _ (List.mem_append_right _ (mem_iteI w (any_flat.2 ⟨a,ha,q⟩))),b⟩)
    ·cases hc
  ·rcases mem_ite hc with ⟨w,hc⟩ | ⟨w,hc⟩
   ·obtain ⟨a,ha,hb⟩:=mem_flat hc
    exact (cS_q k a (h3 w a ha) c hb).imp (fun ⟨q,b⟩=>⟨List.mem_append_right _ (mem_iteI w (any_flat.2 ⟨a,ha,q⟩)),b⟩) (fun ⟨q,b⟩=>⟨List.mem_append_right _ (mem_iteI w (any_flat.2 ⟨a,ha,q⟩)),b⟩)
   ·cases hc
def Spk (d e:TDef):Prop:=(e.Kind=2∧e.Name ∈ qD 19 d)∨(e.Kind=3∧e.Name ∈ qD 22 d)
instance (d e:TDef):Decidable (Spk d e):=by unfold Spk; infer_instance
theorem spk_c {p:TSp} {l:List TDef} (R:Right p l) {d e:TDef} (hd:d ∈ l) (k1:d.Kind≠1) (he:e ∈ l):Spk d e ↔ (e.Kind=2∨e.Kind=3)∧e.Name ∈ cD d:=by
 constructor
 ·rintro (⟨h1,h2⟩ | ⟨h1,h2⟩)
  ·obtain ⟨a,ha,hb⟩:=mem_flat h2
   exact ⟨.inl h1,any_flat.2 ⟨a,ha,qS_c 39 a _ (.inl hb)⟩⟩
  ·obtain ⟨a,ha,hb⟩:=mem_flat h2
   exact ⟨.inr h1,any_flat.2 ⟨a,ha,qS_c 39 a _ (.inr hb)⟩⟩
 ·rintro ⟨-,h2⟩
  obtain ⟨a,ha,hb⟩:=mem_flat h2
  have hn:=R.nm e he
  rcases cS_q 39 a (R.cs d hd k1 a ha) _ hb with ⟨q,d',e1,e2⟩ | ⟨q,d',e1,e2⟩
  ·rw [hn] at e1
   obtain rfl:=Option.some.inj e1
   exact .inl ⟨e2,any_flat.2 ⟨a,ha,q⟩⟩
  ·rw [hn] at e1
   obtain rfl:=Option.some.inj e1
   exact .inr ⟨e2,any_flat.2 ⟨a,ha,q⟩⟩
theorem addC_sp (N:List (Nm×TDef)):∀ (cs had:List Nm) (todo:List (Option TDef)),
  (∀ c ∈ cs,c ∈ (addC N cs had todo).1)∧(∀ c ∈ had,c ∈ (addC N cs had todo).1)∧(∀ c ∈ (addC N cs had todo).1,c ∈ had∨(c ∈ cs∧mget N c ∈ (addC N cs had todo).2))∧(∀ o ∈ todo,o ∈ (addC N cs had todo).2)∧(∀ o ∈ (addC N cs had todo).2,o ∈ todo∨∃ c ∈ cs,o=mget N c)
 | [],had,todo=>⟨fun c h=>(by cases h),fun c h=>h,fun c h=>.inl h,fun o h=>h,fun o h=>.inl h⟩
 | c::cs,had,todo=>by
  rw [addC]
  by_cases k:had.contains c=true
  ·rw [if_pos k]
   obtain ⟨a1,a2,a3,a4,a5⟩:=addC_sp N cs had todo
   have hc:c ∈ had:=by simpa using k
   refine ⟨fun x hx=>?_,a2,fun x hx=>(a3 x hx).imp id fun ⟨y,z⟩=>⟨List.mem_cons_of_mem _ y,z⟩,a4,fun o ho=>(a5 o ho).imp id fun ⟨y,y1,y2⟩=>⟨y,List.mem_cons_of_mem _ y1,y2⟩⟩
   rcases List.mem_cons.1 hx with rfl | hx
   ·exact a2 _ hc
   ·exact a1 x hx
  ·rw [if_neg k]
   obtain ⟨a1,a2,a3,a4,a5⟩:=addC_sp N cs (had++[c]) (todo++[mget N c])
   refine ⟨fun x hx=>?_,fun x hx=>a2 x (List.mem_append_left _ hx),fun x hx=>?_,fun o ho=>a4 o (List.mem_append_left _ ho),fun o ho=>?_⟩
   ·rcases List.mem_cons.1 hx with rfl | hx
    ·exact a2 _ (List.mem_append_right _ (List.mem_singleton.2 rfl))
    ·exact a1 x hx
   ·rcases a3 x hx with h | ⟨h,h'⟩
    ·rcases List.mem_append.1 h with h | h
     ·exact .inl h
     ·obtain rfl:=List.mem_singleton.1 h
      exact .inr ⟨List.mem_cons_self ..,a4 _ (List.mem_append_right _ (List.mem_singleton.2 rfl))⟩
    ·exact .inr ⟨List.mem_cons_of_mem _ h,h'⟩
   ·rcases a5 o ho with h | ⟨y,y1,y2⟩
    ·rcases List.mem_append.1 h with h | h
     ·exact .inl h
     ·exact .inr ⟨c,List.mem_cons_self ..,List.mem_singleton.1 h⟩
    ·exact .inr ⟨y,List.mem_cons_of_mem _ y1,y2⟩
structure RI (p:TSp) (l:List TDef) (t:TDef) (had:List Nm) (todo:List (Option TDef)) (s r:List Nm) (D:List TDef):Prop where
 i1:∀ b,b ∈ s ↔ ∃ d ∈ D,b ∈ sD d
 i2:∀ b,b ∈ r ↔ ∃ d ∈ D,b ∈ rD d
 i3:∀ d,d ∈ D∨some d ∈ todo→Rc l t d∧d ∈ l∧d.Kind≠1
 i4:∀ d ∈ D,∀ c ∈ cD d,c ∈ had
 i5:∀ c ∈ had,∃ e,mget p.named c=some e∧(e ∈ D∨some e ∈ todo)
 i6:t ∈ D∨some t ∈ todo
theorem rch_sp {p:TSp} {l:List TDef} (R:Right p l) {t:TDef}:∀ (n:Nat) (had:List Nm) (todo:List (Option TDef)) (s r:List Nm) (D:List TDef) (u:TSemaUses),rch p.named n had todo s r=some u→RI p l t had todo s r D →
  ∀ b,(b ∈ u.sends ↔ ∃ d,Rc l t d∧b ∈ sD d)∧(b ∈ u.recvs ↔ ∃ d,Rc l t d∧b ∈ rD d):=by
 intro n
 induction n with
 | zero=>intro had todo s r D u h; cases h
 | succ n ih =>
  intro had todo s r D u h I
  cases todo with
  | nil =>
   rw [rch] at h
   obtain rfl:=Option.some.inj h
   have all:∀ d,Rc l t d→d ∈ D:=by
    intro d hd
    induction hd with
    | base=>exact I.i6.resolve_right (by simp)
    | step h1 h2 h3 h4 ihd =>
     obtain ⟨e,e1,e2⟩:=I.i5 _ (I.i4 _ ihd _ h4)
     rw [R.nm _ h2] at e1
     obtain rfl:=Option.some.inj e1
     exact e2.resolve_right (by simp)
   intro b
   refine ⟨(I.i1 b).trans ⟨fun ⟨d,h1,h2⟩=>⟨d,(I.i3 d (.inl h1)).1,h2⟩,fun ⟨d,h1,h2⟩=>⟨d,all d h1,h2⟩⟩,(I.i2 b).trans ⟨fun ⟨d,h1,h2⟩=>⟨d,(I.i3 d (.inl h1)).1,h2⟩,fun ⟨d,h1,h2⟩=>⟨d,all d h1,h2⟩⟩⟩
  | cons o todo =>
   cases o with
   | none=>cases h
   | some d =>
    rw [rch] at h
    obtain ⟨a1,a2,a3,a4,a5⟩:=addC_sp p.named (cD d) had todo
    obtain ⟨hd,hdl,hdk⟩:=I.i3 d (.inr (List.mem_cons_self ..))
    refine ih _ _ _ _ (D++[d]) u h ⟨fun b=>?_,fun b=>?_,fun e he=>?_,fun e he c hc=>?_,fun c hc=>?_,?_⟩
    ·rw [List.mem_append,I.i1]
     constructor
     ·rintro (⟨e,h1,h2⟩ | h)
      ·exact ⟨e,List.mem_append_left _ h1,h2⟩
      ·exact ⟨d,List.mem_append_right _ (List.mem_singleton.2 rfl),h⟩
     ·rintro ⟨e,h1,h2⟩
      rcases List.mem_append.1 h1 with h1 | h1
      ·exact .inl ⟨e,h1,h2⟩
      ·rw [List.mem_singleton.1 h1] at h2; exact .inr h2
    ·rw [List.mem_append,I.i2]
     constructor
     ·rintro (⟨e,h1,h2⟩ | h)
      ·exact ⟨e,List.mem_append_left _ h1,h2⟩
      ·exact ⟨d,List.mem_append_right _ (List.mem_singleton.2 rfl),h⟩
     ·rintro ⟨e,h1,h2⟩
      rcases List.mem_append.1 h1 with h1 | h1
      ·exact .inl ⟨e,h1,h2⟩
      ·rw [List.mem_singleton.1 h1] at h2; exact .inr h2
    ·rcases he with he | he
     ·rcases List.mem_append.1 he with he | he
      ·exact I.i3 e (.inl he)
      ·rw [List.mem_singleton.1 he]; exact ⟨hd,hdl,hdk⟩
     ·rcases a5 _ he with he | ⟨c,c1,c2⟩
      ·exact I.i3 e (.inr (List.mem_cons_of_mem _ he))
      ·obtain ⟨m1,m2⟩:=R.only c e c2.symm
       obtain ⟨a,ha,hb⟩:=mem_flat c1
       obtain ⟨e',q1,q2⟩:=callsS_c 39 a (R.cs d hdl hdk a ha) c hb
       rw [← c2] at q1
       obtain rfl:=Option.some.inj q1
       exact ⟨.step hd m1 q2 (by rw [m2]; exact c1),m1,by omega⟩
    ·rcases List.mem_append.1 he with he | he
     ·exact a2 _ (I.i4 e he c hc)
     ·rw [List.mem_singleton.1 he] at hc; exact a1 c hc
    ·rcases a3 c hc with h1 | ⟨h1,h2⟩
     ·obtain ⟨e,e1,e2⟩:=I.i5 c h1
      refine ⟨e,e1,?_⟩
      rcases e2 with e2 | e2
      ·exact .inl (List.mem_append_left _ e2)
      ·rcases List.mem_cons.1 e2 with e2 | e2
       ·exact .inl (List.mem_append_right _ (List.mem_singleton.2 (Option.some.inj e2)))
       ·exact .inr (a4 _ e2)
     ·obtain ⟨a,ha,hb⟩:=mem_flat h1
      obtain ⟨e',q1,q2⟩:=callsS_c 39 a (R.cs d hdl hdk a ha) c hb
      rw [q1] at h2
      exact ⟨e',q1,.inr h2⟩
    ·rcases I.i6 with h1 | h1
     ·exact .inl (List.mem_append_left _ h1)
     ·rcases List.mem_cons.1 h1 with h1 | h1
      ·exact .inl (List.mem_append_right _ (List.mem_singleton.2 (Option.some.inj h1)))
      ·exact .inr (a4 _ h1)
theorem reach_sp {p:TSp} {l:List TDef} (R:Right p l) {t:TDef} (ht:t ∈ l) (k1:t.Kind≠1) {fu:Nat} {u:TSemaUses} (h:rch p.named fu [] [some t] [] []=some u) (b:Nm):(b ∈ u.sends ↔ ∃ d,Rc l t d∧b ∈ sD d)∧(b ∈ u.recvs ↔ ∃ d,Rc l t d∧b ∈ rD d):=by
 refine rch_sp R fu [] [some t] [] [] [] u h ⟨by simp,by simp,fun d hd=>?_,by simp,by simp,.inr (by simp)⟩ b
 rcases hd with hd | hd
 ·cases hd
 ·obtain rfl:=Option.some.inj (List.mem_singleton.1 hd)
  exact ⟨.base,ht,k1⟩
theorem reaches_l3_e (i:Nat) (hi:i≤100) (out:List TDef) (hl:out.length≤100) (x:TDef) (K:Int→List TDef→Option (List TDef)):∀ (m j:Nat) (b:Bool),j≤out.length→out.length<m+j→r3_reaches_l3 i out x K m b j=if b=true∨∃ o ∈ out.drop j,o.Name=x.Name then K ((i:Int)+1) out else K ((i:Int)+1) (out++[x]):=by
 intro m
 induction m with
 | zero=>intro j b h1 h2; omega
 | succ m ih =>
  intro j b h1 h2
  rw [r3_reaches_l3]
  by_cases c:j<out.length
  ·rw [if_pos (by omega),at_nat,List.getElem?_eq_getElem c,bS,List.drop_eq_getElem_cons c]
   cases b with
   | true =>
    rw [if_pos rfl,i64_ok (by omega),bS,if_pos (.inl rfl)]
    have:=ih (j+1) true c (by omega)
    rw [if_pos (.inl rfl)] at this
    exact this
   | false =>
    rw [if_neg ff,i64_ok (by omega),bS]
    have:=ih (j+1) (decide (out[j].Name=x.Name)) c (by omega)
    rw [show ((j:Int)+1)=((j+1:Nat):Int) from rfl,this]
    by_cases w:out[j].Name=x.Name
    ·rw [if_pos (.inl (decide_eq_true w)),if_pos (.inr ⟨_,List.mem_cons_self ..,w⟩)]
    ·by_cases y:∃ o ∈ out.drop (j+1),o.Name=x.Name
     ·obtain ⟨o,o1,o2⟩:=y
      rw [if_pos (.inr ⟨o,o1,o2⟩),if_pos (.inr ⟨o,List.mem_cons_of_mem _ o1,o2⟩)]
     ·have y1:¬ (decide (out[j].Name=x.Name)=true∨∃ o ∈ out.drop (j+1),o.Name=x.Name):=by
       rintro (h | h)
       ·exact w (of_decide_eq_true h)
       ·exact y h
      have y2:¬ (false=true∨∃ o ∈ out[j]::out.drop (j+1),o.Name=x.Name):=by
       rintro (h | ⟨o,o1,o2⟩)
       ·cases h
       ·rcases List.mem_cons.1 o1 with rfl | o1
        ·exact w o2
        ·exact y ⟨o,o1,o2⟩
      rw [if_neg y1,if_neg y2]
  ·rw [if_neg (by omega),List.drop_eq_nil_of_le (by omega)]
   cases b with
   | true=>rw [if_pos rfl,if_pos (.inl rfl),i64_ok (by omega),bS]
   | false =>
    have y2:¬ (false=true∨∃ o ∈ ([]:List TDef),o.Name=x.Name):=by simp
    rw [if_neg ff,if_neg y2,app_ok (by simp; omega),bS,i64_ok (by omega),bS]
def adD (cur:TDef):List TDef→List TDef→List TDef
 | [],out=>out
 | x::xs,out=>adD cur xs (if Spk cur x∧¬ ∃ o ∈ out,o.Name=x.Name then out++[x] else out)
theorem adD_sp (l:List TDef) (cur:TDef):∀ (xs out:List TDef),(∀ x ∈ xs,x ∈ l)→rem_ l (out.map (·.Name))+out.length≤31 →
  (∃ ys,adD cur xs out=out++ys)∧rem_ l ((adD cur xs out).map (·.Name))+(adD cur xs out).length≤31∧(∀ x ∈ xs,Spk cur x→∃ o ∈ adD cur xs out,o.Name=x.Name)∧∀ o ∈ adD cur xs out,o ∈ out∨(o ∈ xs∧Spk cur o)
 | [],out,_,h=>⟨⟨[],by rw [adD,List.append_nil]⟩,h,fun x hx=>(by cases hx),fun o ho=>.inl ho⟩
 | x::xs,out,hx,h=>by
  have hx':∀ x ∈ xs,x ∈ l:=fun y hy=>hx y (List.mem_cons_of_mem _ hy)
  rw [adD]
  by_cases c:Spk cur x∧¬ ∃ o ∈ out,o.Name=x.Name
  ·rw [if_pos c]
   have hno:(out.map (·.Name)).contains x.Name=false:=by
    rw [Bool.eq_false_iff]
    intro hc
    have:x.Name ∈ out.map (·.Name):=by simpa using hc
    obtain ⟨o,o1,o2⟩:=List.mem_map.1 this
    exact c.2 ⟨o,o1,o2⟩
   have hr:=rem_add l (out.map (·.Name)) x (hx x (List.mem_cons_self ..)) hno
   obtain ⟨⟨ys,e⟩,b2,b3,b4⟩:=adD_sp l cur xs (out++[x]) hx' (by rw [List.map_append,List.length_append,List.map_cons,List.map_nil,List.length_singleton]; omega)
   refine ⟨⟨x::ys,by rw [e]; simp⟩,b2,fun y hy hs=>?_,fun o ho=>?_⟩
   ·rcases List.mem_cons.1 hy with rfl | hy
    ·exact ⟨y,by rw [e]; simp,rfl⟩
    ·exact b3 y hy hs
   ·rcases b4 o ho with h | ⟨h1,h2⟩
    ·rcases List.mem_append.1 h with h | h
     ·exact .inl h
     ·obtain rfl:=List.mem_singleton.1 h
      exact .inr ⟨List.mem_cons_self ..,c.1⟩
    ·exact .inr ⟨List.mem_cons_of_mem _ h1,h2⟩
  ·rw [if_neg c]
   obtain ⟨⟨ys,e⟩,b2,b3,b4⟩:=adD_sp l cur xs out hx' h
   refine ⟨⟨ys,e⟩,b2,fun y hy hs=>?_,fun o ho=>(b4 o ho).imp id fun ⟨h1,h2⟩=>⟨List.mem_cons_of_mem _ h1,h2⟩⟩
   rcases List.mem_cons.1 hy with rfl | hy
   ·have:∃ o ∈ out,o.Name=y.Name:=Classical.byContradiction fun hn=>c ⟨hs,hn⟩
    obtain ⟨o,o1,o2⟩:=this
    exact ⟨o,by rw [e]; exact List.mem_append_left _ o1,o2⟩
   ·exact b3 y hy hs
section
variable {l:List TDef} {fu K0:Nat}
theorem says_d (hF:∀ d ∈ l,FmD d) (hz:SzP K0 l) (hK:39≤K0) (hu:K0+100≤fu) {q:Int} (hq:q=0∨q=19∨q=20∨q=22) {d:TDef} (hd:d ∈ l) (k1:d.Kind≠1) (n:Nm):(R3S_run fu).r3_says d.Body q n=some (decide (n ∈ qD q d)):=by
 obtain ⟨h5,hS⟩:=(hF d hd).bo k1
 exact says_e q hq n 39 K0 fu d.Body h5 (fun y hy=>⟨hS y hy,(hz.2 d hd).2.2 y hy⟩) hK (by omega)
theorem reaches_l2_e (hl:l.length≤30) (hF:∀ d ∈ l,FmD d) (hz:SzP K0 l) (hK:39≤K0) (hu:K0+100≤fu) {cur:TDef} (hc:cur ∈ l) (hck:cur.Kind≠1) {i:Nat} (hi:i≤100) (K:Int→List TDef→Option (List TDef)):∀ (m j:Nat) (out:List TDef),j≤l.length→l.length<m+j→rem_ l (out.map (·.Name))+out.length≤31→out[i]?=some cur→r3_reaches_l2 fu l i K m j out=K ((i:Int)+1) (adD cur (l.drop j) out):=by
 intro m
 induction m with
 | zero=>intro j out h1 h2; omega
 | succ m ih =>
  intro j out h1 h2 hr ho
  rw [r3_reaches_l2]
  by_cases c:j<l.length
  ·rw [if_pos (by omega),at_nat,List.getElem?_eq_getElem c,bS,List.drop_eq_getElem_cons c,adD]
   have hx:=List.getElem_mem c
   generalize l[j]=x at hx ⊢
   have nx:∀ out',rem_ l (out'.map (·.Name))+out'.length≤31→out'[i]?=some cur→r3_reaches_l2 fu l i K m ((j:Int)+1) out'=K ((i:Int)+1) (adD cur (l.drop (j+1)) out'):=fun out' a b=>ih (j+1) out' c (by omega) a b
   have skip:¬ Spk cur x→r3_reaches_l2 fu l i K m ((j:Int)+1) out=K ((i:Int)+1) (adD cur (l.drop (j+1)) (if Spk cur x∧¬ ∃ o ∈ out,o.Name=x.Name then out++[x] else out)):=fun h=>by
    rw [if_neg (fun w=>h w.1)]
    exact nx out hr ho
   have J0:r3_reaches_j1 j out x (r3_reaches_l2 fu l i K m) true=r3_reaches_l2 fu l i K m ((j:Int)+1) out:=by
    rw [r3_reaches_j1,if_pos rfl,i64_ok (by omega),bS]
   have go:∀ q:Int,(q=19∧x.Kind=2∨q=22∧x.Kind=3)→((at_ out (i:Int)).bind fun x1215=>((R3S_run fu).r3_says x1215.Body q x.Name).bind fun r1235=>r3_reaches_j1 j out x (r3_reaches_l2 fu l i K m) (!r1235))=K ((i:Int)+1) (adD cur (l.drop (j+1)) (if Spk cur x∧¬ ∃ o ∈ out,o.Name=x.Name then out++[x] else out)):=by
    intro q hq
    rw [at_nat,ho,bS,says_d hF hz hK hu (by omega) hc hck,bS]
    have iff:Spk cur x ↔ x.Name ∈ qD q cur:=by
     rcases hq with ⟨rfl,h2⟩ | ⟨rfl,h2⟩
     ·exact ⟨fun h=>h.elim (fun a=>a.2) (fun a=>by omega),fun h=>.inl ⟨h2,h⟩⟩
     ·exact ⟨fun h=>h.elim (fun a=>by omega) (fun a=>a.2),fun h=>.inr ⟨h2,h⟩⟩
    by_cases w:x.Name ∈ qD q cur
    ·have hs:=iff.2 w
     rw [decide_eq_true w,r3_reaches_j1,if_neg (show ¬ ((!true)=true) by decide)]
     have:=reaches_l3_e j (by omega) out (by omega) x (r3_reaches_l2 fu l i K m) (out.length+1) 0 false (by omega) (by omega)
     rw [show ((0:Nat):Int)=0 from rfl,List.drop_zero] at this
     rw [this]
     by_cases y:∃ o ∈ out,o.Name=x.Name
     ·rw [if_pos (.inr y),if_neg (fun h=>h.2 y)]
      exact nx out hr ho
     ·have hno:(out.map (·.Name)).contains x.Name=false:=by
       rw [Bool.eq_false_iff]
       intro hc
       have:x.Name ∈ out.map (·.Name):=by simpa using hc
       obtain ⟨o,o1,o2⟩:=List.mem_map.1 this
       exact y ⟨o,o1,o2⟩
      have hr':=rem_add l (out.map (·.Name)) x hx hno
      have y':¬ (false=true∨∃ o ∈ out,o.Name=x.Name):=by
       rintro (h | h)
       ·cases h
       ·exact y h
      rw [if_neg y',if_pos ⟨hs,y⟩]
      refine nx _ (by rw [List.map_append,List.length_append,List.map_cons,List.map_nil,List.length_singleton]; omega) ?_
      have:=(List.getElem?_eq_some_iff.1 ho).1
      rw [List.getElem?_append_left this]
      exact ho
    ·rw [decide_eq_false w]
     show r3_reaches_j1 j out x (r3_reaches_l2 fu l i K m) true=_
     rw [J0]
     exact skip fun h=>w (iff.1 h)
   have zero:x.Kind≠2→x.Kind≠3→¬ Spk cur x:=fun a b h=>h.elim (fun h=>a h.1) (fun h=>b h.1)
   by_cases k2:x.Kind=2
   ·rw [k2]
    show (if (19:Int)=0 then _ else _)=_
    rw [if_neg (by decide)]
    exact go 19 (.inl ⟨rfl,k2⟩)
   ·by_cases k3:x.Kind=3
    ·rw [k3]
     show (if (22:Int)=0 then _ else _)=_
     rw [if_neg (by decide)]
     exact go 22 (.inr ⟨rfl,k3⟩)
    ·have e0:((mget (mput (mput ([]:List (Int×Int)) 2 19) 3 22) x.Kind).getD 0)=0:=by
      rw [mget_mput,if_neg (fun h=>k3 h.symm),mget_mput,if_neg (fun h=>k2 h.symm)]
      rfl
     rw [if_pos e0,J0]
     exact skip (zero k2 k3)
  ·rw [if_neg (by omega),List.drop_eq_nil_of_le (by omega),i64_ok (by omega),bS,adD]
theorem reaches_sp {p:TSp} (R:Right p l) (C:Ctx l p) (hz:SzP K0 l) (hK:39≤K0) (hu:K0+100≤fu) {t:TDef} (ht:t ∈ l) (k4:t.Kind=4):∃ out,r3_reaches fu l t.Name=some out∧out.length≤31∧∀ d,(d ∈ out ↔ Rc l t d)∧(d ∈ out→d ∈ l∧d.Kind≠1):=by
 have hl:=C.len
 have L:∀ (m i:Nat) (out:List TDef),31<m+i→i≤out.length→rem_ l (out.map (·.Name))+out.length≤31→t ∈ out→(∀ o ∈ out,o ∈ l∧o.Kind≠1∧Rc l t o)→(∀ d ∈ out.take i,∀ e ∈ l,Spk d e→∃ o ∈ out,o.Name=e.Name) →
   ∃ out',r3_reaches_l1 fu l m i out=some out'∧out'.length≤31∧t ∈ out'∧(∀ o ∈ out',o ∈ l∧o.Kind≠1∧Rc l t o)∧(∀ d ∈ out',∀ e ∈ l,Spk d e→∃ o ∈ out',o.Name=e.Name):=by
  intro m
  induction m with
  | zero=>intro i out h1 h2 h3; omega
  | succ m ih =>
   intro i out h1 h2 h3 h4 h5 h6
   rw [r3_reaches_l1]
   by_cases c:i<out.length
   ·have hm:=List.getElem_mem c
    obtain ⟨c1,c2,c3⟩:=h5 _ hm
    have e:=reaches_l2_e (fu:=fu) hl C.fm hz hK hu c1 c2 (i:=i) (by omega) (r3_reaches_l1 fu l m) (l.length+1) 0 out (by omega) (by omega) h3 (List.getElem?_eq_getElem c)
    rw [show ((0:Nat):Int)=0 from rfl,List.drop_zero] at e
    rw [if_pos (by omega),e]
    obtain ⟨⟨ys,e1⟩,b2,b3,b4⟩:=adD_sp l out[i] l out (fun x hx=>hx) h3
    refine ih (i+1) _ (by omega) (by rw [e1,List.length_append]; omega) b2 (by rw [e1]; exact List.mem_append_left _ h4) (fun o ho=>?_) (fun d hd e he hs=>?_)
    ·rcases b4 o ho with h | ⟨q1,q2⟩
     ·exact h5 o h
     ·obtain ⟨w1,w2⟩:=(spk_c R c1 c2 q1).1 q2
      exact ⟨q1,by omega,.step c3 q1 w1 w2⟩
    ·rw [e1,List.take_append_of_le_length (by omega),List.take_succ_eq_append_getElem c] at hd
     rcases List.mem_append.1 hd with hd | hd
     ·obtain ⟨o,o1,o2⟩:=h6 d hd e he hs
      exact ⟨o,by rw [e1]; exact List.mem_append_left _ o1,o2⟩
     ·rw [List.mem_singleton.1 hd] at hs
      exact b3 e he hs
   ·rw [if_neg (by omega)]
    rw [List.take_of_length_le (by omega)] at h6
    exact ⟨out,rfl,by omega,h4,h5,h6⟩
 have e0:r3_find l 4 t.Name=some (t,true):=by
  rw [C.find,R.nm t ht,fz,if_pos (isK_i k4)]
  rfl
 have hr:rem_ l [t.Name]≤30:=Nat.le_trans (List.length_filter_le _ _) hl
 obtain ⟨out,h1,h2,h3,h4,h5⟩:=L fu 0 [t] (by omega) (by simp) (by simpa using (by omega)) (by simp) (fun o ho=>by rw [List.mem_singleton.1 ho]; exact ⟨ht,by omega,.base⟩) (by simp)
 refine ⟨out,?_,h2,fun d=>⟨⟨fun h=>(h4 d h).2.2,fun h=>?_⟩,fun h=>⟨(h4 d h).1,(h4 d h).2.1⟩⟩⟩
 ·rw [r3_reaches,e0,bS]
  exact h1
 ·induction h with
  | base=>exact h3
  | step q1 q2 q3 q4 ihd =>
   obtain ⟨m1,m2,-⟩:=h4 _ ihd
   obtain ⟨o,o1,o2⟩:=h5 _ ihd _ q2 ((spk_c R m1 m2 q2).2 ⟨q3,q4⟩)
   have a:=R.nm _ (h4 o o1).1
   rw [o2,R.nm _ q2] at a
   rw [Option.some.inj a]
   exact o1
end
end Go.Y
namespace Go.Y
open Go.Wk Go.Xt
def fin3 (i:Int) (T:Nm) (K:Nm→Nm→Option (List TOwner×TFault)) (s r:Bool) (W V:Nm):Option (List TOwner×TFault) :=
 if (s=true∧W≠[]∧W≠T)∨(r=true∧V≠[]∧V≠T) then some ([],⟨8,i⟩) else K (if s=true then T else W) (if r=true then T else V)
theorem fin3_or (i:Int) (T:Nm) (K:Nm→Nm→Option (List TOwner×TFault)) (s r s' r':Bool) (W V:Nm) :
  (if s=true∧W≠[]∧W≠T then some ([],⟨8,i⟩) else if r=true∧V≠[]∧V≠T then some ([],⟨8,i⟩) else fin3 i T K s' r' (if s=true then T else W) (if r=true then T else V))=fin3 i T K (s || s') (r || r') W V:=by
 unfold fin3
 cases s <;> cases r <;> cases s' <;> cases r' <;> by_cases a:W≠[]∧W≠T <;> by_cases b:V≠[]∧V≠T <;> simp_all <;> (repeat' split) <;> simp_all <;> (rename_i h; exact (h.elim (fun h=>h.2 (a h.1)) (fun h=>h.2 (b h.1))).elim)
def anS (b:Nm) (out:List TDef):Bool:=out.any fun d=>(sD d).contains b
def anR (b:Nm) (out:List TDef):Bool:=out.any fun d=>(rD d).contains b
section
variable {l:List TDef} {fu K0:Nat}
theorem own_l7_e (hF:∀ d ∈ l,FmD d) (hz:SzP K0 l) (hK:39≤K0) (hu:K0+100≤fu) (i a:Int) (x T:TDef) (out:List TDef) (ho:out.length≤100) (hm:∀ d ∈ out,d ∈ l∧d.Kind≠1) (ha:0≤a∧a≤1000) (K:Int→Nm→Nm→Option (List TOwner×TFault)) :
  ∀ (m j:Nat) (W V:Nm),j≤out.length→out.length<m+j→r3_owners_l7 fu i x a T out K m j W V=fin3 i T.Name (K (a+1)) (anS x.Name (out.drop j)) (anR x.Name (out.drop j)) W V:=by
 intro m
 induction m with
 | zero=>intro j W V h1 h2; omega
 | succ m ih =>
  intro j W V h1 h2
  rw [r3_owners_l7]
  by_cases c:j<out.length
  ·obtain ⟨d1,d2⟩:=hm _ (List.getElem_mem c)
   rw [if_pos (by omega),at_nat,List.getElem?_eq_getElem c,bS,List.drop_eq_getElem_cons c]
   have nx:∀ W V,r3_owners_l7 fu i x a T out K m ((j:Int)+1) W V=_:=fun W V=>ih (j+1) W V c (by omega)
   generalize out[j]=d at d1 d2 ⊢
   have eS:anS x.Name (d::out.drop (j+1))=(decide (x.Name ∈ qD 0 d) || anS x.Name (out.drop (j+1))):=by
    rw [anS,List.any_cons,← sD_q]
    simp [anS]
   have eR:anR x.Name (d::out.drop (j+1))=(decide (x.Name ∈ qD 20 d) || anR x.Name (out.drop (j+1))):=by
    rw [anR,List.any_cons,← rD_q]
    simp [anR]
   rw [eS,eR,← fin3_or,says_d hF hz hK hu (.inl rfl) d1 d2,bS]
   have J1:∀ S,r3_owners_j1 fu i x T j V d (r3_owners_l7 fu i x a T out K m) S=if decide (x.Name ∈ qD 20 d)=true∧V≠[]∧V≠T.Name then some ([],⟨8,i⟩) else fin3 i T.Name (K (a+1)) (anS x.Name (out.drop (j+1))) (anR x.Name (out.drop (j+1))) S (if decide (x.Name ∈ qD 20 d)=true then T.Name else V):=by
    intro S
    rw [r3_owners_j1,says_d hF hz hK hu (.inr (.inr (.inl rfl))) d1 d2,bS]
    have J3:∀ b,r3_owners_j3 i T j S (r3_owners_l7 fu i x a T out K m) b=if b=true then some ([],⟨8,i⟩) else fin3 i T.Name (K (a+1)) (anS x.Name (out.drop (j+1))) (anR x.Name (out.drop (j+1))) S T.Name:=by
     intro b
     rw [r3_owners_j3]
     by_cases q:b=true
     ·rw [if_pos q,if_pos q]
     ·rw [if_neg q,if_neg q,i64_ok (by omega),bS]
      exact nx S T.Name
    by_cases w:decide (x.Name ∈ qD 20 d)=true
    ·rw [if_pos w,if_pos w]
     by_cases v:V≠[]
     ·rw [if_pos v,J3]
      by_cases y:V≠T.Name
      ·rw [if_pos (decide_eq_true y),if_pos ⟨w,v,y⟩]
      ·rw [if_neg (by simpa using y),if_neg (fun h=>y h.2.2)]
     ·rw [if_neg v,J3,if_neg ff,if_neg (fun h=>v h.2.1)]
    ·rw [if_neg w,if_neg w,if_neg (fun h=>w h.1),i64_ok (by omega),bS]
     exact nx S V
   have J2:∀ b,r3_owners_j2 fu i x T j V d (r3_owners_l7 fu i x a T out K m) b=if b=true then some ([],⟨8,i⟩) else r3_owners_j1 fu i x T j V d (r3_owners_l7 fu i x a T out K m) T.Name:=fun b=>by
    rw [r3_owners_j2]
   by_cases w:decide (x.Name ∈ qD 0 d)=true
   ·rw [if_pos w,if_pos w]
    by_cases v:W≠[]
    ·rw [if_pos v,J2]
     by_cases y:W≠T.Name
     ·rw [if_pos (decide_eq_true y),if_pos ⟨w,v,y⟩]
     ·rw [if_neg (by simpa using y),if_neg (fun h=>y h.2.2),J1]
    ·rw [if_neg v,J2,if_neg ff,if_neg (fun h=>v h.2.1),J1]
   ·rw [if_neg w,if_neg w,if_neg (fun h=>w h.1),J1]
  ·rw [if_neg (by omega),List.drop_eq_nil_of_le (by omega),i64_ok (by omega),bS,fin3,if_neg (by simp [anS,anR])]
   simp [anS,anR]
def Knows (l:List TDef) (L:List (Nm×TSemaUses)):Prop:=∀ t ∈ l,t.Kind=4→∃ u,mget L t.Name=some u∧∀ b,(b ∈ u.sends ↔ ∃ d,Rc l t d∧b ∈ sD d)∧(b ∈ u.recvs ↔ ∃ d,Rc l t d∧b ∈ rD d)
theorem own_l6_e {p:TSp} (R:Right p l) (C:Ctx l p) (hz:SzP K0 l) (hK:39≤K0) (hu:K0+100≤fu) {L:List (Nm×TSemaUses)} (hL:Knows l L) (i:Int) (hi:0≤i∧i≤1000) (acc:List TOwner) (ha:acc.length≤1000) (x:TDef) (K:Int→List TOwner→Option (List TOwner×TFault)) :
  ∀ (m j:Nat) (w r:Nm),j≤l.length→l.length<m+j→(w=[]∨∃ t ∈ l.take j,t.Name=w)→(r=[]∨∃ t ∈ l.take j,t.Name=r)→r3_owners_l6 fu l i acc x K m j w r=match own3 L x.Name (l.drop j) w r with | none=>some ([],⟨8,i⟩) | some (w',r')=>K (i+1) (acc++[⟨x.Name,w',r'⟩]):=by
 have hl:=C.len
 intro m
 induction m with
 | zero=>intro j w r h1 h2; omega
 | succ m ih =>
  intro j w r h1 h2 hw hr
  rw [r3_owners_l6]
  by_cases c:j<l.length
  ·have tk:=List.take_succ_eq_append_getElem c
   have up:∀ w:Nm,(w=[]∨∃ t ∈ l.take j,t.Name=w)→(w=[]∨∃ t ∈ l.take (j+1),t.Name=w):=fun w h=>h.imp id fun ⟨t,t1,t2⟩=>⟨t,by rw [tk]; exact List.mem_append_left _ t1,t2⟩
   rw [if_pos (by omega),at_nat,List.getElem?_eq_getElem c,bS,List.drop_eq_getElem_cons c,own3]
   have htm:=List.getElem_mem c
   by_cases k4:l[j].Kind≠4
   ·rw [if_pos k4,if_pos k4,i64_ok (by omega),bS]
    exact ih (j+1) w r c (by omega) (up w hw) (up r hr)
   ·rw [if_neg k4,if_neg k4]
    have k4':l[j].Kind=4:=by omega
    obtain ⟨u,u1,u2⟩:=hL _ htm k4'
    obtain ⟨out,o1,o2,o3⟩:=reaches_sp R C hz hK hu htm k4'
    have ne:∀ w:Nm,(∃ t ∈ l.take j,t.Name=w)→w≠l[j].Name:=by
     rintro w ⟨t,t1,t2⟩ e
     have h:=R.nd
     rw [List.pairwise_iff_getElem] at h
     obtain ⟨q,q1,q2⟩:=List.getElem_of_mem t1
     rw [List.length_take] at q1
     rw [List.getElem_take] at q2
     have:=h q j (by omega) c (by omega)
     rw [q2] at this
     exact this (t2.trans e)
    have nw:w≠[]→w≠l[j].Name:=fun h=>ne w (hw.resolve_left h)
    have nr:r≠[]→r≠l[j].Name:=fun h=>ne r (hr.resolve_left h)
    have eS:anS x.Name out=u.sends.contains x.Name:=by
     rw [Bool.eq_iff_iff]
     simp only [anS,List.any_eq_true,List.contains_iff_mem]
     rw [(u2 x.Name).1]
     exact ⟨fun ⟨d,d1,d2⟩=>⟨d,(o3 d).1.1 d1,d2⟩,fun ⟨d,d1,d2⟩=>⟨d,(o3 d).1.2 d1,d2⟩⟩
    have eR:anR x.Name out=u.recvs.contains x.Name:=by
     rw [Bool.eq_iff_iff]
     simp only [anR,List.any_eq_true,List.contains_iff_mem]
     rw [(u2 x.Name).2]
     exact ⟨fun ⟨d,d1,d2⟩=>⟨d,(o3 d).1.1 d1,d2⟩,fun ⟨d,d1,d2⟩=>⟨d,(o3 d).1.2 d1,d2⟩⟩
    have e7:=own_l7_e (fu:=fu) C.fm hz hK hu i j x l[j] out (by omega) (fun d hd=>(o3 d).2 hd) (by omega) (r3_owners_l6 fu l i acc x K m) (out.length+1) 0 w r (by omega) (by omega)
    rw [show ((0:Nat):Int)=0 from rfl,List.drop_zero,eS,eR] at e7
    rw [o1,bS,e7,u1,fin3]
    dsimp only [Option.getD]
    by_cases a:u.sends.contains x.Name=true∧w≠[]
    ·rw [if_pos (.inl ⟨a.1,a.2,nw a.2⟩),if_pos a]
    ·by_cases b:u.recvs.contains x.Name=true∧r≠[]
     ·rw [if_pos (.inr ⟨b.1,b.2,nr b.2⟩),if_neg a,if_pos b]
     ·have n0:¬ ((u.sends.contains x.Name=true∧w≠[]∧w≠l[j].Name)∨(u.recvs.contains x.Name=true∧r≠[]∧r≠l[j].Name)):=by
       rintro (h | h)
       ·exact a ⟨h.1,h.2.1⟩
       ·exact b ⟨h.1,h.2.1⟩
      rw [if_neg n0,if_neg a,if_neg b]
      refine ih (j+1) _ _ c (by omega) ?_ ?_
      ·by_cases q:u.sends.contains x.Name=true
       ·rw [if_pos q]; exact .inr ⟨l[j],mem_take1 c,rfl⟩
       ·rw [if_neg q]; exact up w hw
      ·by_cases q:u.recvs.contains x.Name=true
       ·rw [if_pos q]; exact .inr ⟨l[j],mem_take1 c,rfl⟩
       ·rw [if_neg q]; exact up r hr
  ·rw [if_neg (by omega),List.drop_eq_nil_of_le (by omega),app_ok (by simp; omega),bS,i64_ok (by omega),bS]
   rfl
theorem own_l5_e {p:TSp} (R:Right p l) (C:Ctx l p) (hz:SzP K0 l) (hK:39≤K0) (hu:K0+100≤fu) {L:List (Nm×TSemaUses)} (hL:Knows l L):∀ (m i:Nat) (acc:List TOwner),i≤l.length→l.length<m+i→acc.length≤i→r3_owners_l5 fu l m i acc=some (own2 L l (l.drop i) i acc):=by
 have hl:=C.len
 intro m
 induction m with
 | zero=>intro i acc h1 h2; omega
 | succ m ih =>
  intro i acc h1 h2 h3
  rw [r3_owners_l5]
  by_cases c:i<l.length
  ·rw [if_pos (by omega),at_nat,List.getElem?_eq_getElem c,bS,List.drop_eq_getElem_cons c,own2]
   by_cases k1:l[i].Kind≠1
   ·rw [if_pos k1,if_pos k1,i64_ok (by omega),bS]
    exact ih (i+1) acc c (by omega) (by omega)
   ·rw [if_neg k1,if_neg k1,show ((0:Int))=((0:Nat):Int) from rfl,own_l6_e R C hz hK hu hL i (by omega) acc (by omega) l[i] _ _ 0 [] [] (by omega) (by omega) (.inl rfl) (.inl rfl),List.drop_zero]
    cases h:own3 L l[i].Name l [] [] with
    | none=>rfl
    | some v=>exact ih (i+1) _ c (by omega) (by simp; omega)
  ·rw [if_neg (by omega),List.drop_eq_nil_of_le (by omega)]
   rfl
theorem own1_get (N:List (Nm×TDef)) (fu:Nat):∀ (ds:List TDef) (L:List (Nm×TSemaUses)),ds.Pairwise (fun a b=>a.Name≠b.Name)→(∀ n,(∀ d ∈ ds,d.Name≠n)→mget (own1 N fu ds L) n=mget L n)∧∀ t ∈ ds,t.Kind=4→mget (own1 N fu ds L) t.Name=some ((rch N fu [] [some t] [] []).getD noU)
 | [],L,_=>⟨fun n _=>rfl,fun t h=>by cases h⟩
 | d::ds,L,hp=>by
  obtain ⟨h1,h2⟩:=List.pairwise_cons.1 hp
  rw [own1]
  by_cases k4:d.Kind=4
  ·rw [if_pos k4]
   obtain ⟨a,b⟩:=own1_get N fu ds (mput L d.Name ((rch N fu [] [some d] [] []).getD noU)) h2
   refine ⟨fun n hn=>?_,fun t ht hk=>?_⟩
   ·rw [a n fun e he=>hn e (List.mem_cons_of_mem _ he),mget_mput,if_neg (hn d (List.mem_cons_self ..))]
   ·rcases List.mem_cons.1 ht with rfl | ht
    ·rw [a t.Name fun e he q=>h1 e he q.symm,mget_mput,if_pos rfl]
    ·exact b t ht hk
  ·rw [if_neg k4]
   obtain ⟨a,b⟩:=own1_get N fu ds L h2
   refine ⟨fun n hn=>a n fun e he=>hn e (List.mem_cons_of_mem _ he),fun t ht hk=>?_⟩
   rcases List.mem_cons.1 ht with rfl | ht
   ·exact absurd hk k4
   ·exact b t ht hk
end
end Go.Y
namespace Go.Y
open Go.Wk Go.Xt
theorem owners_same (k:Nat) (l:List TDef) (hl:SzP k l):∃ r,sema_owners (k+60001) l=some r∧r3_owners (k+60001) l=some r∧((r.2.Err≠0∧r.1=[])∨(l.length≤30∧(l.Pairwise fun a b=>a.Name≠b.Name)∧Fit l l r.1)):=by
 obtain ⟨f,h1,h2⟩:=syn_wrong_t (k+60001) (by omega) l
 have hw:=wrong_eq (fu:=k+60001) (by omega) l
 by_cases z:f.Err=0
 ·obtain ⟨-,ok⟩:=h2 z
  obtain ⟨-,hF⟩:=form_t (by omega) h1 z
  have e1:sema_named (k+60001) l=sema_named_l1 (k+60001) l (l.length+1) 0 0 []:=by
   rw [sema_named,h1,bS,if_neg (fun h=>h z)]
  have e2:r3_owners (k+60001) l=r3_owners_l1 (k+60001) l (l.length+1) 0 0:=by
   rw [r3_owners,hw,h1,bS,if_neg (fun h=>h z)]
  rcases names_te (fu:=k+60001) (by omega) ok hF (l.length+1) 0 0 [] (by omega) (by omega) (by omega) (fun n d h=>by cases h) (by simp) with ⟨p,f',a1,a2,a3⟩ | ⟨N,a1,a3⟩
  ·rw [show ((0:Nat):Int)=0 from rfl] at a1 a3
   refine ⟨([],f'),?_,by rw [e2,a3],.inl ⟨a2,rfl⟩⟩
   rw [sema_owners,e1,a1,bS,if_pos a2]
  ·rw [show ((0:Nat):Int)=0 from rfl] at a1 a3
   obtain ⟨p,f',b1,b2⟩:=sema_owners_t (k+60001) (by omega) l
   rw [e1,a1] at b1
   obtain ⟨rfl,rfl⟩:TSp.mk l N=p∧(TFault.mk 0 0)=f':=by simpa using b1
   rcases b2 with ⟨b2,-⟩ | ⟨-,R,b3⟩
   ·exact absurd rfl b2
   ·have C:Ctx l ⟨l,N⟩:=⟨ok.le,R.only,R.nm,hF⟩
    have hl':SzP (max k 39) l:=⟨hl.1,fun d hd=>⟨(hl.2 d hd).1,(hl.2 d hd).2.1,fun y hy=>((hl.2 d hd).2.2 y hy).up (by omega)⟩⟩
    have hL:Knows l (own1 N (k+60001) l []):=by
     intro t ht k4
     have g:=(own1_get N (k+60001) l [] R.nd).2 t ht k4
     obtain ⟨q1,u,q2,-⟩:=reach_e R (k+60001) (by omega) t ht (by omega)
     have q2':rch N (k+60001) [] [some t] [] []=some u:=q2
     rw [q2'] at g
     exact ⟨u,g,fun b=>reach_sp R ht (by omega) q2 b⟩
    refine ⟨own2 (own1 N (k+60001) l []) l l 0 [],b3,?_,?_⟩
    ·have:=own_l5_e (fu:=k+60001) R C hl' (by omega) (by omega) hL (l.length+1) 0 [] (by omega) (by omega) (by simp)
     rw [show ((0:Nat):Int)=0 from rfl,List.drop_zero] at this
     rw [e2,a3,this]
    ·generalize ho:own2 (own1 N (k+60001) l []) l l 0 []=res
     obtain ⟨os,g⟩:=res
     rcases own2_fit _ _ _ _ _ _ _ ho with ⟨e,h⟩ | ⟨e,os',h,hF'⟩
     ·exact .inl ⟨e,h⟩
     ·refine .inr ⟨ok.le,R.nd,?_⟩
      rw [h]
      exact hF'
 ·refine ⟨([],f),?_,?_,.inl ⟨z,rfl⟩⟩
  ·rw [sema_owners,sema_named,h1,bS,if_pos z,bS,if_pos z]
  ·rw [r3_owners,hw,h1,bS,if_pos z]
theorem edges_eq (r:List TOwner×TFault):∀ (m:Nat) (i:Int) (acc:List TEdge),r15_edges_l1 r m i acc=gr_edges_l1 r m i acc:=by
 intro m
 induction m with
 | zero=>intro i acc; rfl
 | succ m ih =>
  intro i acc
  have J:∀ (b:Bool) (x:TOwner),r15_edges_j1 i acc x (r15_edges_l1 r m) b=gr_edges_j1 i acc x (gr_edges_l1 r m) b:=by
   intro b x
   rw [r15_edges_j1,gr_edges_j1]
   simp only [ih]
  rw [r15_edges_l1,gr_edges_l1]
  split
  ·congr 1
   funext x
   rw [J,J]
   have e:∀ w:List UInt8,(0:Int)<(w.length:Int) ↔ w≠[]:=fun w=>by cases w <;> simp <;> omega
   by_cases c:x.Writer≠[]
   ·rw [if_pos ((e _).2 c),if_pos c]
    congr 1
    exact decide_eq_decide.2 (e _)
   ·rw [if_neg (fun h=>c ((e _).1 h)),if_neg c]
  ·rfl
def tkn (l:List TDef):List Nm:=(l.filter fun d=>decide (d.Kind=4)).map (·.Name)
theorem names_tk (l:List TDef) (hl:l.length≤30):gr_names l=some (tkn l):=by
 have L:∀ (m i:Nat) (acc:List Nm),i≤l.length→l.length<m+i→acc.length≤i→gr_names_l1 l m i acc=some (acc++tkn (l.drop i)):=by
  intro m
  induction m with
  | zero=>intro i acc h1 h2; omega
  | succ m ih =>
   intro i acc h1 h2 h3
   rw [gr_names_l1]
   by_cases c:i<l.length
   ·rw [if_pos (by omega),at_nat,List.getElem?_eq_getElem c,bS]
    rw [List.drop_eq_getElem_cons c]
    by_cases k:l[i].Kind=4
    ·rw [if_pos k,app_ok (by simp; omega),bS,i64_ok (by omega),bS]
     refine (ih (i+1) _ c (by omega) (by simp; omega)).trans ?_
     rw [tkn,tkn,List.filter_cons_of_pos (by simpa using k),List.map_cons,List.append_assoc,List.singleton_append]
    ·rw [if_neg k,i64_ok (by omega),bS]
     refine (ih (i+1) _ c (by omega) (by omega)).trans ?_
     rw [tkn,tkn,List.filter_cons_of_neg (by simpa using k)]
   ·rw [if_neg (by omega),List.drop_eq_nil_of_le (by omega)]
    simp [tkn]
 have:=L (l.length+1) 0 [] (by omega) (by omega) (by simp)
 simpa [gr_names] using this
theorem tkn_mem {l:List TDef} {n:Nm}:n ∈ tkn l ↔ ∃ t ∈ l,t.Kind=4∧t.Name=n:=by
 simp only [tkn,List.mem_map,List.mem_filter,decide_eq_true_eq]
 constructor
 ·rintro ⟨t,⟨h1,h2⟩,h3⟩; exact ⟨t,h1,h2,h3⟩
 ·rintro ⟨t,h1,h2,h3⟩; exact ⟨t,⟨h1,h2⟩,h3⟩
theorem tkn_nodup {l:List TDef} (h:l.Pairwise fun a b=>a.Name≠b.Name):(tkn l).Nodup:=by
 unfold tkn
 rw [List.Nodup,List.pairwise_map]
 exact h.filter _
theorem fit_wh {l:List TDef}:∀ (xs:List TDef) (os:List TOwner),Fit l xs os→∀ o ∈ os,Who l o.Writer∧Who l o.Reader
 | [],os,h,o,ho=>by
  have:os=[]:=h
  rw [this] at ho; cases ho
 | x::xs,os,h,o,ho=>by
  rcases h with ⟨-,h⟩ | ⟨-,o',os',rfl,-,h1,h2,h⟩
  ·exact fit_wh xs os h o ho
  ·rcases List.mem_cons.1 ho with rfl | ho
   ·exact ⟨h1,h2⟩
   ·exact fit_wh xs os' h o ho
theorem fit_ln {l:List TDef}:∀ (xs:List TDef) (os:List TOwner),Fit l xs os→os.length≤xs.length
 | [],os,h=>by
  have:os=[]:=h
  simp [this]
 | x::xs,os,h=>by
  rcases h with ⟨-,h⟩ | ⟨-,o,os',rfl,-,-,-,h⟩
  ·have:=fit_ln xs os h; simp; omega
  ·have:=fit_ln xs os' h; simp; omega
theorem edges_same (k:Nat) (l:List TDef) (hl:SzP k l):∃ E f,gr_edges (k+60001) l=some (E,f)∧r15_edges (k+60001) l=some (E,f)∧((f.Err≠0∧E=[])∨(f.Err=0∧l.length≤30∧(l.Pairwise fun a b=>a.Name≠b.Name)∧E.length≤30∧∀ x ∈ E,x.From ∈ tkn l)):=by
 obtain ⟨r,h1,h2,h3⟩:=owners_same k l hl
 rw [gr_edges,r15_edges,h1,h2,bS,bS]
 by_cases z:r.2.Err≠0
 ·rw [if_pos z,if_pos z]
  exact ⟨[],r.2,rfl,rfl,.inl ⟨z,rfl⟩⟩
 ·rw [if_neg z,if_neg z,edges_eq]
  rcases h3 with ⟨h,-⟩ | ⟨hl',hnd,hF⟩
  ·exact absurd h z
  ·have hw:=fit_wh _ _ hF
   have hol:=fit_ln _ _ hF
   have L:∀ (m i:Nat) (acc:List TEdge),i≤r.1.length→r.1.length<m+i→acc.length≤i→(∀ x ∈ acc,x.From ∈ tkn l)→∃ E,gr_edges_l1 r m i acc=some (E,r.2)∧E.length≤r.1.length∧∀ x ∈ E,x.From ∈ tkn l:=by
    intro m
    induction m with
    | zero=>intro i acc h1 h2; omega
    | succ m ih =>
     intro i acc h1 h2 h3 h4
     rw [gr_edges_l1]
     by_cases c:i<r.1.length
     ·rw [if_pos (by omega),at_nat,List.getElem?_eq_getElem c,bS]
      have J:∀ b,(b=true→r.1[i].Writer≠[])→∃ E,gr_edges_j1 (i:Int) acc r.1[i] (gr_edges_l1 r m) b=some (E,r.2)∧E.length≤r.1.length∧∀ x ∈ E,x.From ∈ tkn l:=by
       intro b hb
       rw [gr_edges_j1]
       by_cases q:b=true
       ·rw [if_pos q,app_ok (by simp; omega),bS,i64_ok (by omega),bS]
        refine ih (i+1) _ c (by omega) (by simp; omega) fun x hx=>?_
        rcases List.mem_append.1 hx with hx | hx
        ·exact h4 x hx
        ·rw [List.mem_singleton.1 hx]
         rcases (hw _ (List.getElem_mem c)).1 with h | h
         ·exact absurd h (hb q)
         ·exact tkn_mem.2 h
       ·rw [if_neg q,i64_ok (by omega),bS]
        exact ih (i+1) _ c (by omega) (by omega) h4
      by_cases w:r.1[i].Writer≠[]
      ·rw [if_pos w]; exact J _ fun _=>w
      ·rw [if_neg w]; exact J _ fun h=>by cases h
     ·rw [if_neg (by omega)]
      exact ⟨acc,rfl,by omega,h4⟩
   obtain ⟨E,e1,e2,e3⟩:=L (r.1.length+1) 0 [] (by omega) (by omega) (by simp) (by simp)
   rw [show ((0:Nat):Int)=0 from rfl] at e1
   exact ⟨E,r.2,e1,e1,.inr ⟨by simpa using z,hl',hnd,by omega,e3⟩⟩
theorem conf_tt (E:List TEdge) (hE:E.length≤30) (g:TEdge→Bool) (f:TEdge→Option Bool) (hf:∀ x,f x=some (g x)):conf_e E f=some (E.any g):=by
 have L:∀ (m i:Nat),i≤E.length→E.length<m+i→∃ r,idxf_e_l1 E f m i=some r∧(decide (0≤r)=(E.drop i).any g):=by
  intro m
  induction m with
  | zero=>intro i h1 h2; omega
  | succ m ih =>
   intro i h1 h2
   rw [idxf_e_l1]
   by_cases c:i<E.length
   ·rw [if_pos (by omega),at_nat,List.getElem?_eq_getElem c,bS,hf,bS,List.drop_eq_getElem_cons c,List.any_cons]
    cases h:g E[i] with
    | true=>rw [if_pos rfl]; exact ⟨_,rfl,by simp⟩
    | false =>
     rw [if_neg ff,i64_ok (by omega),bS]
     obtain ⟨r,e1,e2⟩:=ih (i+1) c (by omega)
     exact ⟨r,e1,by simpa using e2⟩
   ·rw [if_neg (by omega),List.drop_eq_nil_of_le (by omega)]
    exact ⟨_,rfl,by simp⟩
 obtain ⟨r,e1,e2⟩:=L (E.length+1) 0 (by omega) (by omega)
 rw [conf_e,idxf_e,show ((0:Int))=((0:Nat):Int) from rfl,e1,bS]
 rw [List.drop_zero] at e2
 exact congrArg some e2
def okk (E:List TEdge) (out:List Nm) (t:Nm):Bool:=E.all fun x=>decide (x.To≠t) || out.contains x.From
theorem o1_tt (E:List TEdge) (hE:E.length≤30) (left:List Nm) (t:Nm):gr_o1 t E left=some (!(E.any fun x=>decide (x.To=t) && left.contains x.From)):=by
 rw [gr_o1,conf_tt E hE (fun x=>decide (x.To=t) && left.contains x.From) _ fun x=>?_,bS]
 rw [gr_o11]
 by_cases c:x.To=t
 ·rw [if_pos c,decide_eq_true c,Bool.true_and]
 ·rw [if_neg c,decide_eq_false c,Bool.false_and]
theorem okk_e {l:List TDef} {E:List TEdge} (hF:∀ x ∈ E,x.From ∈ tkn l) (out:List Nm) (t:Nm):(!(E.any fun x=>decide (x.To=t) && ((tkn l).filter fun n=>!out.contains n).contains x.From))=okk E out t:=by
 rw [Bool.eq_iff_iff,okk,List.all_eq_true,Bool.not_eq_true',List.any_eq_false]
 constructor
 ·intro h x hx
  have:=h x hx
  have hf:=hF x hx
  by_cases c:x.To=t
  ·by_cases o:x.From ∈ out
   ·simp [o]
   ·simp [c,hf,o] at this
  ·simp [c]
 ·intro h x hx
  have:=h x hx
  by_cases c:x.To=t
  ·have o:x.From ∈ out:=by simpa [c] using this
   simp [o]
  ·simp [c]
def fk (g:Nm→Bool):List Nm→Option (Nm×List Nm)
 | []=>none
 | t::ts=>if g t=true then some (t,ts) else (fk g ts).map fun x=>(x.1,t::x.2)
theorem idx_tt (l:List Nm) (hl:l.length≤30) (g:Nm→Bool) (f:Nm→Option Bool) (hf:∀ x,f x=some (g x)):(fk g l=none∧idxf_s l f=some (-1))∨∃ (k:Nat) (h:k<l.length),fk g l=some (l[k],l.take k++l.drop (k+1))∧idxf_s l f=some (k:Int):=by
 have L:∀ (m i:Nat),i≤l.length→l.length<m+i→(fk g (l.drop i)=none∧idxf_s_l1 l f m i=some (-1))∨∃ (k:Nat) (h:i+k<l.length),fk g (l.drop i)=some (l[i+k],(l.drop i).take k++l.drop (i+k+1))∧idxf_s_l1 l f m i=some ((i+k:Nat):Int):=by
  intro m
  induction m with
  | zero=>intro i h1 h2; omega
  | succ m ih =>
   intro i h1 h2
   rw [idxf_s_l1]
   by_cases c:i<l.length
   ·rw [if_pos (by omega),at_nat,List.getElem?_eq_getElem c,bS,hf,bS,List.drop_eq_getElem_cons c,fk]
    cases h:g l[i] with
    | true=>rw [if_pos rfl,if_pos rfl]; exact .inr ⟨0,by simpa using c,by simp,by simp⟩
    | false =>
     rw [if_neg ff,if_neg ff,i64_ok (by omega),bS]
     rcases ih (i+1) c (by omega) with ⟨e1,e2⟩ | ⟨k,hk,e1,e2⟩
     ·exact .inl ⟨by rw [e1]; rfl,e2⟩
     ·refine .inr ⟨k+1,by omega,?_,?_⟩
      ·rw [e1]
       have a:i+1+k=i+(k+1):=by omega
       simp only [Option.map,a,List.take_succ_cons,List.cons_append]
      ·rw [show ((i:Int)+1)=((i+1:Nat):Int) from rfl,e2]
       congr 2
       omega
   ·rw [if_neg (by omega),List.drop_eq_nil_of_le (by omega)]
    exact .inl ⟨rfl,rfl⟩
 have:=L (l.length+1) 0 (by omega) (by omega)
 rw [List.drop_zero] at this
 rcases this with ⟨a,b⟩ | ⟨k,h,a,b⟩
 ·exact .inl ⟨a,b⟩
 ·refine .inr ⟨k,by omega,?_,?_⟩
  ·rw [a]
   have e:0+k=k:=by omega
   simp only [e]
  ·have e:0+k=k:=by omega
   rw [e] at b
   exact b
theorem fk_rest (g:Nm→Bool):∀ (l:List Nm) (t:Nm) (r:List Nm),l.Nodup→fk g l=some (t,r)→t ∈ l∧r=l.filter (fun n=>decide (n≠t))∧r.length+1=l.length
 | [],t,r,h,e=>by cases e
 | a::l,t,r,h,e=>by
  obtain ⟨h1,h2⟩:=List.nodup_cons.1 h
  rw [fk] at e
  by_cases c:g a=true
  ·rw [if_pos c] at e
   obtain ⟨rfl,rfl⟩:a=t∧l=r:=by simpa using e
   refine ⟨List.mem_cons_self ..,?_,rfl⟩
   rw [List.filter_cons_of_neg (by simp),List.filter_eq_self.2]
   intro n hn
   have:n≠a:=fun q=>h1 (q ▸ hn)
   simpa using this
  ·rw [if_neg c] at e
   cases q:fk g l with
   | none=>rw [q] at e; cases e
   | some x =>
    rw [q] at e
    obtain ⟨x1,x2⟩:=x
    obtain ⟨rfl,rfl⟩:x1=t∧a::x2=r:=by simpa using e
    obtain ⟨a1,a2,a3⟩:=fk_rest g l x1 x2 h2 q
    have ne:a≠x1:=fun w=>h1 (w ▸ a1)
    refine ⟨List.mem_cons_of_mem _ a1,?_,by simp only [List.length_cons]; omega⟩
    rw [List.filter_cons_of_pos (by simpa using ne),← a2]
theorem has_e (l:List Nm) (hl:l.length≤1000) (n:Nm):r15_has l n=some (l.contains n):=by
 have L:∀ (m i:Nat),i≤l.length→l.length<m+i→r15_has_l1 l n m i=some ((l.drop i).contains n):=by
  intro m
  induction m with
  | zero=>intro i h1 h2; omega
  | succ m ih =>
   intro i h1 h2
   rw [r15_has_l1]
   by_cases c:i<l.length
   ·rw [if_pos (by omega),at_nat,List.getElem?_eq_getElem c,bS,List.drop_eq_getElem_cons c]
    by_cases q:l[i]=n
    ·rw [if_pos q]; simp [q]
    ·rw [if_neg q,i64_ok (by omega),bS]
     have:=ih (i+1) c (by omega)
     rw [show ((i:Int)+1)=((i+1:Nat):Int) from rfl,this]
     generalize l[i]=a at q ⊢
     generalize l.drop (i+1)=t
     simp [Ne.symm q]
   ·rw [if_neg (by omega),List.drop_eq_nil_of_le (by omega)]
    rfl
 have:=L (l.length+1) 0 (by omega) (by omega)
 rw [List.drop_zero] at this
 exact this
section
variable {l:List TDef} {E:List TEdge} {f:TFault}
theorem ord_l3 (hE:E.length≤30) (b:Bool) (i:Nat) (hi:i≤100) (out rest:List Nm) (ho:out.length≤100) (hr:rest.length≤100) (x:TDef) (K:Bool→Int→List Nm→List Nm→Option (List Nm×List Nm×TFault)):∀ (m j:Nat) (bb:Bool),j≤E.length→E.length<m+j →
  r15_order_l3 (E,f) b i out rest x K m bb j=if (bb && (E.drop j).all fun y=>decide (y.To≠x.Name) || out.contains y.From)=true then K true ((i:Int)+1) (out++[x.Name]) rest else K b ((i:Int)+1) out (rest++[x.Name]):=by
 intro m
 induction m with
 | zero=>intro j bb h1 h2; omega
 | succ m ih =>
  intro j bb h1 h2
  rw [r15_order_l3]
  dsimp only
  by_cases c:j<E.length
  ·rw [if_pos (by omega),at_nat,List.getElem?_eq_getElem c,bS,List.drop_eq_getElem_cons c,List.all_cons]
   have nx:∀ b',r15_order_l3 (E,f) b i out rest x K m b' ((j:Int)+1)=_:=fun b'=>ih (j+1) b' c (by omega)
   cases bb with
   | true =>
    rw [if_pos rfl]
    by_cases q:E[j].To≠x.Name
    ·rw [if_pos q,i64_ok (by omega),bS,nx,decide_eq_true q,Bool.true_or,Bool.true_and,Bool.true_and]
    ·rw [if_neg q,has_e out (by omega),bS,i64_ok (by omega),bS,nx,decide_eq_false q,Bool.false_or,Bool.true_and]
   | false =>
    rw [if_neg ff,i64_ok (by omega),bS,nx,Bool.false_and,Bool.false_and]
  ·rw [if_neg (by omega),List.drop_eq_nil_of_le (by omega)]
   cases bb with
   | true=>rw [if_pos rfl,app_ok (by simp; omega),bS,i64_ok (by omega),bS]; rfl
   | false=>rw [if_neg ff,app_ok (by simp; omega),bS,i64_ok (by omega),bS]; rfl
def ps (E:List TEdge):List Nm→Bool→List Nm→List Nm→Bool×List Nm×List Nm
 | [],b,out,rest=>(b,out,rest)
 | t::ts,b,out,rest=>if (!b && okk E out t)=true then ps E ts true (out++[t]) rest else ps E ts b out (rest++[t])
theorem ps_t (E:List TEdge):∀ (ts out rest:List Nm),ps E ts true out rest=(true,out,rest++ts)
 | [],out,rest=>by rw [ps,List.append_nil]
 | t::ts,out,rest=>by rw [ps,if_neg (by simp),ps_t E ts]; simp
theorem ps_f (E:List TEdge):∀ (ts out rest:List Nm),ps E ts false out rest=match fk (okk E out) ts with | none=>(false,out,rest++ts) | some (t,r)=>(true,out++[t],rest++r)
 | [],out,rest=>by rw [ps,fk,List.append_nil]
 | t::ts,out,rest=>by
  rw [ps,fk]
  cases h:okk E out t with
  | true=>rw [if_pos (show (!false && true)=true from rfl),if_pos rfl,ps_t]
  | false =>
   rw [if_neg (by decide),if_neg ff,ps_f E ts]
   cases q:fk (okk E out) ts with
   | none=>simp
   | some x=>simp
theorem ord_l2 (hl:l.length≤30) (hE:E.length≤30) (hnd:l.Pairwise fun a b=>a.Name≠b.Name) (out0:List Nm) (h0:out0.length≤40) (K:Bool→List Nm→List Nm→Option (List Nm×List Nm×TFault)):∀ (m j:Nat) (b:Bool) (out rest:List Nm),j≤l.length→l.length<m+j→(out=out0∧b=false∨∃ t,out=out0++[t]∧b=true∧t ∉ tkn (l.drop j))→rest.length≤j →
  r15_order_l2 l (E,f) K m b j out rest=K (ps E ((tkn (l.drop j)).filter fun n=>!out0.contains n) b out rest).1 (ps E ((tkn (l.drop j)).filter fun n=>!out0.contains n) b out rest).2.1 (ps E ((tkn (l.drop j)).filter fun n=>!out0.contains n) b out rest).2.2:=by
 intro m
 induction m with
 | zero=>intro j b out rest h1 h2; omega
 | succ m ih =>
  intro j b out rest h1 h2 ho hr
  have hol:out.length≤41:=by
   rcases ho with ⟨rfl,-⟩ | ⟨t,rfl,-⟩
   ·omega
   ·rw [List.length_append,List.length_singleton]; omega
  rw [r15_order_l2]
  by_cases c:j<l.length
  ·have e3:=List.drop_eq_getElem_cons c
   rw [if_pos (by omega),at_nat,List.getElem?_eq_getElem c,bS]
   have nxo:∀ {out:List Nm} {b:Bool},(out=out0∧b=false∨∃ t,out=out0++[t]∧b=true∧t ∉ tkn (l.drop j))→(out=out0∧b=false∨∃ t,out=out0++[t]∧b=true∧t ∉ tkn (l.drop (j+1))):=fun h=>h.imp id fun ⟨t,t1,t2,t3⟩=>⟨t,t1,t2,fun hm=>t3 (by
    obtain ⟨y,y1,y2⟩:=tkn_mem.1 hm
    exact tkn_mem.2 ⟨y,by rw [e3]; exact List.mem_cons_of_mem _ y1,y2⟩)⟩
   by_cases k4:l[j].Kind≠4
   ·have e4:tkn (l.drop j)=tkn (l.drop (j+1)):=by
     rw [e3,tkn,List.filter_cons_of_neg (by simpa using k4),← tkn]
    rw [if_pos k4,r15_order_j1,if_pos rfl,i64_ok (by omega),bS]
    rw [show ((j:Int)+1)=((j+1:Nat):Int) from rfl,ih (j+1) b out rest c (by omega) (nxo ho) (by omega),e4]
   ·have k4':l[j].Kind=4:=by omega
    have e4:tkn (l.drop j)=l[j].Name::tkn (l.drop (j+1)):=by
     rw [e3,tkn,List.filter_cons_of_pos (by simpa using k4'),List.map_cons,← tkn]
    have hno:l[j].Name ∉ tkn (l.drop (j+1)):=by
     intro hm
     obtain ⟨y,y1,-,y2⟩:=tkn_mem.1 hm
     obtain ⟨q,q1,q2⟩:=List.getElem_of_mem y1
     rw [List.length_drop] at q1
     rw [List.getElem_drop] at q2
     have:=(List.pairwise_iff_getElem.1 hnd) j (j+1+q) c (by omega) (by omega)
     rw [q2] at this
     exact this y2.symm
    have hh:out.contains l[j].Name=out0.contains l[j].Name:=by
     rcases ho with ⟨rfl,-⟩ | ⟨t,rfl,-,t3⟩
     ·rfl
     ·have:t≠l[j].Name:=fun h=>t3 (by rw [e4,h]; exact List.mem_cons_self ..)
      rw [Bool.eq_iff_iff]
      simp [Ne.symm this]
    rw [if_neg k4,has_e out (by omega),bS,r15_order_j1,hh,e4]
    cases w:out0.contains l[j].Name with
    | true =>
     rw [if_pos rfl,i64_ok (by omega),bS,List.filter_cons_of_neg (p:=fun n=>!out0.contains n) (show ¬ (!out0.contains l[j].Name)=true by rw [w]; decide)]
     rw [show ((j:Int)+1)=((j+1:Nat):Int) from rfl,ih (j+1) b out rest c (by omega) (nxo ho) (by omega)]
    | false =>
     have e5:=ord_l3 (f:=f) hE b j (by omega) out rest (by omega) (by omega) l[j] (r15_order_l2 l (E,f) K m) (E.length+1) 0 (!b) (by omega) (by omega)
     rw [show ((0:Nat):Int)=0 from rfl,List.drop_zero] at e5
     rw [if_neg ff,e5,List.filter_cons_of_pos (p:=fun n=>!out0.contains n) (show (!out0.contains l[j].Name)=true by rw [w]; rfl),ps]
     show (if (!b && okk E out l[j].Name)=true then _ else _)=_
     by_cases y:(!b && okk E out l[j].Name)=true
     ·rw [if_pos y,if_pos y]
      rcases ho with ⟨rfl,rfl⟩ | ⟨t,-,rfl,-⟩
      ·rw [show ((j:Int)+1)=((j+1:Nat):Int) from rfl,ih (j+1) true _ rest c (by omega) (.inr ⟨_,rfl,rfl,hno⟩) (by omega)]
      ·simp at y
     ·rw [if_neg y,if_neg y]
      rw [show ((j:Int)+1)=((j+1:Nat):Int) from rfl,ih (j+1) b out _ c (by omega) (nxo ho) (by rw [List.length_append,List.length_singleton]; omega)]
  ·rw [if_neg (by omega),List.drop_eq_nil_of_le (by omega)]
   rfl
theorem order_same (hl:l.length≤30) (hE:E.length≤30) (hnd:l.Pairwise fun a b=>a.Name≠b.Name) (hF:∀ x ∈ E,x.From ∈ tkn l):∀ (m m':Nat) (left out rest:List Nm),left.length<m→left.length+1<m'→left=((tkn l).filter fun n=>!out.contains n)→out.length+left.length≤30→∃ r,gr_order_l1 (E,f) m left out=some r∧r15_order_l1 l (E,f) m' true out rest=some r∧r.2.2=f∧r.1.length≤30∧r.2.1.length≤30:=by
 intro m
 induction m with
 | zero=>intro m' left out rest h; omega
 | succ m ih =>
  intro m' left out rest h1 h2 h3 h4
  obtain ⟨m',rfl⟩:∃ q,m'=q+1:=⟨m' - 1,by omega⟩
  have e2:=ord_l2 (f:=f) hl hE hnd out (by omega) (r15_order_l1 l (E,f) m') (l.length+1) 0 false out [] (by omega) (by omega) (.inl ⟨rfl,rfl⟩) (by simp)
  rw [show ((0:Nat):Int)=0 from rfl,List.drop_zero,← h3,ps_f] at e2
  rw [gr_order_l1,r15_order_l1,if_pos rfl,e2]
  dsimp only
  have nd:left.Nodup:=by
   rw [h3]
   exact (tkn_nodup hnd).filter _
  rcases idx_tt left (by omega) (okk E out) (fun x_=>gr_o1 x_ E left) (fun x=>by rw [o1_tt E hE left x,← okk_e hF out x,← h3]) with ⟨a,b⟩ | ⟨k,hk,a,b⟩
  ·rw [a,b,bS,if_pos (by decide),gr_order_j2]
   dsimp only
   obtain ⟨m',rfl⟩:∃ q,m'=q+1:=⟨m' - 1,by omega⟩
   rw [r15_order_l1,if_neg ff,List.nil_append]
   exact ⟨_,rfl,rfl,rfl,by dsimp only; omega,by dsimp only; omega⟩
  ·have hd:del_ left (k:Int) ((k:Int)+1)=some (left.take k++left.drop (k+1)):=by
    rw [del_,if_pos (by omega)]
    simp [show ((k:Int)+1).toNat=k+1 by omega]
   obtain ⟨f1,f2,f3⟩:=fk_rest _ _ _ _ nd a
   rw [a,b,bS,if_neg (by omega),at_nat,List.getElem?_eq_getElem hk,bS,app_ok (by simp; omega),bS,i64_ok (by omega),bS,hd,bS]
   dsimp only
   rw [List.nil_append]
   refine ih m' _ _ _ (by omega) (by omega) ?_ (by rw [List.length_append,List.length_singleton]; omega)
   rw [f2]
   generalize left[k]=t
   conv=>lhs; rw [h3]
   rw [List.filter_filter]
   congr 1
   funext n
   rw [Bool.eq_iff_iff]
   simp only [Bool.and_eq_true,decide_eq_true_eq,Bool.not_eq_true',List.contains_eq_mem,decide_eq_false_iff_not,List.mem_append,List.mem_singleton,not_or]
   exact and_comm
end
theorem same_self (a:List Nm) (h:a.length≤1000):l15_same a a=some true:=by
 rw [l15_same,if_neg (by simp)]
 have L:∀ (m i:Nat),i≤a.length→a.length<m+i→l15_same_l1 a a m i=some true:=by
  intro m
  induction m with
  | zero=>intro i h1 h2; omega
  | succ m ih =>
   intro i h1 h2
   rw [l15_same_l1]
   by_cases c:i<a.length
   ·rw [if_pos (by omega),at_nat,List.getElem?_eq_getElem c,bS,bS,if_neg (by simp),i64_ok (by omega),bS]
    exact ih (i+1) c (by omega)
   ·rw [if_neg (by omega)]
 exact L _ 0 (by omega) (by omega)
theorem law_gtells_ok (k:Nat) (l:List TDef) (hl:SzP k l):law_gtells (k+60001) l=some true:=by
 obtain ⟨E,f,h1,h2,h3⟩:=edges_same k l hl
 have key:E.length≤30∧∃ r,gr_order (k+60001) l=some r∧r15_order (k+60001) l=some r∧r.1.length≤30∧r.2.1.length≤30:=by
  rw [gr_order,r15_order,h1,h2,bS,bS]
  dsimp only
  rcases h3 with ⟨z,rfl⟩ | ⟨z,hl',hnd,hE,hF⟩
  ·rw [if_pos z,if_pos z,gr_order_j1]
   exact ⟨by simp,_,rfl,rfl,by simp,by simp⟩
  ·have hT:(tkn l).length≤30:=by
    have:(tkn l).length≤l.length:=by rw [tkn,List.length_map]; exact List.length_filter_le _ _
    omega
   have z':¬ f.Err≠0:=fun h=>h z
   rw [if_neg z',if_neg z',names_tk l hl',bS]
   have hf0:tkn l=(tkn l).filter fun n=>!([]:List Nm).contains n:=by
    rw [List.filter_eq_self.2]
    intro n _
    simp
   obtain ⟨r,r1,r2,r3,r4,r5⟩:=order_same (f:=f) hl' hE hnd hF (k+60001) (k+60001) (tkn l) [] [] (by omega) (by omega) hf0 (by simpa using hT)
   exact ⟨hE,r,r1,r2,r4,r5⟩
 obtain ⟨hE,r,r1,r2,r3,r4⟩:=key
 rw [law_gtells,h1,bS,h2,bS,if_pos (by simp [andL]),law_gtells_j1]
 dsimp only
 rw [if_neg (by simp)]
 have L:∀ (m i:Nat),i≤E.length→E.length<m+i→law_gtells_l1 (k+60001) l (E,f) (E,f) m i=some true:=by
  intro m
  induction m with
  | zero=>intro i h1 h2; omega
  | succ m ih =>
   intro i h1 h2
   rw [law_gtells_l1]
   dsimp only
   by_cases c:i<E.length
   ·rw [if_pos (by omega),at_nat,List.getElem?_eq_getElem c,bS,bS,if_pos (by simp [andL]),i64_ok (by omega),bS]
    exact ih (i+1) c (by omega)
   ·rw [if_neg (by omega),r1,bS,r2,bS,if_pos (by simp [andL]),same_self _ (by omega),bS,if_pos rfl,same_self _ (by omega),bS]
 exact L _ 0 (by omega) (by omega)
end Go.Y
