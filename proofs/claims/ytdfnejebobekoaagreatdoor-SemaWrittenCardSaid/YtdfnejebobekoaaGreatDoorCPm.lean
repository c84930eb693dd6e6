/- Texts of SemaWritten Pm. -/
import Derived.Test.YtdfnejebobekoaaGreatDoorCPl
import Derived.Lib.ParseIntBCases
set_option linter.unusedSimpArgs false
set_option linter.unusedVariables false
set_option linter.unusedSectionVars false
namespace Go.Y
open Go.Wk Go.Xt
theorem sees_miss {q:Nat} {B:List TToken} {e d:Int} (h:Fol q B):p_sees B e d [40]=some false:=by
 cases B with
 | nil=>rw [p_sees,if_neg (by simp)]
 | cons t B =>
  rw [p_sees,if_pos (by simp <;> omega),at_0 (by simp),bS]
  exact congrArg some (decide_eq_false (h t B rfl).1)
theorem sees_hit {t:TToken} {B:List TToken} {e d:Int} (h:t.Text=[40]):p_sees (t::B) e d [40]=some true:=by
 rw [p_sees,if_pos (by simp <;> omega),at_0 (by simp),bS]
 exact congrArg some (decide_eq_true h)
theorem number_hit {t:TToken} {B:List TToken} {e d:Int} (h:t.Kind=2):p_number (t::B) e d=some (t.Num,B,e,d):=by
 rw [p_number,if_neg (by simp <;> omega),at_0 (by simp),bS]
 show p_number_j1 (t::B) e d (decide (t.Kind≠2))=_
 rw [decide_eq_false (by simpa using h),p_number_j1,if_neg (by decide),at_0 (by simp),bS,cut_tail,bS]
 rfl
theorem C.num {N:Int} (hk:kindOf (Lib.itoa N)=2) (hp:pint (Lib.itoa N)=some N):C 2 0 7 [Lib.itoa N] ⟨1,N,[],[]⟩:=by
 intro n A B e d hn h0 hd hA hB
 obtain ⟨n,rfl⟩:∃ n',n=n'+2:=⟨n - 2,by omega⟩
 obtain ⟨t,A',rfl,ht,hA'⟩:=Tks.cons hA
 have:=Tks.nil hA'
 subst this
 have k2:t.Kind=2:=by rw [ht.kd,hk]
 have hn':=ht.nm hk
 rw [hp] at hn'
 show p_primary (n+1) (ParE_run (n+1)) (t::B) e d=_
 rw [p_primary,if_pos (by simp <;> omega),at_0 (by simp),bS]
 show p_primary_j1 (n+1) (ParE_run (n+1)) (t::B) e d (decide (t.Kind=2))=_
 rw [decide_eq_true k2,p_primary_j1,if_pos rfl,number_hit k2,bS,Option.some.inj hn']
theorem C.tru:C 2 0 7 [[116,114,117,101]] ⟨2,1,[],[]⟩:=by
 intro n A B e d hn h0 hd hA hB
 obtain ⟨n,rfl⟩:∃ n',n=n'+2:=⟨n - 2,by omega⟩
 obtain ⟨t,A',rfl,ht,hA'⟩:=Tks.cons hA
 have:=Tks.nil hA'
 subst this
 have hk2:¬ t.Kind=2:=by rw [ht.kd]; decide
 show p_primary (n+1) (ParE_run (n+1)) (t::B) e d=_
 rw [p_primary,if_pos (by simp <;> omega),at_0 (by simp),bS]
 show p_primary_j1 (n+1) (ParE_run (n+1)) (t::B) e d (decide (t.Kind=2))=_
 rw [decide_eq_false hk2,p_primary_j1,if_neg (by decide)]
 rw [is_hit ht.tx,bS]
 simp only [if_true]
theorem C.fls:C 2 0 7 [[102,97,108,115,101]] ⟨2,0,[],[]⟩:=by
 intro n A B e d hn h0 hd hA hB
 obtain ⟨n,rfl⟩:∃ n',n=n'+2:=⟨n - 2,by omega⟩
 obtain ⟨t,A',rfl,ht,hA'⟩:=Tks.cons hA
 have:=Tks.nil hA'
 subst this
 have hk2:¬ t.Kind=2:=by rw [ht.kd]; decide
 show p_primary (n+1) (ParE_run (n+1)) (t::B) e d=_
 rw [p_primary,if_pos (by simp <;> omega),at_0 (by simp),bS]
 show p_primary_j1 (n+1) (ParE_run (n+1)) (t::B) e d (decide (t.Kind=2))=_
 rw [decide_eq_false hk2,p_primary_j1,if_neg (by decide)]
 rw [is_miss (by rw [ht.tx]; decide),bS]
 simp only [Bool.false_eq_true,if_false]
 rw [is_hit ht.tx,bS]
 simp only [if_true]
theorem C.rcv {w:Wd} (hw:Nmd w):C 30 0 7 [[114,101,99,118],[40],w,[41]] ⟨20,0,w,[]⟩:=by
 intro n A B e d hn h0 hd hA hB
 obtain ⟨n,rfl⟩:∃ n',n=n'+2:=⟨n - 2,by omega⟩
 obtain ⟨t,A',rfl,ht,hA'⟩:=Tks.cons hA
 obtain ⟨t2,A2,rfl,ht2,hA2⟩:=Tks.cons hA'
 obtain ⟨t3,A3,rfl,ht3,hA3⟩:=Tks.cons hA2
 obtain ⟨t4,A4,rfl,ht4,hA4⟩:=Tks.cons hA3
 have:=Tks.nil hA4
 subst this
 have hk2:¬ t.Kind=2:=by rw [ht.kd]; decide
 show p_primary (n+1) (ParE_run (n+1)) (t::t2::t3::t4::B) e d=_
 rw [p_primary,if_pos (by simp <;> omega),at_0 (by simp),bS]
 show p_primary_j1 (n+1) (ParE_run (n+1)) (t::t2::t3::t4::B) e d (decide (t.Kind=2))=_
 rw [decide_eq_false hk2,p_primary_j1,if_neg (by decide)]
 rw [is_miss (by rw [ht.tx]; decide),bS]
 simp only [Bool.false_eq_true,if_false]
 rw [is_miss (by rw [ht.tx]; decide),bS]
 simp only [Bool.false_eq_true,if_false]
 rw [is_miss (by rw [ht.tx]; decide),bS]
 simp only [Bool.false_eq_true,if_false]
 rw [is_hit ht.tx,bS]
 simp only [if_true]
 rw [need_hit ht2.tx,bS]
 simp only []
 rw [name_ok (by omega) ht3 hw,bS]
 simp only []
 rw [need_hit ht4.tx,bS]
theorem C.yld {f:TExpr→List Wd} {g:TExpr→TExpr} {N D:Nat} {l:List TExpr} (hC:∀ y ∈ l,C N D 0 (f y) (g y)) (hl:l.length=1):C (N+30) (D+1) 7 ([121,105,101,108,100]::wA f l) ⟨21,0,[],l.map g⟩:=by
 intro n A B e d hn h0 hd hA hB
 obtain ⟨n,rfl⟩:∃ n',n=n'+2:=⟨n - 2,by omega⟩
 obtain ⟨t,A',rfl,ht,hA'⟩:=Tks.cons hA
 have hr:=fixed_t (n:=n+1) (B:=B) (e:=e) (d:=d) (show N+10≤n+1 by omega) h0 (by omega) 21 hC (by omega) (by omega) hA'
 rw [hl] at hr
 have hk2:¬ t.Kind=2:=by rw [ht.kd]; decide
 show p_primary (n+1) (ParE_run (n+1)) (t::(A'++B)) e d=_
 rw [p_primary,if_pos (by simp <;> omega),at_0 (by simp),bS]
 show p_primary_j1 (n+1) (ParE_run (n+1)) (t::(A'++B)) e d (decide (t.Kind=2))=_
 rw [decide_eq_false hk2,p_primary_j1,if_neg (by decide)]
 rw [is_miss (by rw [ht.tx]; decide),bS]
 simp only [Bool.false_eq_true,if_false]
 rw [is_miss (by rw [ht.tx]; decide),bS]
 simp only [Bool.false_eq_true,if_false]
 rw [is_miss (by rw [ht.tx]; decide),bS]
 simp only [Bool.false_eq_true,if_false]
 rw [is_miss (by rw [ht.tx]; decide),bS]
 simp only [Bool.false_eq_true,if_false]
 rw [is_hit ht.tx,bS]
 simp only [if_true]
 have hr':(ParE_run (n+1)).p_fixed (A'++B) e d 21 1=some (⟨21,0,[],l.map g⟩,B,e,d):=hr
 rw [hr',bS]
theorem C.rsm {f:TExpr→List Wd} {g:TExpr→TExpr} {N D:Nat} {l:List TExpr} (hC:∀ y ∈ l,C N D 0 (f y) (g y)) (hl:l.length=2):C (N+30) (D+1) 7 ([114,101,115,117,109,101]::wA f l) ⟨23,0,[],l.map g⟩:=by
 intro n A B e d hn h0 hd hA hB
 obtain ⟨n,rfl⟩:∃ n',n=n'+2:=⟨n - 2,by omega⟩
 obtain ⟨t,A',rfl,ht,hA'⟩:=Tks.cons hA
 have hr:=fixed_t (n:=n+1) (B:=B) (e:=e) (d:=d) (show N+10≤n+1 by omega) h0 (by omega) 23 hC (by omega) (by omega) hA'
 rw [hl] at hr
 have hk2:¬ t.Kind=2:=by rw [ht.kd]; decide
 show p_primary (n+1) (ParE_run (n+1)) (t::(A'++B)) e d=_
 rw [p_primary,if_pos (by simp <;> omega),at_0 (by simp),bS]
 show p_primary_j1 (n+1) (ParE_run (n+1)) (t::(A'++B)) e d (decide (t.Kind=2))=_
 rw [decide_eq_false hk2,p_primary_j1,if_neg (by decide)]
 rw [is_miss (by rw [ht.tx]; decide),bS]
 simp only [Bool.false_eq_true,if_false]
 rw [is_miss (by rw [ht.tx]; decide),bS]
 simp only [Bool.false_eq_true,if_false]
 rw [is_miss (by rw [ht.tx]; decide),bS]
 simp only [Bool.false_eq_true,if_false]
 rw [is_miss (by rw [ht.tx]; decide),bS]
 simp only [Bool.false_eq_true,if_false]
 rw [is_miss (by rw [ht.tx]; decide),bS]
 simp only [Bool.false_eq_true,if_false]
 rw [is_hit ht.tx,bS]
 simp only [if_true]
 have hr':(ParE_run (n+1)).p_fixed (A'++B) e d 23 2=some (⟨23,0,[],l.map g⟩,B,e,d):=hr
 rw [hr',bS]
theorem C.alv {f:TExpr→List Wd} {g:TExpr→TExpr} {N D:Nat} {l:List TExpr} (hC:∀ y ∈ l,C N D 0 (f y) (g y)) (hl:l.length=1):C (N+30) (D+1) 7 ([97,108,105,118,101]::wA f l) ⟨24,0,[],l.map g⟩:=by
 intro n A B e d hn h0 hd hA hB
 obtain ⟨n,rfl⟩:∃ n',n=n'+2:=⟨n - 2,by omega⟩
 obtain ⟨t,A',rfl,ht,hA'⟩:=Tks.cons hA
 have hr:=fixed_t (n:=n+1) (B:=B) (e:=e) (d:=d) (show N+10≤n+1 by omega) h0 (by omega) 24 hC (by omega) (by omega) hA'
 rw [hl] at hr
 have hk2:¬ t.Kind=2:=by rw [ht.kd]; decide
 show p_primary (n+1) (ParE_run (n+1)) (t::(A'++B)) e d=_
 rw [p_primary,if_pos (by simp <;> omega),at_0 (by simp),bS]
 show p_primary_j1 (n+1) (ParE_run (n+1)) (t::(A'++B)) e d (decide (t.Kind=2))=_
 rw [decide_eq_false hk2,p_primary_j1,if_neg (by decide)]
 rw [is_miss (by rw [ht.tx]; decide),bS]
 simp only [Bool.false_eq_true,if_false]
 rw [is_miss (by rw [ht.tx]; decide),bS]
 simp only [Bool.false_eq_true,if_false]
 rw [is_miss (by rw [ht.tx]; decide),bS]
 simp only [Bool.false_eq_true,if_false]
 rw [is_miss (by rw [ht.tx]; decide),bS]
 simp only [Bool.false_eq_true,if_false]
 rw [is_miss (by rw [ht.tx]; decide),bS]
 simp only [Bool.false_eq_true,if_false]
 rw [is_miss (by rw [ht.tx]; decide),bS]
 simp only [Bool.false_eq_true,if_false]
 rw [is_hit ht.tx,bS]
 simp only [if_true]
 have hr':(ParE_run (n+1)).p_fixed (A'++B) e d 24 1=some (⟨24,0,[],l.map g⟩,B,e,d):=hr
 rw [hr',bS]
theorem C.srt {f:TExpr→List Wd} {g:TExpr→TExpr} {N D:Nat} {l:List TExpr} {w:Wd} (hw:Nmd w) (hC:∀ y ∈ l,C N D 0 (f y) (g y)) (hh:∀ y ∈ l,∃ w ws,f y=w::ws∧w≠[41]) (hl:l.length≤6):C (N+30) (D+1) 7 ([115,116,97,114,116]::w::wA f l) ⟨22,0,w,l.map g⟩:=by
 intro n A B e d hn h0 hd hA hB
 obtain ⟨n,rfl⟩:∃ n',n=n'+2:=⟨n - 2,by omega⟩
 obtain ⟨t,A',rfl,ht,hA'⟩:=Tks.cons hA
 obtain ⟨t2,A2,rfl,ht2,hA2⟩:=Tks.cons hA'
 have hr:=args_t (n:=n+1) (B:=B) (e:=e) (d:=d) (show N+10≤n+1 by omega) h0 (by omega) hC hh hl hA2
 have hk2:¬ t.Kind=2:=by rw [ht.kd]; decide
 show p_primary (n+1) (ParE_run (n+1)) (t::t2::(A2++B)) e d=_
 rw [p_primary,if_pos (by simp <;> omega),at_0 (by simp),bS]
 show p_primary_j1 (n+1) (ParE_run (n+1)) (t::t2::(A2++B)) e d (decide (t.Kind=2))=_
 rw [decide_eq_false hk2,p_primary_j1,if_neg (by decide)]
 rw [is_miss (by rw [ht.tx]; decide),bS]
 simp only [Bool.false_eq_true,if_false]
 rw [is_miss (by rw [ht.tx]; decide),bS]
 simp only [Bool.false_eq_true,if_false]
 rw [is_miss (by rw [ht.tx]; decide),bS]
 simp only [Bool.false_eq_true,if_false]
 rw [is_miss (by rw [ht.tx]; decide),bS]
 simp only [Bool.false_eq_true,if_false]
 rw [is_miss (by rw [ht.tx]; decide),bS]
 simp only [Bool.false_eq_true,if_false]
 rw [is_miss (by rw [ht.tx]; decide),bS]
 simp only [Bool.false_eq_true,if_false]
 rw [is_miss (by rw [ht.tx]; decide),bS]
 simp only [Bool.false_eq_true,if_false]
 rw [is_hit ht.tx,bS]
 simp only [if_true]
 rw [name_ok (by omega) ht2 hw,bS]
 simp only []
 rw [hr,bS]
theorem C.call {f:TExpr→List Wd} {g:TExpr→TExpr} {N D:Nat} {l:List TExpr} {w:Wd} (hw:Nmd w) (hC:∀ y ∈ l,C N D 0 (f y) (g y)) (hh:∀ y ∈ l,∃ w ws,f y=w::ws∧w≠[41]) (hl:l.length≤6):C (N+30) (D+1) 7 (w::wA f l) ⟨19,0,w,l.map g⟩:=by
 intro n A B e d hn h0 hd hA hB
 obtain ⟨n,rfl⟩:∃ n',n=n'+2:=⟨n - 2,by omega⟩
 obtain ⟨t,A',rfl,ht,hA'⟩:=Tks.cons hA
 have hr:=args_t (n:=n+1) (B:=B) (e:=e) (d:=d) (show N+10≤n+1 by omega) h0 (by omega) hC hh hl hA'
 have hs:p_sees (A'++B) e d [40]=some true:=by
  cases l with
  | nil=>obtain ⟨t2,A2,rfl,ht2,-⟩:=Tks.cons hA'; exact sees_hit ht2.tx
  | cons x l=>obtain ⟨t2,A2,rfl,ht2,-⟩:=Tks.cons hA'; exact sees_hit ht2.tx
 have hk2:¬ t.Kind=2:=by rw [ht.kd]; rw [hw.let1]; decide
 show p_primary (n+1) (ParE_run (n+1)) (t::(A'++B)) e d=_
 rw [p_primary,if_pos (by simp <;> omega),at_0 (by simp),bS]
 show p_primary_j1 (n+1) (ParE_run (n+1)) (t::(A'++B)) e d (decide (t.Kind=2))=_
 rw [decide_eq_false hk2,p_primary_j1,if_neg (by decide)]
 rw [is_miss (by rw [ht.tx]; exact hw.ne (by kernel_rfl)),bS]
 simp only [Bool.false_eq_true,if_false]
 rw [is_miss (by rw [ht.tx]; exact hw.ne (by kernel_rfl)),bS]
 simp only [Bool.false_eq_true,if_false]
 rw [is_miss (by rw [ht.tx]; exact hw.ne_sign (by decide)),bS]
 simp only [Bool.false_eq_true,if_false]
 rw [is_miss (by rw [ht.tx]; exact hw.ne (by kernel_rfl)),bS]
 simp only [Bool.false_eq_true,if_false]
 rw [is_miss (by rw [ht.tx]; exact hw.ne (by kernel_rfl)),bS]
 simp only [Bool.false_eq_true,if_false]
 rw [is_miss (by rw [ht.tx]; exact hw.ne (by kernel_rfl)),bS]
 simp only [Bool.false_eq_true,if_false]
 rw [is_miss (by rw [ht.tx]; exact hw.ne (by kernel_rfl)),bS]
 simp only [Bool.false_eq_true,if_false]
 rw [is_miss (by rw [ht.tx]; exact hw.ne (by kernel_rfl)),bS]
 simp only [Bool.false_eq_true,if_false]
 rw [name_ok (by omega) ht hw,bS]
 simp only []
 rw [hs,bS]
 simp only [if_true]
 rw [hr,bS]
theorem C.var {w:Wd} (hw:Nmd w):C 30 0 7 [w] ⟨3,0,w,[]⟩:=by
 intro n A B e d hn h0 hd hA hB
 obtain ⟨n,rfl⟩:∃ n',n=n'+2:=⟨n - 2,by omega⟩
 obtain ⟨t,A',rfl,ht,hA'⟩:=Tks.cons hA
 have:=Tks.nil hA'
 subst this
 have hk2:¬ t.Kind=2:=by rw [ht.kd]; rw [hw.let1]; decide
 show p_primary (n+1) (ParE_run (n+1)) (t::B) e d=_
 rw [p_primary,if_pos (by simp <;> omega),at_0 (by simp),bS]
 show p_primary_j1 (n+1) (ParE_run (n+1)) (t::B) e d (decide (t.Kind=2))=_
 rw [decide_eq_false hk2,p_primary_j1,if_neg (by decide)]
 rw [is_miss (by rw [ht.tx]; exact hw.ne (by kernel_rfl)),bS]
 simp only [Bool.false_eq_true,if_false]
 rw [is_miss (by rw [ht.tx]; exact hw.ne (by kernel_rfl)),bS]
 simp only [Bool.false_eq_true,if_false]
 rw [is_miss (by rw [ht.tx]; exact hw.ne_sign (by decide)),bS]
 simp only [Bool.false_eq_true,if_false]
 rw [is_miss (by rw [ht.tx]; exact hw.ne (by kernel_rfl)),bS]
 simp only [Bool.false_eq_true,if_false]
 rw [is_miss (by rw [ht.tx]; exact hw.ne (by kernel_rfl)),bS]
 simp only [Bool.false_eq_true,if_false]
 rw [is_miss (by rw [ht.tx]; exact hw.ne (by kernel_rfl)),bS]
 simp only [Bool.false_eq_true,if_false]
 rw [is_miss (by rw [ht.tx]; exact hw.ne (by kernel_rfl)),bS]
 simp only [Bool.false_eq_true,if_false]
 rw [is_miss (by rw [ht.tx]; exact hw.ne (by kernel_rfl)),bS]
 simp only [Bool.false_eq_true,if_false]
 rw [name_ok (by omega) ht hw,bS]
 simp only []
 rw [sees_miss hB,bS]
 simp only [Bool.false_eq_true,if_false]
end Go.Y
namespace Go.Y
open Go.Wk Go.Xt
theorem C.all5 {N D p:Nat} {ws:List Wd} {r:TExpr} (hp:p≤5) (h:C N D p ws r) {q:Nat} (hq:q≤p):C (N+6) D q ws r:=by
 have:=C.down hp h (p - q) (by omega)
 rw [show p - (p - q)=q by omega] at this
 exact this.more (by omega) (Nat.le_refl _)
theorem C.all6 {N D:Nat} {ws:List Wd} {r:TExpr} (h:C N D 6 ws r) {q:Nat} (hq:q≤6):C (N+7) D q ws r:=by
 by_cases c:q=6
 ·subst c; exact h.more (by omega) (Nat.le_refl _)
 ·exact (C.all5 (by omega) h.lift5 (show q≤5 by omega)).more (by omega) (Nat.le_refl _)
theorem C.all7 {N D:Nat} {w:Wd} {ws:List Wd} {r:TExpr} (h1:w≠[45]) (h2:w≠[110,111,116]) (h:C N D 7 (w::ws) r) {q:Nat} (hq:q≤7):C (N+8) D q (w::ws) r:=by
 by_cases c:q=7
 ·subst c; exact h.more (by omega) (Nat.le_refl _)
 ·exact (C.all6 (C.lift6 h1 h2 h) (show q≤6 by omega)).more (by omega) (Nat.le_refl _)
def nd (q:Nat):Nat:=if q≤5 then q+1 else q
def Hd (ws:List Wd):Prop:=∃ w t,ws=w::t∧w≠[41]
theorem own_num {k:Int} (h:1≤k∧k≤3∨19≤k):own k=7:=by
 unfold own
 rw [if_neg (by omega),if_neg (by omega),if_neg (by omega),if_neg (by omega),if_neg (by omega),if_neg (by omega)]
theorem own_un {k:Int} (h:k=4∨k=5):own k=6:=by
 rcases h with rfl | rfl <;> decide
def NumOk:Prop:=∀ N:Int,0≤N→N≤999999999999999→kindOf (Lib.itoa N)=2∧pint (Lib.itoa N)=some N
structure RT (k:Nat) (x:TExpr):Prop where
 hd:∀ need,Hd (wE k need x)
 c:∀ q,q≤7→C (100*k) (2*k) q (wE k (nd q) x) (bareE k x)
 s:∀ q,q<5→q≠2→Sp (100*k) (2*k) k q (wE k (q+1) x) (bareE k x)
theorem rt_all (num:NumOk):∀ (k:Nat) (x:TExpr),k≤60→FmE k x→RT k x
 | 0,x,_,h=>by cases h
 | k+1,x,h60,h=>by
  obtain ⟨k1,k24,hk,hN,hB,hNm,hks⟩:=h
  have ih:=fun y hy=>rt_all num k y (by omega) (hks y hy)
  have hk6:=hk.le
  have kl:kidN x.Kind=1→∃ a,x.Kids=[a]:=fun h=>one (l:=x.Kids) (by have:=hk.eq (by omega); omega)
  have kl2:kidN x.Kind=2→∃ a b,x.Kids=[a,b]:=fun h=>two (l:=x.Kids) (by have:=hk.eq (by omega); omega)
  have kl0:kidN x.Kind=0→x.Kids=[]:=fun h=>List.length_eq_zero_iff.1 (by have:=hk.eq (by omega); omega)
  have hC:∀ y ∈ x.Kids,C (100*k) (2*k) 0 (wE k 1 y) (bareE k y):=fun y hy=>(ih y hy).c 0 (by omega)
  have hh:∀ y ∈ x.Kids,∃ w ws,wE k 1 y=w::ws∧w≠[41]:=fun y hy=>(ih y hy).hd 1
  have hbx:bareE (k+1) x=TExpr.mk x.Kind (if x.Kind=1∨x.Kind=2 then x.N else 0) (if x.Kind=3∨x.Kind=20∨x.Kind=19∨x.Kind=22 then x.Name else []) (x.Kids.map (bareE k)):=rfl
  have piece:own x.Kind=7→C (100*k+70) (2*k+1) 7 (wC (wE k) x) (bareE (k+1) x)∧∃ w t,wC (wE k) x=w::t∧w≠[41]∧w≠[45]∧w≠[110,111,116]:=by
   intro ho
   rw [hbx]
   by_cases c1:x.Kind=1
   ·obtain ⟨a1,a2⟩:=hN c1
    obtain ⟨b1,b2⟩:=num x.N a1 a2
    have e0:=kl0 (by rw [c1]; decide)
    rw [wC,if_pos c1,c1,e0]
    have ne:∀ w:Wd,kindOf w≠2→Lib.itoa x.N≠w:=fun w hw e=>hw (e ▸ b1)
    exact ⟨(C.num b1 b2).more (by omega) (by omega),_,_,rfl,ne _ (by decide),ne _ (by decide),ne _ (by decide)⟩
   by_cases c2:x.Kind=2
   ·have e0:=kl0 (by rw [c2]; decide)
    rw [wC,if_neg c1,if_pos c2,c2,e0]
    rcases hB c2 with e | e
    ·rw [e]
     exact ⟨C.fls.more (by omega) (by omega),_,_,rfl,by decide,by decide,by decide⟩
    ·rw [e]
     exact ⟨C.tru.more (by omega) (by omega),_,_,rfl,by decide,by decide,by decide⟩
   by_cases c3:x.Kind=3
   ·have e0:=kl0 (by rw [c3]; decide)
    have hw:=hNm (.inl c3)
    rw [wC,if_neg c1,if_neg c2,if_pos c3,c3,e0]
    exact ⟨(C.var hw).more (by omega) (by omega),_,_,rfl,hw.ne_sign (by decide),hw.ne_sign (by decide),hw.ne (by kernel_rfl)⟩
   have c45:¬ (x.Kind=4∨x.Kind=5):=fun h=>by rw [own_un h] at ho; cases ho
   have c18:¬ x.Kind≤18:=fun h=>by
    obtain ⟨q,o1,o2,-⟩:=sgn_lv (show 6≤x.Kind∧x.Kind≤18 by omega)
    omega
   rw [wC,if_neg c1,if_neg c2,if_neg c3,if_neg c45,if_neg c18,if_neg (show ¬ (x.Kind=1∨x.Kind=2) by omega)]
   by_cases c19:x.Kind=19
   ·have hw:=hNm (by simp [c19])
    rw [if_pos c19,if_pos (show x.Kind=3∨x.Kind=20∨x.Kind=19∨x.Kind=22 by omega),c19]
    exact ⟨(C.call hw hC hh hk6).more (by omega) (by omega),_,_,rfl,hw.ne_sign (by decide),hw.ne_sign (by decide),hw.ne (by kernel_rfl)⟩
   rw [if_neg c19]
   by_cases c20:x.Kind=20
   ·have hw:=hNm (by simp [c20])
    have e0:=kl0 (by rw [c20]; decide)
    rw [if_pos c20,if_pos (show x.Kind=3∨x.Kind=20∨x.Kind=19∨x.Kind=22 by omega),c20,e0]
    exact ⟨(C.rcv hw).more (by omega) (by omega),_,_,rfl,by decide,by decide,by decide⟩
   rw [if_neg c20]
   by_cases c21:x.Kind=21
   ·obtain ⟨a,ha⟩:=kl (by rw [c21]; decide)
    rw [if_pos c21,if_neg (show ¬ (x.Kind=3∨x.Kind=20∨x.Kind=19∨x.Kind=22) by omega),c21]
    exact ⟨(C.yld hC (by rw [ha]; rfl)).more (by omega) (by omega),_,_,rfl,by decide,by decide,by decide⟩
   rw [if_neg c21]
   by_cases c22:x.Kind=22
   ·have hw:=hNm (by simp [c22])
    rw [if_pos c22,if_pos (show x.Kind=3∨x.Kind=20∨x.Kind=19∨x.Kind=22 by omega),c22]
    exact ⟨(C.srt hw hC hh hk6).more (by omega) (by omega),_,_,rfl,by decide,by decide,by decide⟩
   rw [if_neg c22]
   by_cases c23:x.Kind=23
   ·obtain ⟨a,b,ha⟩:=kl2 (by rw [c23]; decide)
    rw [if_pos c23,if_neg (show ¬ (x.Kind=3∨x.Kind=20∨x.Kind=19∨x.Kind=22) by omega),c23]
    exact ⟨(C.rsm hC (by rw [ha]; rfl)).more (by omega) (by omega),_,_,rfl,by decide,by decide,by decide⟩
   rw [if_neg c23]
   have c24:x.Kind=24:=by omega
   obtain ⟨a,ha⟩:=kl (by rw [c24]; decide)
   rw [if_neg (show ¬ (x.Kind=3∨x.Kind=20∨x.Kind=19∨x.Kind=22) by omega),c24]
   exact ⟨(C.alv hC (by rw [ha]; rfl)).more (by omega) (by omega),_,_,rfl,by decide,by decide,by decide⟩
  have unry:own x.Kind=6→C (100*k+70) (2*k+1) 6 (wC (wE k) x) (bareE (k+1) x)∧Hd (wC (wE k) x):=by
   intro ho
   have c45:x.Kind=4∨x.Kind=5:=by
    refine Decidable.byContradiction fun h=>?_
    by_cases h2:6≤x.Kind∧x.Kind≤18
    ·obtain ⟨q,o1,o2,-⟩:=sgn_lv h2; omega
    ·rw [own_num (by omega)] at ho; cases ho
   obtain ⟨a,ha⟩:=kl (by rcases c45 with h | h <;> rw [h] <;> decide)
   rw [hbx,wC,if_neg (by omega),if_neg (by omega),if_neg (by omega),if_pos c45,ha,if_neg (by omega),if_neg (by omega)]
   refine ⟨(C.un c45 ((ih a (by simp [ha])).c 6 (by omega))).more (by omega) (by omega),_,_,rfl,?_⟩
   rcases c45 with h | h <;> rw [h] <;> decide
  have bnry:∀ q,own x.Kind=q+1→q<5→∃ a b,x.Kids=[a,b]∧6≤x.Kind∧x.Kind≤18∧wC (wE k) x=wE k (if q=2 then 4 else q+1) a++sgn x.Kind::wE k (q+2) b∧bareE (k+1) x=⟨x.Kind,0,[],[bareE k a,bareE k b]⟩:=by
   intro q ho hq
   have h6:6≤x.Kind∧x.Kind≤18:=by
    refine Decidable.byContradiction fun h=>?_
    by_cases h2:x.Kind=4∨x.Kind=5
    ·rw [own_un h2] at ho; omega
    ·rw [own_num (by omega)] at ho; omega
   obtain ⟨a,b,ha⟩:=kl2 (by unfold kidN; rw [if_neg (by omega),if_neg (by omega),if_pos (by omega)])
   refine ⟨a,b,ha,h6.1,h6.2,?_,?_⟩
   ·rw [wC,if_neg (by omega),if_neg (by omega),if_neg (by omega),if_neg (by omega),if_pos h6.2,ha,ho]
    by_cases q2:q=2
    ·subst q2; rfl
    ·simp only []
     rw [if_neg (by omega),if_neg q2]
   ·rw [hbx,ha,if_neg (by omega),if_neg (by omega)]
    rfl
  have spin:∀ q,own x.Kind=q+1→q<5→q≠2→Sp (100*k) (2*k) (k+1) q (wC (wE k) x) (bareE (k+1) x):=by
   intro q ho hq q2
   obtain ⟨a,b,ha,h6,h18,e1,e2⟩:=bnry q ho hq
   rw [e1,e2,if_neg q2]
   have hkp:k≠0:=by rintro rfl; exact hks a (by simp [ha])
   have hb:=(ih b (by simp [ha])).c (q+1) (by omega)
   rw [nd,if_pos (by omega)] at hb
   exact Sp.bin hq ⟨h6,h18⟩ ho q2 ((ih a (by simp [ha])).s q hq q2) hb (by omega)
  have base5:∀ q,own x.Kind=q+1→q<5→C (100*k+70) (2*k+1) q (wC (wE k) x) (bareE (k+1) x):=by
   intro q ho hq
   by_cases q2:q=2
   ·subst q2
    obtain ⟨a,b,ha,h6,h18,e1,e2⟩:=bnry 2 ho hq
    rw [e1,e2,if_pos rfl]
    exact (C.bin2 ⟨h6,h18⟩ ho ((ih a (by simp [ha])).c 3 (by omega)) ((ih b (by simp [ha])).c 3 (by omega))).more (by omega) (by omega)
   ·obtain ⟨a,b,ha,-⟩:=bnry q ho hq
    have hkp:k≠0:=by rintro rfl; exact hks a (by simp [ha])
    exact ((spin q ho hq q2).to hq).more (by omega) (by omega)
  have o7:1≤own x.Kind∧own x.Kind≤7:=by
   by_cases h1:6≤x.Kind∧x.Kind≤18
   ·obtain ⟨q,o1,o2,-⟩:=sgn_lv h1; omega
   ·by_cases h2:x.Kind=4∨x.Kind=5
    ·rw [own_un h2]; omega
    ·rw [own_num (by omega)]; omega
  have core:∀ q,q≤7→nd q≤own x.Kind→C (100*k+78) (2*k+1) q (wC (wE k) x) (bareE (k+1) x):=by
   intro q hq hn
   have hn':(q≤5→q+1≤own x.Kind)∧(¬ q≤5→q≤own x.Kind):=by
    rw [nd] at hn
    constructor
    ·intro h; rw [if_pos h] at hn; exact hn
    ·intro h; rw [if_neg h] at hn; exact hn
   by_cases h7:own x.Kind=7
   ·obtain ⟨p1,w,t,e,-,n2,n3⟩:=piece h7
    rw [e] at p1 ⊢
    exact (C.all7 n2 n3 p1 hq).more (by omega) (by omega)
   ·by_cases h6:own x.Kind=6
    ·exact (C.all6 (unry h6).1 (show q≤6 by omega)).more (by omega) (by omega)
    ·obtain ⟨p,hp⟩:∃ p,own x.Kind=p+1:=⟨own x.Kind - 1,by omega⟩
     exact (C.all5 (show p≤5 by omega) (base5 p hp (by omega)) (show q≤p by omega)).more (by omega) (by omega)
  have brk:C (100*k+80) (2*k+2) 7 ([40]::(wC (wE k) x++[[41]])) (bareE (k+1) x):=(C.brackets (core 0 (by omega) (by rw [nd,if_pos (by omega)]; omega))).more (by omega) (by omega)
  have ew:∀ need,wE (k+1) need x=if own x.Kind<need then [40]::(wC (wE k) x++[[41]]) else wC (wE k) x:=fun need=>rfl
  have cc:∀ q,q≤7→C (100*(k+1)) (2*(k+1)) q (wE (k+1) (nd q) x) (bareE (k+1) x):=by
   intro q hq
   rw [ew]
   split
   ·exact (C.all7 (by decide) (by decide) brk hq).more (by omega) (by omega)
   ·exact (core q hq (by omega)).more (by omega) (by omega)
  refine ⟨fun need=>?_,cc,fun q hq q2=>?_⟩
  ·rw [ew]
   split
   ·exact ⟨_,_,rfl,by decide⟩
   ·by_cases h7:own x.Kind=7
    ·obtain ⟨-,w,t,e,n1,-⟩:=piece h7
     exact ⟨w,t,e,n1⟩
    ·by_cases h6:own x.Kind=6
     ·exact (unry h6).2
     ·obtain ⟨p,hp⟩:∃ p,own x.Kind=p+1:=⟨own x.Kind - 1,by omega⟩
      obtain ⟨a,b,ha,-,-,e1,-⟩:=bnry p hp (by omega)
      obtain ⟨w,t,e,n1⟩:=(ih a (by simp [ha])).hd (if p=2 then 4 else p+1)
      exact ⟨w,t++sgn x.Kind::wE k (p+2) b,by rw [e1,e]; rfl,n1⟩
  ·by_cases ho:own x.Kind=q+1
   ·rw [ew,if_neg (by omega)]
    exact (spin q ho hq q2).more (by omega) (by omega) (by omega)
   ·have e:wE (k+1) (q+1) x=wE (k+1) (nd (q+1)) x:=by
     have en:nd (q+1)=q+2:=by rw [nd,if_pos (by omega)]
     rw [en,ew,ew]
     by_cases c:own x.Kind<q+1
     ·rw [if_pos c,if_pos (by omega)]
     ·rw [if_neg c,if_neg (by omega)]
    rw [e]
    exact (Sp.of hq (cc (q+1) (by omega))).more (by omega) (by omega) (by omega)
end Go.Y
namespace Go.Y
open Go.Wk Go.Xt
def wBody (f:TStat→List Wd) (l:List TStat):List Wd:=[123]::((l.map f).flatten++[[125]])
def wS:Nat→TStat→List Wd
 | 0,_=>[]
 | k+1,s =>
  if s.Kind=3 then [105,102]::(wE k 1 s.X++(wBody (wS k) s.Body++(if s.Else=[] then [] else [101,108,115,101]::wBody (wS k) s.Else)))
  else if s.Kind=4 then [119,104,105,108,101]::(wE k 1 s.X++wBody (wS k) s.Body)
  else if s.Kind=1 then [108,101,116]::s.Name::[61]::(wE k 1 s.X++[[59]])
  else if s.Kind=2 then s.Name::[61]::(wE k 1 s.X++[[59]])
  else if s.Kind=7 then [115,101,110,100]::s.Name::(wE k 1 s.X++[[59]])
  else if s.Kind=6 then [[115,116,111,112],[59]]
  else (if s.Kind=5 then [114,101,116,117,114,110] else if s.Kind=8 then [111,117,116] else [100,111])::(wE k 1 s.X++[[59]])
def FmS:Nat→TStat→Prop
 | 0,_=>False
 | k+1,s=>1≤s.Kind∧s.Kind≤9∧(s.Kind≠6→FmE k s.X)∧((s.Kind=1∨s.Kind=2∨s.Kind=7)→Nmd s.Name)∧((s.Kind=3∨s.Kind=4)→s.Body.length≤50∧∀ y ∈ s.Body,FmS k y)∧(s.Kind=3→s.Else.length≤50∧∀ y ∈ s.Else,FmS k y)
theorem fw123:([123]:Wd)≠[40]∧∀ m,m<5→sg m [123]=0:=by decide
theorem fw59:([59]:Wd)≠[40]∧∀ m,m<5→sg m [59]=0:=by decide
def NoElse (B:List TToken):Prop:=∀ t B',B=t::B'→t.Text≠[101,108,115,101]
theorem no_else {w:Wd} (h:w≠[101,108,115,101]) {t:TToken} (ht:t.Text=w) (B:List TToken):NoElse (t::B):=by
 intro t' B' e
 obtain ⟨rfl,-⟩:=List.cons.inj e
 rw [ht]; exact h
theorem else_miss {B:List TToken} (h:NoElse B) (e d:Int):p_is B e d [101,108,115,101]=some (false,B,e,d):=by
 cases B with
 | nil=>exact is_nil
 | cons t B=>exact is_miss (h t B rfl)
theorem eta_e (r:TExpr):TExpr.mk r.Kind r.N r.Name r.Kids=r:=by cases r; rfl
theorem wS_head:∀ (k:Nat) (s:TStat),FmS k s→∃ w t,wS k s=w::t∧w≠[125]∧w≠[101,108,115,101]
 | 0,s,h=>by cases h
 | k+1,s,h=>by
  obtain ⟨k1,k9,hX,hN,hB,hE⟩:=h
  rw [wS]
  by_cases c3:s.Kind=3
  ·rw [if_pos c3]; exact ⟨_,_,rfl,by decide,by decide⟩
  rw [if_neg c3]
  by_cases c4:s.Kind=4
  ·rw [if_pos c4]; exact ⟨_,_,rfl,by decide,by decide⟩
  rw [if_neg c4]
  by_cases c1:s.Kind=1
  ·rw [if_pos c1]; exact ⟨_,_,rfl,by decide,by decide⟩
  rw [if_neg c1]
  by_cases c2:s.Kind=2
  ·have hw:=hN (by simp [c2])
   rw [if_pos c2]; exact ⟨_,_,rfl,hw.ne_sign (by decide),hw.ne (by kernel_rfl)⟩
  rw [if_neg c2]
  by_cases c7:s.Kind=7
  ·rw [if_pos c7]; exact ⟨_,_,rfl,by decide,by decide⟩
  rw [if_neg c7]
  by_cases c6:s.Kind=6
  ·rw [if_pos c6]; exact ⟨_,_,rfl,by decide,by decide⟩
  rw [if_neg c6]
  by_cases c5:s.Kind=5
  ·rw [if_pos c5]; exact ⟨_,_,rfl,by decide,by decide⟩
  rw [if_neg c5]
  by_cases c8:s.Kind=8
  ·rw [if_pos c8]; exact ⟨_,_,rfl,by decide,by decide⟩
  rw [if_neg c8]
  exact ⟨_,_,rfl,by decide,by decide⟩
structure RS (k n:Nat):Prop where
 body:∀ (l:List TStat) (A B:List TToken) (e d:Int),l.length≤50→(∀ y ∈ l,FmS k y)→7000+3*k+1≤n→0≤d→d+2*k+3≤200→Tks A (wBody (wS k) l)→(ParS_run n).p_body (A++B) e d=some (l.map (bareS k),B,e,d)
 stat:∀ (s:TStat) (A B:List TToken) (e d:Int),FmS k s→7000+3*k≤n→0≤d→d+2*k+2≤200→Tks A (wS k s)→NoElse B→(ParS_run n).p_stat (A++B) e d=some (bareS k s,B,e,d)
theorem rs_all (num:NumOk):∀ (n k:Nat),k≤50→RS k n:=by
 intro n
 induction n with
 | zero=>intro k hk; exact ⟨fun _ _ _ _ _ _ _ h=>by omega,fun _ _ _ _ _ _ h=>by omega⟩
 | succ n ih =>
  intro k hk
  refine ⟨fun l A B e d hl hF hn h0 hd hA=>?_,fun s A B e d hF hn h0 hd hA hB=>?_⟩
  ·show p_body n (ParS_run n) (A++B) e d=_
   obtain ⟨t,A',rfl,ht,hA'⟩:=Tks.cons hA
   rw [p_body,p_into,i64_ok (by omega),bS,if_neg (by omega),bS]
   simp only []
   rw [List.cons_append,need_hit ht.tx,bS]
   simp only []
   have L:∀ (l:List TStat) (acc:List TStat) (m:Nat) (A:List TToken),(∀ y ∈ l,FmS k y)→l.length<m→acc.length+l.length≤50→Tks A ((l.map (wS k)).flatten++[[125]]) →
     p_body_l1 (ParS_run n) m (A++B) e (d+1) acc=some (acc++l.map (bareS k),B,e,d):=by
    intro l
    induction l with
    | nil =>
     intro acc m A hF hm ha hA
     obtain ⟨m,rfl⟩:∃ m',m=m'+1:=⟨m - 1,by simp at hm; omega⟩
     obtain ⟨t,A',rfl,ht,hA'⟩:=Tks.cons hA
     have:=Tks.nil hA'
     subst this
     rw [p_body_l1,List.cons_append,is_hit ht.tx,bS]
     simp only [if_true]
     rw [p_out,i64_ok (by omega),bS,bS]
     simp
    | cons s l ihl =>
     intro acc m A hF hm ha hA
     rw [List.length_cons] at hm ha
     obtain ⟨m,rfl⟩:∃ m',m=m'+1:=⟨m - 1,by omega⟩
     rw [List.map_cons,List.flatten_cons,List.append_assoc] at hA
     obtain ⟨A1,A2,rfl,hA1,hA2⟩:=Tks.app hA
     have hs:=hF s (List.mem_cons_self ..)
     have hB2:NoElse (A2++B):=by
      cases l with
      | nil =>
       obtain ⟨t,A',rfl,ht,-⟩:=Tks.cons hA2
       exact no_else (by decide) ht.tx _
      | cons y l =>
       obtain ⟨w,ws,e1,-,e3⟩:=wS_head k y (hF y (by simp))
       rw [List.map_cons,List.flatten_cons,e1] at hA2
       obtain ⟨t,A',rfl,ht,-⟩:=Tks.cons hA2
       exact no_else e3 ht.tx _
     have hr:=(ih k hk).stat s A1 (A2++B) e (d+1) hs (by omega) (by omega) (by omega) hA1 hB2
     obtain ⟨w,ws,e1,e2,-⟩:=wS_head k s hs
     have hA1':=hA1
     rw [e1] at hA1'
     obtain ⟨t,A3,rfl,ht,-⟩:=Tks.cons hA1'
     rw [p_body_l1,List.cons_append,List.cons_append,is_miss (by rw [ht.tx]; exact e2),bS]
     simp only [Bool.false_eq_true,if_false]
     rw [if_neg (by omega)]
     have e4:t::(A3++A2++B)=t::A3++(A2++B):=by simp
     rw [e4,hr,bS]
     simp only []
     rw [app_ok (by simp; omega),bS,ihl (acc++[bareS k s]) m A2 (fun y hy=>hF y (List.mem_cons_of_mem _ hy)) (by omega) (by simp; omega) hA2]
     simp
   have:=L l [] n A' hF (by omega) (by simpa using hl) hA'
   rw [this]
   simp
  ·show p_stat n (ParS_run n) (A++B) e d=_
   cases k with
   | zero=>cases hF
   | succ k =>
   obtain ⟨k1,k9,hX,hN,hBd,hEl⟩:=hF
   have hbs:bareS (k+1) s=TStat.mk s.Kind (if s.Kind=1∨s.Kind=2∨s.Kind=7 then s.Name else []) (if s.Kind≠6 then bareE k s.X else TExpr.mk 0 0 [] []) (if s.Kind=3∨s.Kind=4 then s.Body.map (bareS k) else []) (if s.Kind=3 then s.Else.map (bareS k) else []):=rfl
   have X:s.Kind≠6→∀ (A1 B1:List TToken),Tks A1 (wE k 1 s.X)→Fol 0 B1→(ParE_run n).p_expr (A1++B1) e d=some (bareE k s.X,B1,e,d):=fun h6 A1 B1 h1 h2 =>
    C.expr ((rt_all num k s.X (by omega) (hX h6)).c 0 (by omega)) n A1 B1 e d (by omega) h0 (by omega) h1 h2
   have J1:∀ (t:TToken) (nm:Nm) (kd:Int),t.Text=[59]→p_stat_j1 (t::B) e d kd nm (bareE k s.X).Kind (bareE k s.X).N (bareE k s.X).Name (bareE k s.X).Kids=some (⟨kd,nm,bareE k s.X,[],[]⟩,B,e,d):=fun t nm kd h=>by
    rw [p_stat_j1,need_hit h,bS,eta_e]
   rw [hbs]
   rw [wS] at hA
   by_cases c3:s.Kind=3
   ·obtain ⟨b1,b2⟩:=hBd (.inl c3)
    obtain ⟨b3,b4⟩:=hEl c3
    rw [if_pos c3] at hA
    rw [if_neg (show ¬ (s.Kind=1∨s.Kind=2∨s.Kind=7) by omega),if_pos (show s.Kind≠6 by omega),if_pos (show s.Kind=3∨s.Kind=4 by omega),if_pos c3,c3]
    obtain ⟨t,A',rfl,ht,hA'⟩:=Tks.cons hA
    obtain ⟨A1,A2,rfl,hA1,hA2⟩:=Tks.app hA'
    obtain ⟨A3,A4,rfl,hA3,hA4⟩:=Tks.app hA2
    have f1:Fol 0 (A3++(A4++B)):=by
     obtain ⟨t2,A5,rfl,ht2,-⟩:=Tks.cons hA3
     exact fol_word fw123 ht2.tx _ 0
    have e0:t::(A1++(A3++A4))++B=t::(A1++(A3++(A4++B))):=by simp
    rw [p_stat,e0,is_hit ht.tx,bS]
    simp only [if_true]
    rw [X (by omega) A1 _ hA1 f1,bS]
    simp only []
    rw [(ih k (by omega)).body s.Body A3 (A4++B) e d b1 b2 (by omega) h0 (by omega) hA3,bS]
    simp only []
    by_cases q:s.Else=[]
    ·rw [if_pos q] at hA4
     have:=Tks.nil hA4
     subst this
     rw [List.nil_append,else_miss hB,bS]
     simp only [Bool.false_eq_true,if_false]
     rw [p_stat_j2,eta_e,q]
     rfl
    ·rw [if_neg q] at hA4
     obtain ⟨t2,A5,rfl,ht2,hA5⟩:=Tks.cons hA4
     rw [List.cons_append,is_hit ht2.tx,bS]
     simp only [if_true]
     rw [(ih k (by omega)).body s.Else A5 B e d b3 b4 (by omega) h0 (by omega) hA5,bS,p_stat_j2,eta_e]
   rw [if_neg c3] at hA
   by_cases c4:s.Kind=4
   ·obtain ⟨b1,b2⟩:=hBd (.inr c4)
    rw [if_pos c4] at hA
    rw [if_neg (show ¬ (s.Kind=1∨s.Kind=2∨s.Kind=7) by omega),if_pos (show s.Kind≠6 by omega),if_pos (show s.Kind=3∨s.Kind=4 by omega),if_neg c3,c4]
    obtain ⟨t,A',rfl,ht,hA'⟩:=Tks.cons hA
    obtain ⟨A1,A2,rfl,hA1,hA2⟩:=Tks.app hA'
    have f1:Fol 0 (A2++B):=by
     obtain ⟨t2,A5,rfl,ht2,-⟩:=Tks.cons hA2
     exact fol_word fw123 ht2.tx _ 0
    have e0:t::(A1++A2)++B=t::(A1++(A2++B)):=by simp
    rw [p_stat,e0]
    rw [is_miss (by rw [ht.tx]; decide),bS]
    simp only [Bool.false_eq_true,if_false]
    rw [is_hit ht.tx,bS]
    simp only [if_true]
    rw [X (by omega) A1 _ hA1 f1,bS]
    simp only []
    rw [(ih k (by omega)).body s.Body A2 B e d b1 b2 (by omega) h0 (by omega) hA2,bS,eta_e]
   rw [if_neg c4] at hA
   by_cases c1:s.Kind=1
   ·rw [if_pos c1] at hA
    rw [if_pos (show s.Kind=1∨s.Kind=2∨s.Kind=7 by omega),if_pos (show s.Kind≠6 by omega),if_neg (show ¬ (s.Kind=3∨s.Kind=4) by omega),if_neg c3,c1]
    have hw:=hN (by omega)
    obtain ⟨t,A',rfl,ht,hA'⟩:=Tks.cons hA
    obtain ⟨t2,A'',rfl,ht2,hA''⟩:=Tks.cons hA'
    obtain ⟨t3,A3,rfl,ht3,hY⟩:=Tks.cons hA''
    obtain ⟨A1,A2,rfl,hA1,hA2⟩:=Tks.app hY
    obtain ⟨t9,A9,rfl,ht9,hA9⟩:=Tks.cons hA2
    have:=Tks.nil hA9
    subst this
    have f1:Fol 0 (t9::B):=fol_word fw59 ht9.tx _ 0
    have e0:t::t2::t3::(A1++[t9])++B=t::t2::t3::(A1++t9::B):=by simp
    rw [p_stat,e0]
    rw [is_miss (by rw [ht.tx]; decide),bS]
    simp only [Bool.false_eq_true,if_false]
    rw [is_miss (by rw [ht.tx]; decide),bS]
    simp only [Bool.false_eq_true,if_false]
    rw [is_hit ht.tx,bS]
    simp only [if_true]
    rw [name_ok (by omega) ht2 hw,bS]
    simp only []
    rw [need_hit ht3.tx,bS]
    simp only []
    rw [X (by omega) A1 _ hA1 f1,bS]
    exact J1 t9 _ _ ht9.tx
   rw [if_neg c1] at hA
   by_cases c2:s.Kind=2
   ·rw [if_pos c2] at hA
    rw [if_pos (show s.Kind=1∨s.Kind=2∨s.Kind=7 by omega),if_pos (show s.Kind≠6 by omega),if_neg (show ¬ (s.Kind=3∨s.Kind=4) by omega),if_neg c3,c2]
    have hw:=hN (by omega)
    obtain ⟨t,A',rfl,ht,hA'⟩:=Tks.cons hA
    obtain ⟨t3,A3,rfl,ht3,hY⟩:=Tks.cons hA'
    obtain ⟨A1,A2,rfl,hA1,hA2⟩:=Tks.app hY
    obtain ⟨t9,A9,rfl,ht9,hA9⟩:=Tks.cons hA2
    have:=Tks.nil hA9
    subst this
    have f1:Fol 0 (t9::B):=fol_word fw59 ht9.tx _ 0
    have e0:t::t3::(A1++[t9])++B=t::t3::(A1++t9::B):=by simp
    rw [p_stat,e0]
    rw [is_miss (by rw [ht.tx]; exact hw.ne (by kernel_rfl)),bS]
    simp only [Bool.false_eq_true,if_false]
    rw [is_miss (by rw [ht.tx]; exact hw.ne (by kernel_rfl)),bS]
    simp only [Bool.false_eq_true,if_false]
    rw [is_miss (by rw [ht.tx]; exact hw.ne (by kernel_rfl)),bS]
    simp only [Bool.false_eq_true,if_false]
    rw [is_miss (by rw [ht.tx]; exact hw.ne (by kernel_rfl)),bS]
    simp only [Bool.false_eq_true,if_false]
    rw [is_miss (by rw [ht.tx]; exact hw.ne (by kernel_rfl)),bS]
    simp only [Bool.false_eq_true,if_false]
    rw [is_miss (by rw [ht.tx]; exact hw.ne (by kernel_rfl)),bS]
    simp only [Bool.false_eq_true,if_false]
    rw [is_miss (by rw [ht.tx]; exact hw.ne (by kernel_rfl)),bS]
    simp only [Bool.false_eq_true,if_false]
    rw [is_miss (by rw [ht.tx]; exact hw.ne (by kernel_rfl)),bS]
    simp only [Bool.false_eq_true,if_false]
    rw [name_ok (by omega) ht hw,bS]
    simp only []
    rw [need_hit ht3.tx,bS]
    simp only []
    rw [X (by omega) A1 _ hA1 f1,bS]
    exact J1 t9 _ _ ht9.tx
   rw [if_neg c2] at hA
   by_cases c7:s.Kind=7
   ·rw [if_pos c7] at hA
    rw [if_pos (show s.Kind=1∨s.Kind=2∨s.Kind=7 by omega),if_pos (show s.Kind≠6 by omega),if_neg (show ¬ (s.Kind=3∨s.Kind=4) by omega),if_neg c3,c7]
    have hw:=hN (by omega)
    obtain ⟨t,A',rfl,ht,hA'⟩:=Tks.cons hA
    obtain ⟨t2,A3,rfl,ht2,hY⟩:=Tks.cons hA'
    obtain ⟨A1,A2,rfl,hA1,hA2⟩:=Tks.app hY
    obtain ⟨t9,A9,rfl,ht9,hA9⟩:=Tks.cons hA2
    have:=Tks.nil hA9
    subst this
    have f1:Fol 0 (t9::B):=fol_word fw59 ht9.tx _ 0
    have e0:t::t2::(A1++[t9])++B=t::t2::(A1++t9::B):=by simp
    rw [p_stat,e0]
    rw [is_miss (by rw [ht.tx]; decide),bS]
    simp only [Bool.false_eq_true,if_false]
    rw [is_miss (by rw [ht.tx]; decide),bS]
    simp only [Bool.false_eq_true,if_false]
    rw [is_miss (by rw [ht.tx]; decide),bS]
    simp only [Bool.false_eq_true,if_false]
    rw [is_miss (by rw [ht.tx]; decide),bS]
    simp only [Bool.false_eq_true,if_false]
    rw [is_miss (by rw [ht.tx]; decide),bS]
    simp only [Bool.false_eq_true,if_false]
    rw [is_hit ht.tx,bS]
    simp only [if_true]
    rw [name_ok (by omega) ht2 hw,bS]
    simp only []
    rw [X (by omega) A1 _ hA1 f1,bS]
    exact J1 t9 _ _ ht9.tx
   rw [if_neg c7] at hA
   by_cases c6:s.Kind=6
   ·rw [if_pos c6] at hA
    rw [if_neg (show ¬ (s.Kind=1∨s.Kind=2∨s.Kind=7) by omega),if_neg (show ¬ s.Kind≠6 by omega),if_neg (show ¬ (s.Kind=3∨s.Kind=4) by omega),if_neg c3,c6]
    obtain ⟨t,A',rfl,ht,hA'⟩:=Tks.cons hA
    obtain ⟨t9,A9,rfl,ht9,hA9⟩:=Tks.cons hA'
    have:=Tks.nil hA9
    subst this
    have e0:t::[t9]++B=t::t9::B:=rfl
    rw [p_stat,e0]
    rw [is_miss (by rw [ht.tx]; decide),bS]
    simp only [Bool.false_eq_true,if_false]
    rw [is_miss (by rw [ht.tx]; decide),bS]
    simp only [Bool.false_eq_true,if_false]
    rw [is_miss (by rw [ht.tx]; decide),bS]
    simp only [Bool.false_eq_true,if_false]
    rw [is_miss (by rw [ht.tx]; decide),bS]
    simp only [Bool.false_eq_true,if_false]
    rw [is_hit ht.tx,bS]
    simp only [if_true]
    rw [p_stat_j1,need_hit ht9.tx,bS]
   rw [if_neg c6] at hA
   by_cases c5:s.Kind=5
   ·rw [if_pos c5] at hA
    rw [if_neg (show ¬ (s.Kind=1∨s.Kind=2∨s.Kind=7) by omega),if_pos (show s.Kind≠6 by omega),if_neg (show ¬ (s.Kind=3∨s.Kind=4) by omega),if_neg c3,c5]
    obtain ⟨t,A3,rfl,ht,hY⟩:=Tks.cons hA
    obtain ⟨A1,A2,rfl,hA1,hA2⟩:=Tks.app hY
    obtain ⟨t9,A9,rfl,ht9,hA9⟩:=Tks.cons hA2
    have:=Tks.nil hA9
    subst this
    have f1:Fol 0 (t9::B):=fol_word fw59 ht9.tx _ 0
    have e0:t::(A1++[t9])++B=t::(A1++t9::B):=by simp
    rw [p_stat,e0]
    rw [is_miss (by rw [ht.tx]; decide),bS]
    simp only [Bool.false_eq_true,if_false]
    rw [is_miss (by rw [ht.tx]; decide),bS]
    simp only [Bool.false_eq_true,if_false]
    rw [is_miss (by rw [ht.tx]; decide),bS]
    simp only [Bool.false_eq_true,if_false]
    rw [is_hit ht.tx,bS]
    simp only [if_true]
    rw [X (by omega) A1 _ hA1 f1,bS]
    exact J1 t9 _ _ ht9.tx
   rw [if_neg c5] at hA
   by_cases c8:s.Kind=8
   ·rw [if_pos c8] at hA
    rw [if_neg (show ¬ (s.Kind=1∨s.Kind=2∨s.Kind=7) by omega),if_pos (show s.Kind≠6 by omega),if_neg (show ¬ (s.Kind=3∨s.Kind=4) by omega),if_neg c3,c8]
    obtain ⟨t,A3,rfl,ht,hY⟩:=Tks.cons hA
    obtain ⟨A1,A2,rfl,hA1,hA2⟩:=Tks.app hY
    obtain ⟨t9,A9,rfl,ht9,hA9⟩:=Tks.cons hA2
    have:=Tks.nil hA9
    subst this
    have f1:Fol 0 (t9::B):=fol_word fw59 ht9.tx _ 0
    have e0:t::(A1++[t9])++B=t::(A1++t9::B):=by simp
    rw [p_stat,e0]
    rw [is_miss (by rw [ht.tx]; decide),bS]
    simp only [Bool.false_eq_true,if_false]
    rw [is_miss (by rw [ht.tx]; decide),bS]
    simp only [Bool.false_eq_true,if_false]
    rw [is_miss (by rw [ht.tx]; decide),bS]
    simp only [Bool.false_eq_true,if_false]
    rw [is_miss (by rw [ht.tx]; decide),bS]
    simp only [Bool.false_eq_true,if_false]
    rw [is_miss (by rw [ht.tx]; decide),bS]
    simp only [Bool.false_eq_true,if_false]
    rw [is_miss (by rw [ht.tx]; decide),bS]
    simp only [Bool.false_eq_true,if_false]
    rw [is_hit ht.tx,bS]
    simp only [if_true]
    rw [X (by omega) A1 _ hA1 f1,bS]
    exact J1 t9 _ _ ht9.tx
   rw [if_neg c8] at hA
   have c9:s.Kind=9:=by omega
   rw [if_neg (show ¬ (s.Kind=1∨s.Kind=2∨s.Kind=7) by omega),if_pos (show s.Kind≠6 by omega),if_neg (show ¬ (s.Kind=3∨s.Kind=4) by omega),if_neg c3,c9]
   obtain ⟨t,A3,rfl,ht,hY⟩:=Tks.cons hA
   obtain ⟨A1,A2,rfl,hA1,hA2⟩:=Tks.app hY
   obtain ⟨t9,A9,rfl,ht9,hA9⟩:=Tks.cons hA2
   have:=Tks.nil hA9
   subst this
   have f1:Fol 0 (t9::B):=fol_word fw59 ht9.tx _ 0
   have e0:t::(A1++[t9])++B=t::(A1++t9::B):=by simp
   rw [p_stat,e0]
   rw [is_miss (by rw [ht.tx]; decide),bS]
   simp only [Bool.false_eq_true,if_false]
   rw [is_miss (by rw [ht.tx]; decide),bS]
   simp only [Bool.false_eq_true,if_false]
   rw [is_miss (by rw [ht.tx]; decide),bS]
   simp only [Bool.false_eq_true,if_false]
   rw [is_miss (by rw [ht.tx]; decide),bS]
   simp only [Bool.false_eq_true,if_false]
   rw [is_miss (by rw [ht.tx]; decide),bS]
   simp only [Bool.false_eq_true,if_false]
   rw [is_miss (by rw [ht.tx]; decide),bS]
   simp only [Bool.false_eq_true,if_false]
   rw [is_miss (by rw [ht.tx]; decide),bS]
   simp only [Bool.false_eq_true,if_false]
   rw [is_hit ht.tx,bS]
   simp only [if_true]
   rw [X (by omega) A1 _ hA1 f1,bS]
   exact J1 t9 _ _ ht9.tx
end Go.Y
namespace Go.Y
open Go.Wk Go.Xt
def wTy (t:TType):Wd:=if t.Kind=1 then [110,117,109] else if t.Kind=2 then [98,111,111,108] else t.Gen
def TyF (t:TType):Prop:=OkT t∧(t.Kind=3→Nmd t.Gen)
theorem typ_ok {fu:Nat} (hf:20≤fu) {t:TToken} {ty:TType} {B:List TToken} {e d:Int} (ht:Tok1 t (wTy ty)) (h:TyF ty):p_typ fu (t::B) e d=some (bareT ty,B,e,d):=by
 obtain ⟨⟨h1,h2⟩,h3⟩:=h
 rw [p_typ]
 by_cases c1:ty.Kind=1
 ·rw [wTy,if_pos c1] at ht
  rw [is_hit ht.tx,bS]
  simp only [if_true]
  rw [bareT,if_pos (by omega),c1]
 by_cases c2:ty.Kind=2
 ·rw [wTy,if_neg c1,if_pos c2] at ht
  rw [is_miss (by rw [ht.tx]; decide),bS]
  simp only [Bool.false_eq_true,if_false]
  rw [is_hit ht.tx,bS]
  simp only [if_true]
  rw [bareT,if_pos (by omega),c2]
 ·have c3:ty.Kind=3:=by omega
  have hn:=h3 c3
  rw [wTy,if_neg c1,if_neg c2] at ht
  rw [is_miss (by rw [ht.tx]; exact hn.ne (by kernel_rfl)),bS]
  simp only [Bool.false_eq_true,if_false]
  rw [is_miss (by rw [ht.tx]; exact hn.ne (by kernel_rfl)),bS]
  simp only [Bool.false_eq_true,if_false]
  rw [name_ok hf ht hn,bS,bareT,if_neg (by omega)]
  obtain ⟨kd,gn⟩:=ty
  simp only at c3
  subst c3
  rfl
def bareP (q:TParam):TParam:=TParam.mk q.Name (bareT q.Typ)
def wPT (l:List TParam):List Wd:=(l.map fun q=>[44]::q.Name::[wTy q.Typ]).flatten
def wPs:List TParam→List Wd
 | []=>[[40],[41]]
 | q::l=>[40]::q.Name::wTy q.Typ::(wPT l++[[41]])
theorem params_l1_t {fu:Nat} (hf:20≤fu) {e d:Int} (B:List TToken):∀ (l:List TParam) (acc:List TParam) (m:Nat) (A:List TToken),(∀ q ∈ l,Nmd q.Name∧TyF q.Typ)→l.length<m→0<acc.length→acc.length+l.length≤6→Tks A (wPT l++[[41]]) →
  p_params_l1 fu m (A++B) e d acc=some (acc++l.map bareP,B,e,d):=by
 intro l
 induction l with
 | nil =>
  intro acc m A hC hm ha hl hA
  obtain ⟨m,rfl⟩:∃ m',m=m'+1:=⟨m - 1,by simp at hm; omega⟩
  obtain ⟨t,A',rfl,ht,hA'⟩:=Tks.cons hA
  have:=Tks.nil hA'
  subst this
  rw [p_params_l1,List.cons_append,is_hit ht.tx,bS,if_pos rfl]
  simp
 | cons q l ih =>
  intro acc m A hC hm ha hl hA
  rw [List.length_cons] at hm hl
  obtain ⟨m,rfl⟩:∃ m',m=m'+1:=⟨m - 1,by omega⟩
  have e1:wPT (q::l)++[[41]]=[44]::q.Name::wTy q.Typ::(wPT l++[[41]]):=by simp [wPT]
  rw [e1] at hA
  obtain ⟨t,A',rfl,ht,hA'⟩:=Tks.cons hA
  obtain ⟨t2,A2,rfl,ht2,hA2⟩:=Tks.cons hA'
  obtain ⟨t3,A3,rfl,ht3,hA3⟩:=Tks.cons hA2
  obtain ⟨q1,q2⟩:=hC q (List.mem_cons_self ..)
  rw [p_params_l1,List.cons_append,is_miss (by rw [ht.tx]; decide),bS]
  simp only [Bool.false_eq_true,if_false]
  rw [if_pos (by omega),need_hit ht.tx,bS,p_params_j1,if_neg (by omega)]
  simp only [List.cons_append]
  rw [name_ok hf ht2 q1,bS]
  simp only []
  rw [typ_ok hf ht3 q2,bS]
  simp only []
  rw [app_ok (by simp; omega),bS]
  have:=ih (acc++[bareP q]) m A3 (fun y hy=>hC y (List.mem_cons_of_mem _ hy)) (by omega) (by simp) (by simp; omega) hA3
  refine Eq.trans this ?_
  simp
theorem params_t {fu:Nat} (hf:20≤fu) {l:List TParam} {A B:List TToken} {e d:Int} (hC:∀ q ∈ l,Nmd q.Name∧TyF q.Typ) (hl:l.length≤6) (hA:Tks A (wPs l)):p_params fu (A++B) e d=some (l.map bareP,B,e,d):=by
 obtain ⟨m,hm⟩:∃ m',fu=m'+1:=⟨fu - 1,by omega⟩
 rw [p_params]
 cases l with
 | nil =>
  obtain ⟨t,A',rfl,ht,hA'⟩:=Tks.cons hA
  obtain ⟨t2,A2,rfl,ht2,hA2⟩:=Tks.cons hA'
  have:=Tks.nil hA2
  subst this
  rw [List.cons_append,need_hit ht.tx,bS]
  simp only []
  have step:p_params_l1 fu (m+1) (t2::[]++B) e d []=some (([]:List TParam).map bareP,B,e,d):=by
   rw [p_params_l1,List.cons_append,is_hit ht2.tx,bS,if_pos rfl]
   simp
  rw [← hm] at step
  exact step
 | cons q l =>
  rw [List.length_cons] at hl
  obtain ⟨t,A',rfl,ht,hA'⟩:=Tks.cons hA
  obtain ⟨t2,A2,rfl,ht2,hA2⟩:=Tks.cons hA'
  obtain ⟨t3,A3,rfl,ht3,hA3⟩:=Tks.cons hA2
  obtain ⟨q1,q2⟩:=hC q (List.mem_cons_self ..)
  rw [List.cons_append,need_hit ht.tx,bS]
  simp only []
  have step:p_params_l1 fu (m+1) (t2::t3::A3++B) e d []=some ((q::l).map bareP,B,e,d):=by
   rw [p_params_l1,List.cons_append,is_miss (by rw [ht2.tx]; exact q1.ne_sign (by decide)),bS]
   simp only [Bool.false_eq_true,if_false]
   rw [if_neg (by simp),p_params_j1,if_neg (by simp),name_ok hf ht2 q1,bS]
   simp only [List.cons_append]
   rw [typ_ok hf ht3 q2,bS]
   simp only []
   rw [app_ok (by simp),bS]
   have:=params_l1_t hf (e:=e) (d:=d) B l ([]++[bareP q]) m A3 (fun y hy=>hC y (List.mem_cons_of_mem _ hy)) (by omega) (by simp) (by simp; omega) hA3
   refine Eq.trans this ?_
   simp
  rw [← hm] at step
  exact step
def wD (d:TDef):List Wd :=
 if d.Kind=1 then [[98,111,120],d.Name,wTy d.Typ,Lib.itoa d.Cap,[59]]
 else if d.Kind=4 then [116,97,115,107]::d.Name::wBody (wS 39) d.Body
 else if d.Kind=2 then [102,110]::d.Name::(wPs d.Params++wTy d.Typ::wBody (wS 39) d.Body)
 else [103,101,110]::d.Name::(wPs d.Params++[116,97,107,101,115]::wTy d.Takes::[121,105,101,108,100,115]::wTy d.Typ::wBody (wS 39) d.Body)
structure FmD (d:TDef):Prop where
 k1:1≤d.Kind
 k4:d.Kind≤4
 nm:Nmd d.Name
 ps:d.Kind=2∨d.Kind=3→d.Params.length≤6∧∀ q ∈ d.Params,Nmd q.Name∧TyF q.Typ
 tk:d.Kind=3→TyF d.Takes
 ty:d.Kind≠4→TyF d.Typ
 cp:d.Kind=1→1≤d.Cap∧d.Cap≤20
 bo:d.Kind≠1→d.Body.length≤50∧∀ y ∈ d.Body,FmS 39 y
theorem at_some {t:TToken} {B:List TToken} {e d:Int}:p_at (t::B) e d=some t.At:=by
 rw [p_at,if_neg (by simp; omega),at_0 (by simp),bS]
 rfl
theorem def_t (num:NumOk) {fu:Nat} (hf:8000≤fu) {x:TDef} (h:FmD x) {A B:List TToken} {e:Int} (hA:Tks A (wD x)):p_def fu (A++B) e 0=some (bareD 39 x,B,e,0):=by
 have hb:bareD 39 x=TDef.mk x.Kind x.Name (if x.Kind≠4 then bareT x.Typ else TType.mk 0 []) (if x.Kind=3 then bareT x.Takes else TType.mk 0 []) (if x.Kind=1 then x.Cap else 0) (if x.Kind=2∨x.Kind=3 then x.Params.map bareP else []) (if x.Kind=1 then [] else x.Body.map (bareS 39)):=rfl
 have BD:∀ (A1:List TToken),x.Kind≠1→Tks A1 (wBody (wS 39) x.Body)→(ParS_run fu).p_body (A1++B) e 0=some (x.Body.map (bareS 39),B,e,0):=fun A1 h1 h2 =>
  (rs_all num fu 39 (by omega)).body x.Body A1 B e 0 (h.bo h1).1 (h.bo h1).2 (by omega) (by omega) (by omega) h2
 have k1:=h.k1
 have k4:=h.k4
 rw [hb]
 rw [wD] at hA
 by_cases c1:x.Kind=1
 ·obtain ⟨a1,a2⟩:=h.cp c1
  obtain ⟨n1,n2⟩:=num x.Cap (by omega) (by omega)
  rw [if_pos c1] at hA
  rw [if_pos (show x.Kind≠4 by omega),if_neg (show ¬ x.Kind=3 by omega),if_pos c1,if_neg (show ¬ (x.Kind=2∨x.Kind=3) by omega),if_pos c1,c1]
  obtain ⟨t,A1,rfl,ht,hA1⟩:=Tks.cons hA
  obtain ⟨t2,A2,rfl,ht2,hA2⟩:=Tks.cons hA1
  obtain ⟨t3,A3,rfl,ht3,hA3⟩:=Tks.cons hA2
  obtain ⟨t4,A4,rfl,ht4,hA4⟩:=Tks.cons hA3
  obtain ⟨t5,A5,rfl,ht5,hA5⟩:=Tks.cons hA4
  have:=Tks.nil hA5
  subst this
  have k2:t4.Kind=2:=by rw [ht4.kd,n1]
  have hn':=ht4.nm n1
  rw [n2] at hn'
  have hn'':=Option.some.inj hn'
  simp only [List.cons_append,List.nil_append]
  rw [p_def,at_some,bS,is_hit ht.tx,bS]
  simp only [if_true]
  rw [name_ok (by omega) ht2 h.nm,bS]
  simp only []
  rw [typ_ok (by omega) ht3 (h.ty (by omega)),bS]
  simp only []
  rw [at_some,bS,number_hit k2,bS]
  have J:∀ b,b=false→p_def_j1 (x.Name,t3::t4::t5::B,e,0) (bareT x.Typ,t4::t5::B,e,0) (t4.Num,t5::B,e,0) b=some (⟨1,x.Name,bareT x.Typ,⟨0,[]⟩,x.Cap,[],[]⟩,B,e,0):=by
   intro b hb
   rw [p_def_j1,hb,if_neg (by decide)]
   simp only []
   rw [need_hit ht5.tx,bS,← hn'']
  rw [if_neg (by simp only []; omega)]
  exact J _ (decide_eq_false (by simp only []; omega))
 rw [if_neg c1] at hA
 by_cases c4:x.Kind=4
 ·rw [if_pos c4] at hA
  rw [if_neg (show ¬ x.Kind≠4 by omega),if_neg (show ¬ x.Kind=3 by omega),if_neg c1,if_neg (show ¬ (x.Kind=2∨x.Kind=3) by omega),if_neg c1,c4]
  obtain ⟨t,A1,rfl,ht,hA1⟩:=Tks.cons hA
  obtain ⟨t2,A2,rfl,ht2,hA2⟩:=Tks.cons hA1
  simp only [List.cons_append]
  rw [p_def,at_some,bS]
  rw [is_miss (by rw [ht.tx]; decide),bS]
  simp only [Bool.false_eq_true,if_false]
  rw [is_miss (by rw [ht.tx]; decide),bS]
  simp only [Bool.false_eq_true,if_false]
  rw [is_miss (by rw [ht.tx]; decide),bS]
  simp only [Bool.false_eq_true,if_false]
  rw [is_hit ht.tx,bS]
  simp only [if_true]
  rw [name_ok (by omega) ht2 h.nm,bS]
  simp only []
  rw [BD A2 c1 hA2,bS]
 rw [if_neg c4] at hA
 by_cases c2:x.Kind=2
 ·obtain ⟨p1,p2⟩:=h.ps (.inl c2)
  rw [if_pos c2] at hA
  rw [if_pos c4,if_neg (show ¬ x.Kind=3 by omega),if_neg c1,if_pos (show x.Kind=2∨x.Kind=3 by omega),if_neg c1,c2]
  obtain ⟨t,A1,rfl,ht,hA1⟩:=Tks.cons hA
  obtain ⟨t2,A2,rfl,ht2,hA2⟩:=Tks.cons hA1
  obtain ⟨A3,A4,rfl,hA3,hA4⟩:=Tks.app hA2
  obtain ⟨t5,A5,rfl,ht5,hA5⟩:=Tks.cons hA4
  simp only [List.cons_append,List.append_assoc]
  rw [p_def,at_some,bS]
  rw [is_miss (by rw [ht.tx]; decide),bS]
  simp only [Bool.false_eq_true,if_false]
  rw [is_hit ht.tx,bS]
  simp only [if_true]
  rw [name_ok (by omega) ht2 h.nm,bS]
  simp only []
  rw [params_t (by omega) p2 p1 hA3,bS]
  simp only []
  rw [typ_ok (by omega) ht5 (h.ty c4),bS]
  simp only []
  rw [BD A5 c1 hA5,bS]
 rw [if_neg c2] at hA
 have c3:x.Kind=3:=by omega
 obtain ⟨p1,p2⟩:=h.ps (.inr c3)
 rw [if_pos c4,if_pos c3,if_neg c1,if_pos (show x.Kind=2∨x.Kind=3 by omega),if_neg c1,c3]
 obtain ⟨t,A1,rfl,ht,hA1⟩:=Tks.cons hA
 obtain ⟨t2,A2,rfl,ht2,hA2⟩:=Tks.cons hA1
 obtain ⟨A3,A4,rfl,hA3,hA4⟩:=Tks.app hA2
 obtain ⟨t5,A5,rfl,ht5,hA5⟩:=Tks.cons hA4
 obtain ⟨t6,A6,rfl,ht6,hA6⟩:=Tks.cons hA5
 obtain ⟨t7,A7,rfl,ht7,hA7⟩:=Tks.cons hA6
 obtain ⟨t8,A8,rfl,ht8,hA8⟩:=Tks.cons hA7
 simp only [List.cons_append,List.append_assoc]
 rw [p_def,at_some,bS]
 rw [is_miss (by rw [ht.tx]; decide),bS]
 simp only [Bool.false_eq_true,if_false]
 rw [is_miss (by rw [ht.tx]; decide),bS]
 simp only [Bool.false_eq_true,if_false]
 rw [is_hit ht.tx,bS]
 simp only [if_true]
 rw [name_ok (by omega) ht2 h.nm,bS]
 simp only []
 rw [params_t (by omega) p2 p1 hA3,bS]
 simp only []
 rw [need_hit ht5.tx,bS]
 simp only []
 rw [typ_ok (by omega) ht6 (h.tk c3),bS]
 simp only []
 rw [need_hit ht7.tx,bS]
 simp only []
 rw [typ_ok (by omega) ht8 (h.ty c4),bS]
 simp only []
 rw [BD A8 c1 hA8,bS]
def wP (l:List TDef):List Wd:=(l.map wD).flatten
theorem wD_ne (x:TDef):wD x≠[]:=by
 unfold wD
 split
 ·simp
 ·split
  ·simp
  ·split <;> simp
theorem read_l1_t (num:NumOk) {fu:Nat} (hf:8000≤fu) (r8:List TToken×TFault) {e:Int} (W:TFault) (hW0:W.Err=0):∀ (l:List TDef) (acc:List TDef) (m:Nat) (A:List TToken),(∀ x ∈ l,FmD x)→l.length<m→acc.length+l.length≤30→Tks A (wP l)→syn_wrong fu (acc++l.map (bareD 39))=some W →
  syn_read_l1 fu r8 m A e 0 acc=some (acc++l.map (bareD 39),r8.2):=by
 intro l
 induction l with
 | nil =>
  intro acc m A hF hm ha hA hW
  obtain ⟨m,rfl⟩:∃ m',m=m'+1:=⟨m - 1,by simp at hm; omega⟩
  have:=Tks.nil hA
  subst this
  rw [List.map_nil,List.append_nil] at hW ⊢
  rw [syn_read_l1,if_neg (by simp),hW,bS,if_neg (by simpa using hW0),syn_read_j4,p_done,bS]
 | cons x l ih =>
  intro acc m A hF hm ha hA hW
  rw [List.length_cons] at hm ha
  obtain ⟨m,rfl⟩:∃ m',m=m'+1:=⟨m - 1,by omega⟩
  rw [wP,List.map_cons,List.flatten_cons] at hA
  obtain ⟨A1,A2,rfl,hA1,hA2⟩:=Tks.app hA
  have hp:0<(A1++A2).length:=by
   cases A1 with
   | nil =>
    exfalso
    have hne:=wD_ne x
    generalize wD x=w at hA1 hne
    cases w with
    | nil=>exact hne rfl
    | cons _ _=>cases hA1
   | cons t A1=>simp
  rw [syn_read_l1,if_pos (by omega),if_neg (by omega),def_t num hf (hF x (List.mem_cons_self ..)) hA1,bS]
  simp only []
  rw [app_ok (by simp; omega),bS,syn_read_j2]
  have e1:acc++(x::l).map (bareD 39)=(acc++[bareD 39 x])++l.map (bareD 39):=by simp
  rw [e1] at hW ⊢
  exact ih (acc++[bareD 39 x]) m A2 (fun y hy=>hF y (List.mem_cons_of_mem _ hy)) (by omega) (by simp; omega) hA2 hW
end Go.Y
namespace Go.Y
open Go.Wk Go.Xt
def SG:List Wd:=[[61,61],[33,61],[60,61],[62,61],[60],[62],[61],[43],[45],[42],[47],[37],[40],[41],[123],[125],[44],[59]]
def jn:List Wd→Wd
 | []=>[]
 | [w]=>w
 | w::w'::ws=>w++32::jn (w'::ws)
def LexW (w:Wd):Prop:=(∃ c u,w=c::u∧isLet c=true∧∀ x ∈ u,isLet x=true∨isDig x=true)∨(w≠[]∧(∀ x ∈ w,isDig x=true)∧w.length≤15∧∃ v,pint w=some v)∨w ∈ SG
theorem letter_e (c:UInt8):lx_letter c=some (isLet c):=by
 rw [lx_letter,isLet]
 split
 ·split
  ·exact congrArg some (decide_eq_true (by omega)).symm
  ·exact congrArg some (decide_eq_decide.2 (by omega))
 ·exact congrArg some (decide_eq_decide.2 (by omega))
theorem digit_e (c:UInt8):lx_digit c=some (isDig c):=by
 rw [lx_digit,isDig]
 split
 ·exact congrArg some (decide_eq_decide.2 (by omega))
 ·exact congrArg some (decide_eq_false (by omega)).symm
theorem t1_e (c:UInt8):lx_t1 c=some (isLet c || isDig c):=by
 rw [lx_t1,letter_e,bS]
 cases h:isLet c with
 | true=>rfl
 | false=>rw [if_neg (by decide),digit_e,bS,Bool.false_or]
def Tail (t:Wd):Prop:=t=[]∨∃ t',t=32::t'
theorem while_e {p:UInt8→Option Bool} {u t:Wd} (hu:∀ c ∈ u,p c=some true) (ht:Tail t) (h32:p 32=some false) (hl:u.length≤6000) (fu:Nat) (hf:6100≤fu):lx_while fu (u++t) p=some (u.length:Int):=by
 have L:∀ (m i:Nat),i≤u.length→u.length<m+i→lx_while_l1 (u++t) p m (i:Int)=some (u.length:Int):=by
  intro m
  induction m with
  | zero=>intro i h1 h2; omega
  | succ m ih =>
   intro i h1 h2
   rw [lx_while_l1]
   by_cases c:i<u.length
   ·rw [if_pos (by simp <;> omega),at_nat,List.getElem?_append_left c,List.getElem?_eq_getElem c,bS,hu _ (List.getElem_mem c),bS,lx_while_j1,if_pos rfl,i64_ok (by omega),bS]
    exact ih (i+1) c (by omega)
   ·have e:i=u.length:=by omega
    subst e
    rcases ht with rfl | ⟨t',rfl⟩
    ·rw [if_neg (by simp),lx_while_j1,if_neg (by decide)]
    ·rw [if_pos (by simp <;> omega),at_nat,List.getElem?_append_right (Nat.le_refl _),Nat.sub_self]
     show Option.bind (some (32:UInt8)) _=_
     rw [bS,h32,bS,lx_while_j1,if_neg (by decide)]
 exact L fu 0 (by omega) (by omega)
theorem hp_e {w t x:Wd} (ht:Tail t) (hx:(32:UInt8) ∉ x):lx_hp (w++t) x=some (decide (x=w.take x.length)):=by
 rw [lx_hp,lx_hp0]
 by_cases c:x.length≤(w++t).length
 ·rw [if_pos (by omega),cut,if_pos (by omega)]
  simp only [Int.toNat_natCast,Int.toNat_zero,List.drop_zero,bS]
  refine congrArg some (decide_eq_decide.2 ?_)
  by_cases d:x.length≤w.length
  ·rw [List.take_append_of_le_length d]
   exact eq_comm
  ·constructor
   ·intro h
    exfalso
    rcases ht with rfl | ⟨t',rfl⟩
    ·simp at c; omega
    ·apply hx
     rw [← h,List.take_append,List.take_of_length_le (by omega)]
     obtain ⟨j,hj⟩:∃ j,x.length - w.length=j+1:=⟨x.length - w.length - 1,by omega⟩
     rw [hj,List.take_succ_cons]
     simp
   ·intro h
    exfalso
    have:=congrArg List.length h
    rw [List.length_take] at this
    omega
 ·rw [if_neg (by omega),bS]
  refine congrArg some (decide_eq_false fun h=>?_).symm
  have:=congrArg List.length h
  rw [List.length_take] at this
  simp at c
  omega
theorem sign_e {w t:Wd} (hw:w ∈ SG) (ht:Tail t):lx_sign (w++t)=some w:=by
 have h32:∀ x ∈ SG,(32:UInt8) ∉ x:=by decide
 have hF:∀ w ∈ SG,(SG.find? fun x=>decide (x=w.take x.length))=some w:=by decide
 have L:∀ (m i:Nat),i≤18→18<m+i→lx_sign_l1 (w++t) m (i:Int)=some (((SG.drop i).find? fun x=>decide (x=w.take x.length)).getD []):=by
  intro m
  induction m with
  | zero=>intro i h1 h2; omega
  | succ m ih =>
   intro i h1 h2
   rw [lx_sign_l1]
   have hl:SG.length=18:=rfl
   by_cases c:i<18
   ·have hm:SG[i] ∈ SG:=List.getElem_mem _
    have e:at_ SG (i:Int)=some SG[i]:=by rw [at_nat]; exact List.getElem?_eq_getElem _
    rw [if_pos (by omega)]
    show Option.bind (at_ SG (i:Int)) _=_
    rw [e,bS,hp_e ht (h32 _ hm),bS,List.drop_eq_getElem_cons (show i<SG.length by omega),List.find?_cons]
    cases q:decide (SG[i]=w.take SG[i].length) with
    | true=>rfl
    | false =>
     rw [if_neg (by decide),i64_ok (by omega),bS]
     exact ih (i+1) c (by omega)
   ·rw [if_neg (by omega),List.drop_eq_nil_of_le (by omega)]
    rfl
 rw [lx_sign]
 have:=L 19 0 (by omega) (by omega)
 rw [List.drop_zero,hF w hw] at this
 exact this
theorem LexW.head {w:Wd} (h:LexW w):∃ c u,w=c::u∧c.toNat≠32∧c.toNat≠9∧c.toNat≠10∧c.toNat≠35:=by
 rcases h with ⟨c,u,rfl,h,-⟩ | ⟨h,h2,-⟩ | h
 ·have:=of_decide_eq_true h
  exact ⟨c,u,rfl,by omega,by omega,by omega,by omega⟩
 ·cases w with
  | nil=>exact absurd rfl h
  | cons c u =>
   have:=of_decide_eq_true (h2 c (List.mem_cons_self ..))
   exact ⟨c,u,rfl,by omega,by omega,by omega,by omega⟩
 ·have H:∀ w ∈ SG,(match w with | []=>false | c::_=>decide (c.toNat≠32∧c.toNat≠9∧c.toNat≠10∧c.toNat≠35))=true:=by decide
  have:=H w h
  cases w with
  | nil=>cases this
  | cons c u =>
   have:=of_decide_eq_true this
   exact ⟨c,u,rfl,this⟩
theorem space_0 {fu:Nat} (hf:100≤fu) {c:UInt8} {u:Wd} (h:c.toNat≠32∧c.toNat≠9∧c.toNat≠10∧c.toNat≠35):lx_space fu (c::u)=some 0:=by
 obtain ⟨m,rfl⟩:∃ m,fu=m+1:=⟨fu - 1,by omega⟩
 have J:∀ b K,b=false→lx_space_j1 (m+1) (c::u) 0 c K b=some 0:=fun b K hb=>by rw [lx_space_j1,hb,if_neg (by decide),if_neg (by omega)]
 rw [lx_space,lx_space_l1,if_pos (by simp <;> omega),at_0 (by simp),bS]
 show (if (c.toNat:Int)=32 then _ else if (c.toNat:Int)=9 then _ else lx_space_j1 (m+1) (c::u) 0 c (lx_space_l1 (m+1) (c::u) m) (decide ((c.toNat:Int)=10)))=_
 rw [if_neg (by omega),if_neg (by omega)]
 exact J _ _ (decide_eq_false (by omega))
theorem space_1 {fu:Nat} (hf:100≤fu) {c:UInt8} {u:Wd} (h:c.toNat≠32∧c.toNat≠9∧c.toNat≠10∧c.toNat≠35):lx_space fu (32::c::u)=some 1:=by
 obtain ⟨m,rfl⟩:∃ m,fu=m+2:=⟨fu - 2,by omega⟩
 have J:∀ b K,b=false→lx_space_j1 (m+2) (32::c::u) 1 c K b=some 1:=fun b K hb=>by rw [lx_space_j1,hb,if_neg (by decide),if_neg (by omega)]
 have e1:at_ (32::c::u) 1=some c:=by rw [at_1 (by simp)]; rfl
 rw [lx_space,lx_space_l1,if_pos (by simp <;> omega),at_0 (by simp),bS]
 show (if (((32:UInt8).toNat:Nat):Int)=32 then lx_space_j1 (m+2) (32::c::u) 0 32 (lx_space_l1 (m+2) (32::c::u) (m+1)) (decide ((((32:UInt8).toNat:Nat):Int)=32)) else _)=_
 rw [if_pos (by decide),lx_space_j1,if_pos (by decide),i64_ok (by omega),bS]
 show lx_space_l1 (m+2) (32::c::u) (m+1) 1=_
 rw [lx_space_l1,if_pos (by simp <;> omega),e1,bS,if_neg (by omega),if_neg (by omega)]
 exact J _ _ (decide_eq_false (by omega))
theorem space_nil {fu:Nat} (hf:100≤fu):lx_space fu []=some 0:=by
 obtain ⟨m,rfl⟩:∃ m,fu=m+1:=⟨fu - 1,by omega⟩
 rw [lx_space,lx_space_l1,if_neg (by simp)]
theorem drop_jn (pre:Wd) (t:Wd):(pre++t).drop pre.length=t:=by simp
theorem cut_drop {s:Wd} {i:Nat} (h:i≤s.length):cut s (i:Int) (s.length:Int)=some (s.drop i):=by
 rw [cut,if_pos (by omega)]
 simp
def rest:List Wd→Wd
 | []=>[]
 | w::ws=>32::jn (w::ws)
theorem jn_cons (w:Wd) (ws:List Wd):jn (w::ws)=w++rest ws:=by
 cases ws with
 | nil=>simp [jn,rest]
 | cons w' ws=>rfl
theorem rest_tail (ws:List Wd):Tail (rest ws):=by
 cases ws with
 | nil=>exact .inl rfl
 | cons w ws=>exact .inr ⟨_,rfl⟩
theorem rest_space {fu:Nat} (hf:100≤fu) (ws:List Wd) (h:∀ w ∈ ws,LexW w):lx_space fu (rest ws)=some (if ws=[] then 0 else 1):=by
 cases ws with
 | nil=>exact space_nil hf
 | cons w ws =>
  obtain ⟨c,u,rfl,hc⟩:=(h w (List.mem_cons_self ..)).head
  rw [rest,jn_cons,List.cons_append]
  exact space_1 hf hc
theorem lex_l1_t {fu:Nat} (hf:7000≤fu):∀ (ws:List Wd) (pre:Wd) (acc:List TToken) (m:Nat),(∀ w ∈ ws,LexW w)→ws.length<m→(pre++jn ws).length≤6000→acc.length+(jn ws).length≤6000 →
  ∃ ts,lex_tokens_l1 fu (pre++jn ws) m (pre.length:Int) acc=some (acc++ts,⟨0,0⟩)∧Tks ts ws:=by
 intro ws
 induction ws with
 | nil =>
  intro pre acc m hw hm hl ha
  obtain ⟨m,rfl⟩:∃ m',m=m'+1:=⟨m - 1,by simp at hm; omega⟩
  refine ⟨[],?_,trivial⟩
  rw [lex_tokens_l1,if_neg (by simp [jn]),List.append_nil]
 | cons w ws ih =>
  intro pre acc m hw hm hl ha
  rw [List.length_cons] at hm
  obtain ⟨m,rfl⟩:∃ m',m=m'+1:=⟨m - 1,by omega⟩
  rw [jn_cons] at hl ha ⊢
  have hW:=hw w (List.mem_cons_self ..)
  have hw':∀ y ∈ ws,LexW y:=fun y hy=>hw y (List.mem_cons_of_mem _ hy)
  have hT:=rest_tail ws
  obtain ⟨c,u,hcu,-⟩:=hW.head
  have hlen:(pre++(w++rest ws)).length=pre.length+w.length+(rest ws).length:=by simp; omega
  have hwp:0<w.length:=by rw [hcu]; simp
  rw [List.length_append] at ha
  have J:∀ (kd nm:Int),(∀ t:TToken,t=⟨kd,w,nm,pre.length⟩→Tok1 t w)→∃ ts,lex_tokens_j1 fu (pre++(w++rest ws)) (pre.length:Int) acc (lex_tokens_l1 fu (pre++(w++rest ws)) m) kd w nm=some (acc++ts,⟨0,0⟩)∧Tks ts (w::ws):=by
   intro kd nm hk
   have e1:(pre.length:Int)+(w.length:Int)=((pre.length+w.length:Nat):Int):=by omega
   have e2:(pre++(w++rest ws)).drop (pre.length+w.length)=rest ws:=by rw [← List.append_assoc,← List.length_append,drop_jn]
   rw [lex_tokens_j1,app_ok (by simp <;> omega),bS,i64_ok (by omega),bS,e1,cut_drop (by omega),bS,e2,rest_space (by omega) ws hw',bS]
   cases ws with
   | nil =>
    rw [if_pos rfl,i64_ok (by omega),bS]
    obtain ⟨m,rfl⟩:∃ m',m=m'+1:=⟨m - 1,by omega⟩
    refine ⟨[⟨kd,w,nm,pre.length⟩],?_,hk _ rfl,trivial⟩
    rw [lex_tokens_l1,if_neg (by simp [rest])]
   | cons w' ws =>
    rw [if_neg (by simp),i64_ok (by omega),bS]
    have e3:pre++(w++rest (w'::ws))=(pre++w++[32])++jn (w'::ws):=by simp [rest]
    have e4:((pre.length+w.length:Nat):Int)+1=((pre++w++[32]).length:Int):=by rw [List.length_append,List.length_append,List.length_singleton]; omega
    have hl2:(rest (w'::ws)).length=(jn (w'::ws)).length+1:=by simp [rest]
    rw [e3,e4]
    obtain ⟨ts,h1,h2⟩:=ih (pre++w++[32]) (acc++[⟨kd,w,nm,pre.length⟩]) m hw' (by omega) (by rw [← e3]; exact hl) (by rw [List.length_append,List.length_singleton]; omega)
    refine ⟨⟨kd,w,nm,pre.length⟩::ts,?_,hk _ rfl,h2⟩
    rw [h1]
    simp
  have e0:(pre++(w++rest ws)).drop pre.length=w++rest ws:=drop_jn _ _
  have e5:at_ (w++rest ws) 0=some c:=by rw [hcu,at_0 (by simp)]; rfl
  have e6:cut (w++rest ws) 0 (w.length:Int)=some w:=by rw [cut,if_pos (by rw [List.length_append]; omega)]; simp
  have hk:kindOf w=if isLet c=true then 1 else if isDig c=true then 2 else 3:=by rw [hcu]; rfl
  rw [lex_tokens_l1,if_pos (by omega),cut_drop (by omega),bS,e0,e5,bS,letter_e,bS]
  rcases hW with ⟨c',u',hcu',hc,hu⟩ | ⟨hne,hdg,h15,v,hv⟩ | hS
  ·rw [hcu] at hcu'
   obtain ⟨rfl,rfl⟩:=List.cons.inj hcu'
   rw [if_pos hc] at hk
   rw [if_pos hc,while_e (u:=w) (fun x hx=>by
    rw [t1_e]
    rw [hcu] at hx
    rcases List.mem_cons.1 hx with rfl | hx
    ·rw [hc]; rfl
    ·rcases hu x hx with h | h <;> rw [h] <;> simp) hT (by decide) (by omega) fu (by omega),bS,e6,bS]
   exact J 1 0 fun t ht=>⟨by rw [ht],by rw [ht,hk],fun h=>by rw [hk] at h; cases h⟩
  ·have hc:isDig c=true:=hdg c (by rw [hcu]; exact List.mem_cons_self ..)
   have hnl:¬ isLet c=true:=fun h=>by have:=of_decide_eq_true h; have:=of_decide_eq_true hc; omega
   rw [if_neg hnl,if_pos hc] at hk
   rw [if_neg hnl,digit_e,bS,if_pos hc,while_e (u:=w) (fun x hx=>by rw [digit_e,hdg x hx]) hT (by decide) (by omega) fu (by omega),bS,e6,bS,if_neg (by omega),hv,bS]
   exact J 2 v fun t ht=>⟨by rw [ht],by rw [ht,hk],fun _=>by rw [ht]; exact hv⟩
  ·have H:∀ w ∈ SG,(match w with | []=>false | c::_=>!isLet c && !isDig c)=true:=by decide
   have H':=H w hS
   rw [hcu] at H'
   have H'':(!isLet c && !isDig c)=true:=H'
   have h1:isLet c=false:=by cases h:isLet c with | false=>rfl | true=>rw [h] at H''; cases H''
   have h2:isDig c=false:=by cases h:isDig c with | false=>rfl | true=>rw [h,h1] at H''; cases H''
   rw [h1,h2] at hk
   rw [h1,if_neg (by decide),digit_e,bS,h2,if_neg (by decide),sign_e hS hT,bS,if_neg (by rw [hcu]; simp)]
   exact J 3 0 fun t ht=>⟨by rw [ht],by rw [ht,hk]; rfl,fun h=>by rw [hk] at h; cases h⟩
theorem lex_t {fu:Nat} (hf:7000≤fu) (ws:List Wd) (hw:∀ w ∈ ws,LexW w) (hl:(jn ws).length≤6000):∃ ts,lex_tokens fu (jn ws)=some (ts,⟨0,0⟩)∧Tks ts ws:=by
 have hs:lx_space fu (jn ws)=some 0:=by
  cases ws with
  | nil=>exact space_nil (by omega)
  | cons w ws =>
   obtain ⟨c,u,rfl,hc⟩:=(hw w (List.mem_cons_self ..)).head
   rw [jn_cons,List.cons_append]
   exact space_0 (by omega) hc
 have hn:∀ ws:List Wd,(∀ w ∈ ws,LexW w)→ws.length≤(jn ws).length:=by
  intro ws
  induction ws with
  | nil=>intro _; simp
  | cons w ws ih =>
   intro h
   obtain ⟨c,u,rfl,-⟩:=(h w (List.mem_cons_self ..)).head
   have:=ih fun y hy=>h y (List.mem_cons_of_mem _ hy)
   rw [jn_cons]
   cases ws with
   | nil=>simp [rest]
   | cons w' ws=>simp [rest] at this ⊢; omega
 have h1:=hn ws hw
 rw [lex_tokens,if_neg (by omega),hs,bS]
 obtain ⟨ts,e1,e2⟩:=lex_l1_t hf ws [] [] fu hw (by omega) (by simpa using hl) (by simpa using hl)
 exact ⟨ts,by simpa using e1,e2⟩
end Go.Y
namespace Go.Y
open Go.Wk Go.Xt
theorem digit_u {n:Nat} (h:n<10):(UInt8.ofNat (48+n)).toNat=48+n:=by
 rw [UInt8.toNat_ofNat']
 omega
theorem dec_digits:∀ (u:Nat),∀ c ∈ Lib.decDigits u,isDig c=true:=by
 intro u
 induction u using Nat.strongRecOn with
 | ind u ih =>
  intro c hc
  rw [Lib.decDigits] at hc
  by_cases h:u<10
  ·rw [dif_pos h] at hc
   rw [List.mem_singleton.1 hc,isDig,digit_u h]
   simp; omega
  ·rw [dif_neg h] at hc
   rcases List.mem_append.1 hc with hc | hc
   ·exact ih (u / 10) (by omega) c hc
   ·rw [List.mem_singleton.1 hc,isDig,digit_u (Nat.mod_lt _ (by decide))]
    have:=Nat.mod_lt u (show 10 > 0 by decide)
    simp; omega
theorem parse_dec (M:Nat):∀ (u:Nat) (r:Wd),u≤M→u≤999999999999999→Lib.parseUintM M 0 (Lib.decDigits u++r)=Lib.parseUintM M u r:=by
 intro u
 induction u using Nat.strongRecOn with
 | ind u ih =>
  intro r hM h15
  rw [Lib.decDigits]
  by_cases h:u<10
  ·rw [dif_pos h,List.singleton_append,Lib.parseUintM,digit_u h,if_pos (by omega),if_neg (by omega),if_neg (by omega)]
   congr 1
   omega
  ·have hm:=Nat.mod_lt u (show 10 > 0 by decide)
   rw [dif_neg h,List.append_assoc,ih (u / 10) (by omega) _ (by omega) (by omega),List.singleton_append,Lib.parseUintM,digit_u hm,if_pos (by omega),if_neg (by omega),if_neg (by omega)]
   congr 1
   omega
theorem dec_ne (u:Nat):Lib.decDigits u≠[]:=by
 have h1:=Lib.decDigits_length u
 have h2:=Lib.nDigits_pos u
 intro h
 rw [h,List.length_nil] at h1
 omega
theorem dec_len:∀ (k u:Nat),u<10 ^ (k+1)→(Lib.decDigits u).length≤k+1:=by
 intro k
 induction k with
 | zero=>intro u h; rw [Lib.decDigits,dif_pos (by omega)]; simp
 | succ k ih =>
  intro u h
  rw [Lib.decDigits]
  by_cases c:u<10
  ·rw [dif_pos c]; simp
  ·rw [dif_neg c,List.length_append,List.length_singleton]
   have:=ih (u / 10) (by rw [Nat.pow_succ] at h; omega)
   omega
theorem itoa_nat {N:Int} (h:0≤N):Lib.itoa N=Lib.decDigits N.toNat:=by rw [Lib.itoa,if_neg (by omega)]
theorem pint_dec {u:Nat} (h:u≤999999999999999):pint (Lib.decDigits u)=some (u:Int):=by
 have hl:=dec_len 14 u (by omega)
 rw [pint,if_pos (by omega)]
 have hd:=dec_digits u
 have hp:=parse_dec (2 ^ 64 - 1) u [] (by omega) h
 rw [List.append_nil] at hp
 cases e:Lib.decDigits u with
 | nil=>exact absurd e (dec_ne u)
 | cons c r =>
  have hc:=of_decide_eq_true (hd c (by rw [e]; exact List.mem_cons_self ..))
  rw [Lib.parseIntB_plain 64 c r (by omega) (by omega),← e,Lib.parseUintB,if_neg (dec_ne u),hp,Lib.parseUintM,Lib.signlessC,if_neg (by omega)]
theorem numOk:NumOk:=by
 intro N h0 h1
 rw [itoa_nat h0]
 have hd:=dec_digits N.toNat
 constructor
 ·cases e:Lib.decDigits N.toNat with
  | nil=>exact absurd e (dec_ne _)
  | cons c r =>
   have hc:=hd c (by rw [e]; exact List.mem_cons_self ..)
   have hc':=of_decide_eq_true hc
   rw [kindOf,if_neg (fun h=>by have:=of_decide_eq_true h; omega),if_pos hc]
 ·rw [pint_dec (by omega)]
  congr 1
  omega
theorem itoa_lex {N:Int} (h0:0≤N) (h1:N≤999999999999999):LexW (Lib.itoa N):=by
 rw [itoa_nat h0]
 exact .inr (.inl ⟨dec_ne _,dec_digits _,dec_len 14 _ (by omega),_,pint_dec (by omega)⟩)
theorem Nmd.lex {w:Wd} (h:Nmd w):LexW w:=by
 have h1:=h.let1
 have h:=h 7000 (by omega)
 cases w with
 | nil=>cases h1
 | cons c u =>
  have hc:isLet c=true:=by
   rw [kindOf] at h1
   by_cases q:isLet c=true
   ·exact q
   ·rw [if_neg q] at h1; split at h1 <;> cases h1
  refine .inl ⟨c,u,rfl,hc,fun x hx=>?_⟩
  have J:∀ b,lex_named_j1 7000 (c::u) b=some true→b=false∧lx_while 7000 (c::u) lx_n1=some ((c::u).length:Int):=by
   intro b hb
   rw [lex_named_j1] at hb
   by_cases q:b=true
   ·rw [if_pos q] at hb; cases hb
   ·rw [if_neg q] at hb
    cases e:lx_while 7000 (c::u) lx_n1 with
    | none=>rw [e,bN] at hb; cases hb
    | some r =>
     rw [e,bS] at hb
     have:=of_decide_eq_true (Option.some.inj hb)
     rw [this]
     exact ⟨by simpa using q,rfl⟩
  have hw:lx_while 7000 (c::u) lx_n1=some ((c::u).length:Int):=by
   rw [lex_named] at h
   split at h
   ·exact (J _ h).2
   ·split at h
    ·exact (J _ h).2
    ·rw [at_0 (by simp),bS] at h
     change Option.bind (lx_letter c) _=_ at h
     rw [letter_e,bS,if_pos hc] at h
     cases e1:cat [32] (c::u) with
     | none=>rw [e1,bN] at h; cases h
     | some s1 =>
      rw [e1,bS] at h
      cases e2:cat s1 [32] with
      | none=>rw [e2,bN] at h; cases h
      | some s2 =>
       rw [e2,bS] at h
       cases e3:scont tx_0 s2 with
       | none=>rw [e3,bN] at h; cases h
       | some b=>rw [e3,bS] at h; exact (J _ h).2
  have n1:∀ c,lx_n1 c=some (isLet c || isDig c):=fun c=>by
   rw [lx_n1,letter_e,bS]
   cases h:isLet c with
   | true=>rfl
   | false=>rw [if_neg (by decide),digit_e,bS,Bool.false_or]
  have L:∀ (m i:Nat),i≤(c::u).length→lx_while_l1 (c::u) lx_n1 m (i:Int)=some ((c::u).length:Int)→∀ x ∈ (c::u).drop i,isLet x=true∨isDig x=true:=by
   intro m
   induction m with
   | zero=>intro i hi h; cases h
   | succ m ih =>
    intro i hi h x hx
    rw [lx_while_l1] at h
    by_cases q:i<(c::u).length
    ·rw [if_pos (by omega),at_nat,List.getElem?_eq_getElem q,bS,n1,bS,lx_while_j1] at h
     rw [List.drop_eq_getElem_cons q] at hx
     by_cases z:(isLet (c::u)[i] || isDig (c::u)[i])=true
     ·rw [if_pos z] at h
      cases e:i64 ((i:Int)+1) with
      | none=>rw [e,bN] at h; cases h
      | some j =>
       rw [e,bS] at h
       have hj:j=((i+1:Nat):Int):=by
        rw [i64] at e
        split at e
        ·exact (Option.some.inj e).symm
        ·cases e
       rw [hj] at h
       rcases List.mem_cons.1 hx with rfl | hx
       ·simpa using z
       ·exact ih (i+1) q h x hx
     ·rw [if_neg z] at h
      have:=Option.some.inj h
      omega
    ·rw [List.drop_eq_nil_of_le (by omega)] at hx
     cases hx
  have:=L 7000 0 (by simp) hw
  rw [List.drop_zero] at this
  exact this x (List.mem_cons_of_mem _ hx)
theorem lex_kw {w:Wd} (h:(match w with | []=>false | c::u=>isLet c && u.all fun x=>isLet x || isDig x)=true):LexW w:=by
 cases w with
 | nil=>cases h
 | cons c u =>
  have h:(isLet c && u.all fun x=>isLet x || isDig x)=true:=h
  rw [Bool.and_eq_true,List.all_eq_true] at h
  exact .inl ⟨c,u,rfl,h.1,fun x hx=>by simpa using h.2 x hx⟩
theorem lex_sg {w:Wd} (h:w ∈ SG):LexW w:=.inr (.inr h)
def AllL (ws:List Wd):Prop:=∀ w ∈ ws,LexW w
theorem AllL.nil:AllL []:=fun _ h=>by cases h
theorem AllL.cons {w:Wd} {ws:List Wd} (h:LexW w) (g:AllL ws):AllL (w::ws):=fun x hx=>by
 rcases List.mem_cons.1 hx with rfl | hx
 ·exact h
 ·exact g x hx
theorem AllL.app {u v:List Wd} (h:AllL u) (g:AllL v):AllL (u++v):=fun x hx=>(List.mem_append.1 hx).elim (h x) (g x)
theorem AllL.flat {α:Type} {f:α→List Wd} {l:List α} (h:∀ y ∈ l,AllL (f y)):AllL (l.map f).flatten:=fun w hw=>by
 obtain ⟨a,ha,hb⟩:=mem_flat hw
 exact h a ha w hb
theorem sgn_lex {k:Int} (h:4≤k∧k≤18):LexW (sgn k):=by
 have:k=4∨k=5∨k=6∨k=7∨k=8∨k=9∨k=10∨k=11∨k=12∨k=13∨k=14∨k=15∨k=16∨k=17∨k=18:=by omega
 rcases this with rfl | rfl | rfl | rfl | rfl | rfl | rfl | rfl | rfl | rfl | rfl | rfl | rfl | rfl | rfl <;> first | exact lex_sg (by decide) | exact lex_kw (by decide)
theorem wA_lex {f:TExpr→List Wd} {l:List TExpr} (h:∀ y ∈ l,AllL (f y)):AllL (wA f l):=by
 cases l with
 | nil=>exact .cons (lex_sg (by decide)) (.cons (lex_sg (by decide)) .nil)
 | cons x l =>
  refine .cons (lex_sg (by decide)) (.app (h x (List.mem_cons_self ..)) (.app (.flat fun y hy=>.cons (lex_sg (by decide)) (h y (List.mem_cons_of_mem _ hy))) (.cons (lex_sg (by decide)) .nil)))
theorem wE_lex:∀ (k need:Nat) (x:TExpr),FmE k x→AllL (wE k need x)
 | 0,need,x,h=>by cases h
 | k+1,need,x,h=>by
  obtain ⟨k1,k24,hk,hN,hB,hNm,hks⟩:=h
  have ih:=fun n y hy=>wE_lex k n y (hks y hy)
  have core:AllL (wC (wE k) x):=by
   rw [wC]
   split
   ·rename_i c
    obtain ⟨a,b⟩:=hN c
    exact .cons (itoa_lex a b) .nil
   ·split
    ·refine .cons ?_ .nil
     split <;> exact lex_kw (by decide)
    ·split
     ·rename_i c
      exact .cons (hNm (.inl c)).lex .nil
     ·split
      ·rename_i c
       refine .cons (sgn_lex (by omega)) ?_
       split
       ·rename_i a _ e
        exact ih 6 a (by rw [e]; exact List.mem_cons_self ..)
       ·exact .nil
      ·split
       ·split
        ·rename_i a b _ e
         exact .app (ih _ a (by rw [e]; exact List.mem_cons_self ..)) (.cons (sgn_lex (by omega)) (ih _ b (by rw [e]; exact List.mem_cons_of_mem _ (List.mem_cons_self ..))))
        ·exact .nil
       ·have wa:=wA_lex (f:=wE k 1) (l:=x.Kids) fun y hy=>ih 1 y hy
        split
        ·rename_i c
         exact .cons (hNm (by simp [c])).lex wa
        ·split
         ·rename_i c
          exact .cons (lex_kw (by decide)) (.cons (lex_sg (by decide)) (.cons (hNm (by simp [c])).lex (.cons (lex_sg (by decide)) .nil)))
         ·split
          ·exact .cons (lex_kw (by decide)) wa
          ·split
           ·rename_i c
            exact .cons (lex_kw (by decide)) (.cons (hNm (by simp [c])).lex wa)
           ·split
            ·exact .cons (lex_kw (by decide)) wa
            ·exact .cons (lex_kw (by decide)) wa
  rw [wE]
  split
  ·exact .cons (lex_sg (by decide)) (.app core (.cons (lex_sg (by decide)) .nil))
  ·exact core
theorem wBody_lex {f:TStat→List Wd} {l:List TStat} (h:∀ y ∈ l,AllL (f y)):AllL (wBody f l):=.cons (lex_sg (by decide)) (.app (.flat h) (.cons (lex_sg (by decide)) .nil))
theorem wS_lex:∀ (k:Nat) (s:TStat),FmS k s→AllL (wS k s)
 | 0,s,h=>by cases h
 | k+1,s,h=>by
  obtain ⟨k1,k9,hX,hN,hB,hE⟩:=h
  have X:s.Kind≠6→AllL (wE k 1 s.X):=fun h=>wE_lex k 1 s.X (hX h)
  have sc:AllL [[59]]:=.cons (lex_sg (by decide)) .nil
  rw [wS]
  split
  ·rename_i c
   refine .cons (lex_kw (by decide)) (.app (X (by omega)) (.app (wBody_lex fun y hy=>wS_lex k y ((hB (.inl c)).2 y hy)) ?_))
   split
   ·exact .nil
   ·exact .cons (lex_kw (by decide)) (wBody_lex fun y hy=>wS_lex k y ((hE c).2 y hy))
  ·split
   ·rename_i c
    exact .cons (lex_kw (by decide)) (.app (X (by omega)) (wBody_lex fun y hy=>wS_lex k y ((hB (.inr c)).2 y hy)))
   ·split
    ·rename_i c
     exact .cons (lex_kw (by decide)) (.cons (hN (by omega)).lex (.cons (lex_sg (by decide)) (.app (X (by omega)) sc)))
    ·split
     ·rename_i c
      exact .cons (hN (by omega)).lex (.cons (lex_sg (by decide)) (.app (X (by omega)) sc))
     ·split
      ·rename_i c
       exact .cons (lex_kw (by decide)) (.cons (hN (by omega)).lex (.app (X (by omega)) sc))
      ·split
       ·exact .cons (lex_kw (by decide)) sc
       ·rename_i c6
        refine .cons ?_ (.app (X c6) sc)
        split
        ·exact lex_kw (by decide)
        ·split <;> exact lex_kw (by decide)
theorem wTy_lex {t:TType} (h:TyF t):LexW (wTy t):=by
 obtain ⟨⟨h1,h2⟩,h3⟩:=h
 rw [wTy]
 split
 ·exact lex_kw (by decide)
 ·split
  ·exact lex_kw (by decide)
  ·exact (h3 (by omega)).lex
theorem wPs_lex {l:List TParam} (h:∀ q ∈ l,Nmd q.Name∧TyF q.Typ):AllL (wPs l):=by
 cases l with
 | nil=>exact .cons (lex_sg (by decide)) (.cons (lex_sg (by decide)) .nil)
 | cons q l =>
  obtain ⟨a,b⟩:=h q (List.mem_cons_self ..)
  refine .cons (lex_sg (by decide)) (.cons a.lex (.cons (wTy_lex b) (.app (.flat fun y hy=>?_) (.cons (lex_sg (by decide)) .nil))))
  obtain ⟨a,b⟩:=h y (List.mem_cons_of_mem _ hy)
  exact .cons (lex_sg (by decide)) (.cons a.lex (.cons (wTy_lex b) .nil))
theorem wD_lex {x:TDef} (h:FmD x):AllL (wD x):=by
 have bo:x.Kind≠1→AllL (wBody (wS 39) x.Body):=fun k=>wBody_lex fun y hy=>wS_lex 39 y ((h.bo k).2 y hy)
 have k1:=h.k1
 have k4:=h.k4
 rw [wD]
 split
 ·rename_i c
  obtain ⟨a,b⟩:=h.cp c
  exact .cons (lex_kw (by decide)) (.cons h.nm.lex (.cons (wTy_lex (h.ty (by omega))) (.cons (itoa_lex (by omega) (by omega)) (.cons (lex_sg (by decide)) .nil))))
 ·split
  ·exact .cons (lex_kw (by decide)) (.cons h.nm.lex (bo (by omega)))
  ·split
   ·rename_i c
    exact .cons (lex_kw (by decide)) (.cons h.nm.lex (.app (wPs_lex (h.ps (.inl c)).2) (.cons (wTy_lex (h.ty (by omega))) (bo (by omega)))))
   ·have c3:x.Kind=3:=by omega
    exact .cons (lex_kw (by decide)) (.cons h.nm.lex (.app (wPs_lex (h.ps (.inr c3)).2) (.cons (lex_kw (by decide)) (.cons (wTy_lex (h.tk c3)) (.cons (lex_kw (by decide)) (.cons (wTy_lex (h.ty (by omega))) (bo (by omega))))))))
theorem read_t {fu:Nat} (hf:8000≤fu) {l:List TDef} (hl:l.length≤30) (hF:∀ x ∈ l,FmD x) (h6:(jn (wP l)).length≤6000) {W:TFault} (hW:syn_wrong fu (l.map (bareD 39))=some W) (hW0:W.Err=0):syn_read fu (jn (wP l))=some (l.map (bareD 39),⟨0,0⟩):=by
 obtain ⟨ts,e1,e2⟩:=lex_t (fu:=fu) (by omega) (wP l) (AllL.flat fun x hx=>wD_lex (hF x hx)) h6
 rw [syn_read,e1,bS,if_neg (by simp)]
 have:=read_l1_t numOk hf (ts,⟨0,0⟩) (e:=((jn (wP l)).length:Int)) W hW0 l [] fu ts hF (by omega) (by simpa using hl) e2 (by simpa using hW)
 rw [this]
 simp
end Go.Y
namespace Go.Y
open Go.Wk Go.Xt
theorem bI2 {α β:Type} {o:Option α} {f:α→Option β} {r:β} (h:Option.bind o f=some r):∃ x,o=some x∧f x=some r:=bI h
theorem while_more {w:Wd} {p:UInt8→Option Bool}:∀ (m m':Nat) (i r:Int),m≤m'→lx_while_l1 w p m i=some r→lx_while_l1 w p m' i=some r:=by
 intro m
 induction m with
 | zero=>intro m' i r h g; cases g
 | succ m ih =>
  intro m' i r h g
  obtain ⟨m',rfl⟩:∃ q,m'=q+1:=⟨m' - 1,by omega⟩
  rw [lx_while_l1] at g ⊢
  have J:∀ b,lx_while_j1 i (lx_while_l1 w p m) b=some r→lx_while_j1 i (lx_while_l1 w p m') b=some r:=by
   intro b g
   rw [lx_while_j1] at g ⊢
   split
   ·rename_i c
    rw [if_pos c] at g
    obtain ⟨x,e,g⟩:=bI2 g
    rw [e,bS]
    exact ih m' x r (by omega) g
   ·rename_i c
    rw [if_neg c] at g
    exact g
  split
  ·rename_i c
   rw [if_pos c] at g
   obtain ⟨x,e,g⟩:=bI2 g
   obtain ⟨y,e',g⟩:=bI2 g
   rw [e,bS,e',bS]
   exact J y g
  ·rename_i c
   rw [if_neg c] at g
   exact J _ g
theorem named_more {fu fu':Nat} (h:fu≤fu') {w:Wd} {b:Bool} (g:lex_named fu w=some b):lex_named fu' w=some b:=by
 have J:∀ c,lex_named_j1 fu w c=some b→lex_named_j1 fu' w c=some b:=by
  intro c g
  rw [lex_named_j1] at g ⊢
  split
  ·rename_i q; rw [if_pos q] at g; exact g
  ·rename_i q
   rw [if_neg q] at g
   obtain ⟨x,e,g⟩:=bI2 g
   have:lx_while fu' w lx_n1=some x:=while_more fu fu' 0 x h e
   rw [this,bS]
   exact g
 rw [lex_named] at g ⊢
 split
 ·rename_i q; rw [if_pos q] at g; exact J _ g
 ·rename_i q
  rw [if_neg q] at g
  split
  ·rename_i q; rw [if_pos q] at g; exact J _ g
  ·rename_i q
   rw [if_neg q] at g
   obtain ⟨x,e,g⟩:=bI2 g
   obtain ⟨y,e',g⟩:=bI2 g
   rw [e,bS,e',bS]
   split
   ·rename_i q
    rw [if_pos q] at g
    obtain ⟨s1,e1,g⟩:=bI2 g
    obtain ⟨s2,e2,g⟩:=bI2 g
    obtain ⟨b3,e3,g⟩:=bI2 g
    rw [e1,bS,e2,bS,e3,bS]
    exact J _ g
   ·rename_i q
    rw [if_neg q] at g
    exact J _ g
theorem nmd_of {fu:Nat} (hf:20≤fu) {w:Wd} (h:lex_named fu w=some true):Nmd w:=by
 intro fu' hf'
 obtain ⟨b,hb⟩:=lex_named_t 20 (Nat.le_refl _) w
 have h1:=named_more hf hb
 rw [h] at h1
 obtain rfl:=Option.some.inj h1
 exact named_more hf' hb
section
variable {fu:Nat} {self:SynExpr} {x:TExpr} {d node k:Int}
theorem expr_l1_inv:∀ (m i:Nat) (c:Int),x.Kids.length≤6→syn_expr_l1 self x d m i c=some (0,k)→∀ j (hj:j<x.Kids.length),i≤j→∃ c' d' k',self.syn_expr c' x.Kids[j] d'=some (0,k'):=by
 intro m
 induction m with
 | zero=>intro i c _ h; cases h
 | succ m ih =>
  intro i c hl h j hj hij
  rw [syn_expr_l1,if_pos (by omega),at_nat,List.getElem?_eq_getElem (show i<x.Kids.length by omega),bS] at h
  obtain ⟨d',e1,h⟩:=bI2 h
  obtain ⟨r,e2,h⟩:=bI2 h
  by_cases z:r.1≠0
  ·rw [if_pos z] at h
   exact absurd (congrArg (fun o:Option (Int×Int)=>o.map (·.1)) h) (by simpa using z)
  ·rw [if_neg z,i64_ok (by omega),bS] at h
   by_cases q:j=i
   ·subst q
    obtain ⟨r1,r2⟩:=r
    obtain rfl:r1=0:=Decidable.not_not.1 z
    exact ⟨c,d',r2,e2⟩
   ·exact ih (i+1) r.2 hl h j hj (by omega)
theorem expr_j6_inv {r9:Int×Int} {b:Bool} (h:syn_expr_j6 self x d r9 b=some (0,k)):∃ m c,syn_expr_l1 self x d m (0:Nat) c=some (0,k):=by
 rw [syn_expr_j6] at h
 split at h
 ·cases h
 ·exact ⟨_,_,h⟩
theorem expr_j5_inv {r9:Int×Int} {r:Int} {b:Bool} (h:syn_expr_j5 self x d r9 r b=some (0,k)):∃ m c,syn_expr_l1 self x d m (0:Nat) c=some (0,k):=by
 rw [syn_expr_j5] at h
 split at h
 ·exact expr_j6_inv h
 ·split at h <;> exact expr_j6_inv h
theorem expr_j4_inv {r9:Int×Int} {r:Int} {b:Bool} (h:syn_expr_j4 self x d r9 r b=some (0,k)):b=false∧∃ m c,syn_expr_l1 self x d m (0:Nat) c=some (0,k):=by
 rw [syn_expr_j4] at h
 split at h
 ·cases h
 ·rename_i q
  refine ⟨by simpa using q,?_⟩
  split at h <;> exact expr_j5_inv h
theorem expr_j3_inv {r9:Int×Int} {r:Int} {b:Bool} (h:syn_expr_j3 fu self x d r9 r b=some (0,k)):b=false∧(x.Kind=3∨x.Kind=20∨r<0→lex_named fu x.Name=some true)∧∃ m c,syn_expr_l1 self x d m (0:Nat) c=some (0,k):=by
 rw [syn_expr_j3] at h
 split at h
 ·cases h
 ·rename_i q
  refine ⟨by simpa using q,?_⟩
  have J:(Option.bind (lex_named fu x.Name) fun r32=>syn_expr_j4 self x d r9 r (!r32))=some (0,k)→(x.Kind=3∨x.Kind=20∨r<0→lex_named fu x.Name=some true)∧∃ m c,syn_expr_l1 self x d m (0:Nat) c=some (0,k):=by
   intro h
   obtain ⟨b',e,h⟩:=bI2 h
   obtain ⟨h1,h2⟩:=expr_j4_inv h
   cases b' with
   | true=>exact ⟨fun _=>e,h2⟩
   | false=>cases h1
  split at h
  ·exact J h
  ·split at h
   ·exact J h
   ·split at h
    ·exact J h
    ·obtain ⟨-,h2⟩:=expr_j4_inv h
     exact ⟨fun g=>by omega,h2⟩
theorem expr_inv (h:syn_expr fu self node x d=some (0,k)):(x.Kind=1→0≤x.N∧x.N≤999999999999999)∧(x.Kind=2→x.N=0∨x.N=1)∧(x.Kind=3∨x.Kind=20∨kidN x.Kind<0→lex_named fu x.Name=some true)∧∃ m c,syn_expr_l1 self x d m (0:Nat) c=some (0,k):=by
 rw [syn_expr] at h
 obtain ⟨r9,-,h⟩:=bI2 h
 split at h
 ·rename_i z
  exact absurd (congrArg (fun o:Option (Int×Int)=>o.map (·.1)) h) (by simpa using z)
 ·have J2:∀ b,syn_expr_j2 fu self x d r9 (kidN x.Kind) b=some (0,k)→b=false∧(x.Kind=2→x.N=0∨x.N=1)∧(x.Kind=3∨x.Kind=20∨kidN x.Kind<0→lex_named fu x.Name=some true)∧∃ m c,syn_expr_l1 self x d m (0:Nat) c=some (0,k):=by
   intro b h
   rw [syn_expr_j2] at h
   split at h
   ·rename_i q
    obtain ⟨h1,-⟩:=expr_j3_inv h
    rw [q] at h1; cases h1
   ·rename_i q
    refine ⟨by simpa using q,?_⟩
    split at h
    ·split at h
     ·obtain ⟨h1,h2⟩:=expr_j3_inv h
      exact ⟨fun _=>.inr (by simpa using h1),h2⟩
     ·rename_i z
      obtain ⟨h1,h2⟩:=expr_j3_inv h
      exact ⟨fun _=>.inl (Decidable.not_not.1 z),h2⟩
    ·rename_i z
     obtain ⟨h1,h2⟩:=expr_j3_inv h
     exact ⟨fun g=>absurd g z,h2⟩
  have J1:∀ b,syn_expr_j1 fu self x d r9 b=some (0,k)→(x.Kind=1→0≤x.N∧x.N≤999999999999999)∧(x.Kind=2→x.N=0∨x.N=1)∧(x.Kind=3∨x.Kind=20∨kidN x.Kind<0→lex_named fu x.Name=some true)∧∃ m c,syn_expr_l1 self x d m (0:Nat) c=some (0,k):=by
   intro b h
   rw [syn_expr_j1] at h
   split at h
   ·cases h
   ·rw [syn_kids_t,bS] at h
    split at h
    ·split at h
     ·obtain ⟨h1,-⟩:=J2 _ h; cases h1
     ·rename_i z
      obtain ⟨h1,h2⟩:=J2 _ h
      have:=of_decide_eq_false h1
      exact ⟨fun _=>⟨by omega,by omega⟩,h2⟩
    ·rename_i z
     obtain ⟨-,h2⟩:=J2 _ h
     exact ⟨fun g=>absurd g z,h2⟩
  split at h <;> exact J1 _ h
end
theorem fm_expr:∀ (j n:Nat) (x:TExpr) (node d k:Int),30+j≤n→OkE j x→(SynExpr_run n).syn_expr node x d=some (0,k)→FmE j x
 | 0,n,x,node,d,k,hn,h,g=>h.elim
 | j+1,n,x,node,d,k,hn,h,g=>by
  obtain ⟨k1,k24,hk,hks⟩:=h
  obtain ⟨n,rfl⟩:∃ q,n=q+1:=⟨n - 1,by omega⟩
  obtain ⟨h1,h2,h3,m,c,h4⟩:=expr_inv (show syn_expr n (SynExpr_run n) node x d=some (0,k) from g)
  refine ⟨k1,k24,hk,h1,h2,fun q=>nmd_of (by omega) (h3 ?_),fun y hy=>?_⟩
  ·rcases q with q | q | q | q
   ·exact .inl q
   ·exact .inr (.inl q)
   ·rw [q]; exact .inr (.inr (by decide))
   ·rw [q]; exact .inr (.inr (by decide))
  ·obtain ⟨i,hi,rfl⟩:=List.getElem_of_mem hy
   obtain ⟨c',d',k',e⟩:=expr_l1_inv m 0 c hk.le h4 i hi (Nat.zero_le _)
   exact fm_expr j n _ c' d' k' (by omega) (hks _ hy) e
section
variable {fu:Nat} {self:SynStat} {x:TStat} {d node k:Int}
theorem stats_l1_inv {l:List TStat}:∀ (m i:Nat) (c:Int),l.length≤50→syn_stats_l1 self l d m i c=some (0,k)→∀ j (hj:j<l.length),i≤j→∃ c' k',self.syn_stat c' l[j] d=some (0,k'):=by
 intro m
 induction m with
 | zero=>intro i c _ h; cases h
 | succ m ih =>
  intro i c hl h j hj hij
  rw [syn_stats_l1,if_pos (by omega),at_nat,List.getElem?_eq_getElem (show i<l.length by omega),bS] at h
  obtain ⟨r,e2,h⟩:=bI2 h
  by_cases z:r.1≠0
  ·rw [if_pos z] at h
   exact absurd (congrArg (fun o:Option (Int×Int)=>o.map (·.1)) h) (by simpa using z)
  ·rw [if_neg z,i64_ok (by omega),bS] at h
   by_cases q:j=i
   ·subst q
    obtain ⟨r1,r2⟩:=r
    obtain rfl:r1=0:=Decidable.not_not.1 z
    exact ⟨c,r2,e2⟩
   ·exact ih (i+1) r.2 hl h j hj (by omega)
theorem stats_inv {l:List TStat} (hl:l.length≤50) (h:syn_stats self node l d=some (0,k)):∀ y ∈ l,∃ c' k',self.syn_stat c' y d=some (0,k'):=by
 intro y hy
 obtain ⟨j,hj,rfl⟩:=List.getElem_of_mem hy
 rw [syn_stats] at h
 split at h
 ·cases h
 ·exact stats_l1_inv _ 0 _ hl h j hj (Nat.zero_le _)
theorem stat_j4_inv {c:Int} (h:syn_stat_j4 self x d c=some (0,k)):x.Kind=3→∃ c' d' k',self.syn_stats c' x.Else d'=some (0,k'):=by
 intro k3
 rw [syn_stat_j4,if_pos k3] at h
 obtain ⟨d',-,h⟩:=bI2 h
 obtain ⟨r,e,h⟩:=bI2 h
 obtain ⟨r1,r2⟩:=r
 obtain ⟨h1,-⟩:=Prod.mk.inj (Option.some.inj h)
 have h1:r1=0:=h1
 subst h1
 exact ⟨_,_,_,e⟩
theorem stat_j3_inv {r41:Int×Int} {b:Bool} (h:syn_stat_j3 self x d r41 b=some (0,k)):(b=true→∃ c' d' k',self.syn_stats c' x.Body d'=some (0,k'))∧(x.Kind=3→∃ c' d' k',self.syn_stats c' x.Else d'=some (0,k')):=by
 rw [syn_stat_j3] at h
 split at h
 ·obtain ⟨d',-,h⟩:=bI2 h
  obtain ⟨r,e,h⟩:=bI2 h
  split at h
  ·rename_i z
   exact absurd (congrArg (fun o:Option (Int×Int)=>o.map (·.1)) h) (by simpa using z)
  ·rename_i z
   obtain ⟨r1,r2⟩:=r
   obtain rfl:r1=0:=Decidable.not_not.1 z
   exact ⟨fun _=>⟨_,_,_,e⟩,stat_j4_inv h⟩
 ·rename_i q
  exact ⟨fun g=>absurd g q,stat_j4_inv h⟩
theorem stat_inv (h:syn_stat fu self node x d=some (0,k)):(x.Kind=1∨x.Kind=2∨x.Kind=7→lex_named fu x.Name=some true)∧(x.Kind≠6→(∃ c' d' k',(SynExpr_run fu).syn_expr c' x.X d'=some (0,k'))∧(x.Kind=3∨x.Kind=4→∃ c' d' k',self.syn_stats c' x.Body d'=some (0,k'))∧(x.Kind=3→∃ c' d' k',self.syn_stats c' x.Else d'=some (0,k'))):=by
 rw [syn_stat] at h
 obtain ⟨r9,-,h⟩:=bI2 h
 split at h
 ·rename_i z
  exact absurd (congrArg (fun o:Option (Int×Int)=>o.map (·.1)) h) (by simpa using z)
 ·have J2:∀ b,syn_stat_j2 fu self x d r9 b=some (0,k)→b=false∧(x.Kind≠6→(∃ c' d' k',(SynExpr_run fu).syn_expr c' x.X d'=some (0,k'))∧(x.Kind=3∨x.Kind=4→∃ c' d' k',self.syn_stats c' x.Body d'=some (0,k'))∧(x.Kind=3→∃ c' d' k',self.syn_stats c' x.Else d'=some (0,k'))):=by
   intro b h
   rw [syn_stat_j2] at h
   split at h
   ·cases h
   ·rename_i q
    refine ⟨by simpa using q,fun k6=>?_⟩
    rw [if_neg k6] at h
    obtain ⟨d',-,h⟩:=bI2 h
    obtain ⟨r,e,h⟩:=bI2 h
    split at h
    ·rename_i z
     exact absurd (congrArg (fun o:Option (Int×Int)=>o.map (·.1)) h) (by simpa using z)
    ·rename_i z
     obtain ⟨r1,r2⟩:=r
     obtain rfl:r1=0:=Decidable.not_not.1 z
     refine ⟨⟨_,_,_,e⟩,?_⟩
     split at h
     ·rename_i k3
      obtain ⟨h1,h2⟩:=stat_j3_inv h
      exact ⟨fun _=>h1 rfl,h2⟩
     ·rename_i k3
      obtain ⟨h1,h2⟩:=stat_j3_inv h
      exact ⟨fun g=>h1 (decide_eq_true (by omega)),h2⟩
  have J1:∀ b,syn_stat_j1 fu self x d r9 b=some (0,k)→(x.Kind=1∨x.Kind=2∨x.Kind=7→lex_named fu x.Name=some true)∧(x.Kind≠6→(∃ c' d' k',(SynExpr_run fu).syn_expr c' x.X d'=some (0,k'))∧(x.Kind=3∨x.Kind=4→∃ c' d' k',self.syn_stats c' x.Body d'=some (0,k'))∧(x.Kind=3→∃ c' d' k',self.syn_stats c' x.Else d'=some (0,k'))):=by
   intro b h
   rw [syn_stat_j1] at h
   have N:(Option.bind (lex_named fu x.Name) fun r25=>syn_stat_j2 fu self x d r9 (!r25))=some (0,k)→(x.Kind=1∨x.Kind=2∨x.Kind=7→lex_named fu x.Name=some true)∧(x.Kind≠6→(∃ c' d' k',(SynExpr_run fu).syn_expr c' x.X d'=some (0,k'))∧(x.Kind=3∨x.Kind=4→∃ c' d' k',self.syn_stats c' x.Body d'=some (0,k'))∧(x.Kind=3→∃ c' d' k',self.syn_stats c' x.Else d'=some (0,k'))):=by
    intro h
    obtain ⟨b',e,h⟩:=bI2 h
    obtain ⟨h1,h2⟩:=J2 _ h
    cases b' with
    | true=>exact ⟨fun _=>e,h2⟩
    | false=>cases h1
   split at h
   ·cases h
   ·split at h
    ·exact N h
    ·split at h
     ·exact N h
     ·split at h
      ·exact N h
      ·exact ⟨fun g=>by omega,(J2 _ h).2⟩
  split at h <;> exact J1 _ h
end
theorem fm_stat:∀ (j n:Nat) (x:TStat) (node d k:Int),60+3*j≤n→OkS j x→(SynStat_run n).syn_stat node x d=some (0,k)→FmS j x
 | 0,n,x,node,d,k,hn,h,g=>h.elim
 | j+1,n,x,node,d,k,hn,h,g=>by
  obtain ⟨k1,k9,hX,hB,hE⟩:=h
  obtain ⟨n,rfl⟩:∃ q,n=q+2:=⟨n - 2,by omega⟩
  obtain ⟨h1,h2⟩:=stat_inv (show syn_stat (n+1) (SynStat_run (n+1)) node x d=some (0,k) from g)
  have L:∀ (l:List TStat) (c' d' k':Int),l.length≤50→(∀ y ∈ l,OkS j y)→(SynStat_run (n+1)).syn_stats c' l d'=some (0,k')→∀ y ∈ l,FmS j y:=by
   intro l c' d' k' hl ho hs y hy
   obtain ⟨c2,k2,e⟩:=stats_inv hl (show syn_stats (SynStat_run n) c' l d'=some (0,k') from hs) y hy
   exact fm_stat j n y c2 d' k2 (by omega) (ho y hy) e
  refine ⟨k1,k9,fun k6=>?_,fun q=>nmd_of (by omega) (h1 q),fun q=>?_,fun q=>?_⟩
  ·obtain ⟨⟨c',d',k',e⟩,-⟩:=h2 k6
   exact fm_expr j (n+1) x.X c' d' k' (by omega) (hX k6) e
  ·obtain ⟨a,b⟩:=hB q
   obtain ⟨-,hb,-⟩:=h2 (by omega)
   obtain ⟨c',d',k',e⟩:=hb q
   exact ⟨a,L x.Body c' d' k' a b e⟩
  ·obtain ⟨a,b⟩:=hE q
   obtain ⟨-,-,hb⟩:=h2 (by omega)
   obtain ⟨c',d',k',e⟩:=hb q
   exact ⟨a,L x.Else c' d' k' a b e⟩
theorem typ_inv {fu:Nat} (hf:20≤fu) {t:TType} (h:syn_typ fu t=some 0):TyF t:=by
 obtain ⟨e,h1,h2⟩:=syn_typ_t fu hf t
 rw [h] at h1
 obtain rfl:=Option.some.inj h1
 refine ⟨h2 rfl,fun k3=>?_⟩
 rw [syn_typ] at h
 have J:∀ b,syn_typ_j1 fu t b=some 0→Nmd t.Gen:=by
  intro b h
  rw [syn_typ_j1] at h
  split at h
  ·cases h
  ·obtain ⟨b',e,h⟩:=bI2 (by simpa only [if_pos k3] using h)
   cases b' with
   | true=>exact nmd_of hf e
   | false=>cases h
 split at h <;> exact J _ h
section
variable {fu:Nat} {x:TDef} {r12:Int×Int} {k node:Int}
theorem def_j5_inv (h:syn_def_j5 fu x r12=some (0,k)):(x.Kind=1→1≤x.Cap∧x.Cap≤20)∧(x.Kind≠1→∃ c' k',(SynStat_run fu).syn_stats c' x.Body 2=some (0,k')):=by
 rw [syn_def_j5] at h
 split at h
 ·rename_i q
  obtain ⟨r,e,h⟩:=bI2 h
  obtain ⟨r1,r2⟩:=r
  obtain ⟨h1,-⟩:=Prod.mk.inj (Option.some.inj h)
  have h1:r1=0:=h1
  subst h1
  exact ⟨fun g=>absurd g q,fun _=>⟨_,_,e⟩⟩
 ·rename_i q
  have J:∀ b,syn_def_j6 r12 b=some (0,k)→b=false:=by
   intro b h
   cases b with
   | false=>rfl
   | true=>cases h
  split at h
  ·cases J _ h
  ·have:=of_decide_eq_false (J _ h)
   exact ⟨fun _=>⟨by omega,by omega⟩,fun g=>absurd g q⟩
theorem def_j4_inv (hf:20≤fu) (h:syn_def_j4 fu x r12=some (0,k)):(x.Kind≠4→TyF x.Typ)∧(x.Kind=1→1≤x.Cap∧x.Cap≤20)∧(x.Kind≠1→∃ c' k',(SynStat_run fu).syn_stats c' x.Body 2=some (0,k')):=by
 rw [syn_def_j4] at h
 split at h
 ·obtain ⟨r,e,h⟩:=bI2 h
  split at h
  ·rename_i z
   exact absurd (congrArg (fun o:Option (Int×Int)=>o.map (·.1)) h) (by simpa using z)
  ·rename_i z
   obtain rfl:r=0:=Decidable.not_not.1 z
   exact ⟨fun _=>typ_inv hf e,def_j5_inv h⟩
 ·rename_i q
  exact ⟨fun g=>absurd g q,def_j5_inv h⟩
theorem def_j3_inv (hf:20≤fu) (h:syn_def_j3 fu x r12=some (0,k)):(x.Kind=3→TyF x.Takes)∧(x.Kind≠4→TyF x.Typ)∧(x.Kind=1→1≤x.Cap∧x.Cap≤20)∧(x.Kind≠1→∃ c' k',(SynStat_run fu).syn_stats c' x.Body 2=some (0,k')):=by
 rw [syn_def_j3] at h
 split at h
 ·obtain ⟨r,e,h⟩:=bI2 h
  split at h
  ·rename_i z
   exact absurd (congrArg (fun o:Option (Int×Int)=>o.map (·.1)) h) (by simpa using z)
  ·rename_i z
   obtain rfl:r=0:=Decidable.not_not.1 z
   exact ⟨fun _=>typ_inv hf e,def_j4_inv hf h⟩
 ·rename_i q
  exact ⟨fun g=>absurd g q,def_j4_inv hf h⟩
theorem def_l1_inv (hf:20≤fu) (hl:x.Params.length≤6):∀ (m i:Nat),i≤x.Params.length→syn_def_l1 fu x r12 m i=some (0,k)→(∀ j (hj:j<x.Params.length),i≤j→Nmd x.Params[j].Name∧TyF x.Params[j].Typ)∧syn_def_j3 fu x r12=some (0,k):=by
 intro m
 induction m with
 | zero=>intro i _ h; cases h
 | succ m ih =>
  intro i hi h
  rw [syn_def_l1] at h
  by_cases q:i<x.Params.length
  ·rw [if_pos (by omega),at_nat,List.getElem?_eq_getElem q,bS] at h
   obtain ⟨b,e1,h⟩:=bI2 h
   cases b with
   | false=>cases h
   | true =>
    rw [if_pos rfl] at h
    obtain ⟨r,e2,h⟩:=bI2 h
    by_cases z:r≠0
    ·rw [if_pos z] at h
     exact absurd (congrArg (fun o:Option (Int×Int)=>o.map (·.1)) h) (by simpa using z)
    ·rw [if_neg z,i64_ok (by omega),bS] at h
     obtain rfl:r=0:=Decidable.not_not.1 z
     obtain ⟨h1,h2⟩:=ih (i+1) q h
     refine ⟨fun j hj hij=>?_,h2⟩
     by_cases e:j=i
     ·subst e; exact ⟨nmd_of hf e1,typ_inv hf e2⟩
     ·exact h1 j hj (by omega)
  ·rw [if_neg (by omega)] at h
   exact ⟨fun j hj hij=>by omega,h⟩
theorem fm_def (hf:300≤fu) (ok:OkD x) (h:syn_def fu node x=some (0,k)):FmD x:=by
 rw [syn_def] at h
 obtain ⟨r9,-,h⟩:=bI2 h
 split at h
 ·rename_i z
  exact absurd (congrArg (fun o:Option (Int×Int)=>o.map (·.1)) h) (by simpa using z)
 ·have fin:Nmd x.Name→(x.Kind=2∨x.Kind=3→x.Params.length≤6∧∀ q ∈ x.Params,Nmd q.Name∧TyF q.Typ)→syn_def_j3 fu x r9=some (0,k)→FmD x:=by
   intro hn hp h
   obtain ⟨a,b,c,e⟩:=def_j3_inv (by omega) h
   refine ⟨ok.k1,ok.k4,hn,hp,a,b,c,fun k1=>⟨ok.bl k1,fun y hy=>?_⟩⟩
   obtain ⟨c',k',hs⟩:=e k1
   obtain ⟨n,rfl⟩:∃ q,fu=q+1:=⟨fu - 1,by omega⟩
   obtain ⟨c2,k2,e2⟩:=stats_inv (ok.bl k1) (show syn_stats (SynStat_run n) c' x.Body 2=some (0,k') from hs) y hy
   exact fm_stat 39 n y c2 2 k2 (by omega) (ok.bo k1 y hy) e2
  have J2:∀ b,(b=true ↔ x.Kind=2∨x.Kind=3)→Nmd x.Name→syn_def_j2 fu x r9 b=some (0,k)→FmD x:=by
   intro b g hn h
   rw [syn_def_j2] at h
   split at h
   ·rename_i q
    split at h
    ·cases h
    ·rename_i z
     obtain ⟨h1,h2⟩:=def_l1_inv (by omega) (by omega) _ 0 (Nat.zero_le _) h
     exact fin hn (fun _=>⟨by omega,fun q hq=>by
      obtain ⟨j,hj,rfl⟩:=List.getElem_of_mem hq
      exact h1 j hj (Nat.zero_le _)⟩) h2
   ·rename_i q
    exact fin hn (fun z=>absurd (g.2 z) q) h
  have J1:∀ b,syn_def_j1 fu x r9 b=some (0,k)→FmD x:=by
   intro b h
   rw [syn_def_j1] at h
   split at h
   ·cases h
   ·obtain ⟨b',e,h⟩:=bI2 h
    cases b' with
    | false=>cases h
    | true =>
     rw [if_pos rfl] at h
     split at h
     ·rename_i q; exact J2 _ (by simp [q]) (nmd_of (by omega) e) h
     ·rename_i q; exact J2 _ (by simp [q]) (nmd_of (by omega) e) h
  split at h <;> exact J1 _ h
end
theorem form_t {fu:Nat} (hf:300≤fu) {l:List TDef} {f:TFault} (h:syn_wrong fu l=some f) (hz:f.Err=0):l.length≤30∧∀ x ∈ l,FmD x:=by
 obtain ⟨f',h1,h2⟩:=syn_wrong_t fu (by omega) l
 rw [h] at h1
 obtain rfl:=Option.some.inj h1
 obtain ⟨-,ok⟩:=h2 hz
 have hl:=ok.le
 refine ⟨hl,?_⟩
 rw [syn_wrong,if_neg (by omega)] at h
 have L:∀ (m i:Nat) (c:Int),syn_wrong_l1 fu l m i c=some f→∀ j (hj:j<l.length),i≤j→FmD l[j]:=by
  intro m
  induction m with
  | zero=>intro i c h; cases h
  | succ m ih =>
   intro i c h j hj hij
   rw [syn_wrong_l1,if_pos (by omega),at_nat,List.getElem?_eq_getElem (show i<l.length by omega),bS] at h
   obtain ⟨r,e,h⟩:=bI2 h
   by_cases z:r.1≠0
   ·rw [if_pos z] at h
    rw [← Option.some.inj h] at hz
    exact absurd hz z
   ·rw [if_neg z,i64_ok (by omega),bS] at h
    by_cases q:j=i
    ·subst q
     obtain ⟨r1,r2⟩:=r
     obtain rfl:r1=0:=Decidable.not_not.1 z
     exact fm_def hf (ok.ok _ (List.getElem_mem _)) e
    ·exact ih (i+1) r.2 h j hj (by omega)
 intro x hx
 obtain ⟨j,hj,rfl⟩:=List.getElem_of_mem hx
 exact L _ 0 0 h j hj (Nat.zero_le _)
end Go.Y
namespace Go.Y
open Go.Wk Go.Xt
theorem bareE_same:∀ (j k:Nat) (x:TExpr),OkE j x→SzE k x→bareE j x=bareE k x
 | 0,k,x,h,g=>h.elim
 | j+1,0,x,h,g=>by cases g
 | j+1,k+1,x,h,g=>by
  obtain ⟨-,-,-,hk⟩:=h
  have e:x.Kids.map (bareE j)=x.Kids.map (bareE k):=List.map_congr_left fun y hy=>bareE_same j k y (hk y hy) (g.2 y hy)
  rw [bareE,bareE,e]
theorem bareS_same:∀ (j k:Nat) (x:TStat),OkS j x→SzS k x→bareS j x=bareS k x
 | 0,k,x,h,g=>h.elim
 | j+1,0,x,h,g=>by cases g
 | j+1,k+1,x,h,g=>by
  obtain ⟨-,-,hX,hB,hE⟩:=h
  obtain ⟨g1,g2,g3⟩:=g
  have e1:(if x.Kind≠6 then bareE j x.X else TExpr.mk 0 0 [] [])=(if x.Kind≠6 then bareE k x.X else TExpr.mk 0 0 [] []):=by
   by_cases c:x.Kind≠6
   ·rw [if_pos c,if_pos c,bareE_same j k x.X (hX c) g1]
   ·rw [if_neg c,if_neg c]
  have e2:(if x.Kind=3∨x.Kind=4 then x.Body.map (bareS j) else [])=(if x.Kind=3∨x.Kind=4 then x.Body.map (bareS k) else []):=by
   by_cases c:x.Kind=3∨x.Kind=4
   ·rw [if_pos c,if_pos c,List.map_congr_left fun y hy=>bareS_same j k y ((hB c).2 y hy) (g2.2 y hy)]
   ·rw [if_neg c,if_neg c]
  have e3:(if x.Kind=3 then x.Else.map (bareS j) else [])=(if x.Kind=3 then x.Else.map (bareS k) else []):=by
   by_cases c:x.Kind=3
   ·rw [if_pos c,if_pos c,List.map_congr_left fun y hy=>bareS_same j k y ((hE c).2 y hy) (g3.2 y hy)]
   ·rw [if_neg c,if_neg c]
  rw [bareS,bareS,e1,e2,e3]
theorem bareD_same {k:Nat} {x:TDef} (h:OkD x) (g:SzD k x):bareD 39 x=bareD k x:=by
 have e:(if x.Kind=1 then [] else x.Body.map (bareS 39))=(if x.Kind=1 then [] else x.Body.map (bareS k)):=by
  by_cases c:x.Kind=1
  ·rw [if_pos c,if_pos c]
  ·rw [if_neg c,if_neg c,List.map_congr_left fun y hy=>bareS_same 39 k y (h.bo c y hy) (g.2.2 y hy)]
 rw [bareD,bareD,e]
theorem read_bare {fu:Nat} (hf:8000≤fu) {k:Nat} {l:List TDef} (hz:SzP k l) {f:TFault} (h:syn_wrong fu l=some f) (h0:f.Err=0) (h6:(jn (wP l)).length≤6000):syn_read fu (jn (wP l))=some (l.map (bareD k),⟨0,0⟩):=by
 obtain ⟨f',h1,h2⟩:=syn_wrong_t fu (by omega) l
 rw [h] at h1
 obtain rfl:=Option.some.inj h1
 obtain ⟨-,ok⟩:=h2 h0
 obtain ⟨hl,hF⟩:=form_t (by omega) h h0
 have e:l.map (bareD 39)=l.map (bareD k):=List.map_congr_left fun x hx=>bareD_same (ok.ok x hx) (hz.2 x hx)
 have hW:=wrong_same fu k l hz
 rw [h] at hW
 rw [← e] at hW
 rw [read_t hf hl hF h6 hW h0,e]
end Go.Y
namespace Go.Y
open Go.Wk Go.Xt
def ad:Wd→List Wd→Wd
 | b,[]=>b
 | b,w::ws=>ad (if b=[] then w else b++32::w) ws
def lw:List Wd→Nat
 | []=>0
 | w::ws=>w.length+1+lw ws
theorem ad_app:∀ (u v:List Wd) (b:Wd),ad b (u++v)=ad (ad b u) v
 | [],v,b=>rfl
 | w::u,v,b=>by rw [List.cons_append,ad,ad,ad_app u v]
theorem lw_app:∀ (u v:List Wd),lw (u++v)=lw u+lw v
 | [],v=>by simp [lw]
 | w::u,v=>by rw [List.cons_append,lw,lw,lw_app u v]; omega
theorem ad_len:∀ (ws:List Wd) (b:Wd),(ad b ws).length≤b.length+lw ws
 | [],b=>by simp [ad,lw]
 | w::ws,b=>by
  rw [ad,lw]
  refine Nat.le_trans (ad_len ws _) ?_
  split
  ·simp_all
  ·simp; omega
theorem ad_tail:∀ (ws:List Wd) (b:Wd),b≠[]→ad b ws=b++(ws.map fun w=>32::w).flatten
 | [],b,h=>by simp [ad]
 | w::ws,b,h=>by
  rw [ad,if_neg h,ad_tail ws _ (by simp)]
  simp
theorem jn_tail:∀ (ws:List Wd) (w:Wd),jn (w::ws)=w++(ws.map fun w=>32::w).flatten
 | [],w=>by simp [jn]
 | w'::ws,w=>by rw [jn,jn_tail ws w']; simp
theorem ad_jn {ws:List Wd} (h:∀ w t,ws=w::t→w≠[]):ad [] ws=jn ws:=by
 cases ws with
 | nil=>rfl
 | cons w ws=>rw [ad,if_pos rfl,ad_tail ws w (h w ws rfl),jn_tail]
theorem app_ok8 {α:Type} {l xs:List α} (h:l.length+xs.length≤4294967296):app l xs=some (l++xs):=if_pos h
theorem put_l1_t (p:List Wd):∀ (m i:Nat) (b:Wd),p.length<m+i→i≤p.length→b.length+lw (p.drop i)≤4294967296→p.length≤4294967296→pw_put_l1 p m i b=some (ad b (p.drop i)):=by
 intro m
 induction m with
 | zero=>intro i b h1 h2; omega
 | succ m ih =>
  intro i b h1 h2 h3 h4
  rw [pw_put_l1]
  by_cases c:i<p.length
  ·rw [if_pos (by omega),at_nat,List.getElem?_eq_getElem c,bS,bd_len,bS]
   rw [List.drop_eq_getElem_cons c] at h3 ⊢
   rw [lw] at h3
   rw [ad]
   have go:∀ b',b'.length≤b.length+1→(b=[]→b'=[])→(if b=[] then p[i] else b++32::p[i])=b'++p[i]→pw_put_j1 i p[i] (pw_put_l1 p m) b'=some (ad (if b=[] then p[i] else b++32::p[i]) (p.drop (i+1))):=by
    intro b' hb hn e
    rw [pw_put_j1,bd_str,app_ok8 (by omega),bS,bS,i64_ok (by omega),bS]
    rw [show ((i:Int)+1)=((i+1:Nat):Int) by omega]
    show pw_put_l1 p m ((i+1:Nat):Int) (b'++p[i])=_
    rw [e]
    refine ih (i+1) _ (by omega) (by omega) ?_ h4
    by_cases hb0:b=[]
    ·rw [hn hb0]
     simp only [List.nil_append]
     omega
    ·rw [List.length_append]
     omega
   by_cases hb:b=[]
   ·rw [if_neg (by subst hb; simp)]
    exact go b (by omega) id (by rw [if_pos hb,hb]; simp)
   ·have:0<b.length:=List.length_pos_iff.2 hb
    rw [if_pos (by omega),bd_byte,app_ok8 (by simp; omega),bS,bS]
    exact go (b++[32]) (by simp) (fun h=>absurd h hb) (by rw [if_neg hb]; simp)
  ·rw [if_neg (by omega),List.drop_eq_nil_of_le (by omega),ad]
theorem lw_ge:∀ ws:List Wd,ws.length≤lw ws
 | []=>by simp [lw]
 | w::ws=>by have:=lw_ge ws; simp [lw]; omega
theorem put_t {b:Wd} {ws:List Wd} (h:b.length+lw ws≤4294967296):pw_put b ws=some (ad b ws):=by
 have:=lw_ge ws
 rw [pw_put,show (0:Int)=((0:Nat):Int) from rfl,put_l1_t ws (ws.length+1) 0 b (by omega) (by omega) (by simpa using h) (by omega)]
 simp
theorem put_same (p:List Wd):∀ (m:Nat) (i:Int) (b:Wd),pw_putd_l1 p m i b=pw_put_l1 p m i b:=by
 intro m
 induction m with
 | zero=>intro i b; rfl
 | succ m ih =>
  intro i b
  have e:pw_putd_l1 p m=pw_put_l1 p m:=funext fun i=>funext fun b=>ih i b
  rw [pw_putd_l1,pw_put_l1,e]
  rfl
theorem putd_t {b:Wd} {ws:List Wd} (h:b.length+lw ws≤4294967296):pw_putd b ws=some (ad b ws):=by
 rw [← put_t h,pw_putd,pw_put,put_same]
theorem fmt_ok {n:Int} (h:0≤n∧n≤999999999999999):fmt10 n=some (Lib.itoa n):=if_pos ⟨by omega,by omega⟩
theorem tight_t {k:Int} (h1:1≤k) (h2:k≤24):pr_tight k=some (if 4≤k∧k≤18 then sgn k else [],((own k:Nat):Int)):=by
 have:k=1∨k=2∨k=3∨k=4∨k=5∨k=6∨k=7∨k=8∨k=9∨k=10∨k=11∨k=12∨k=13∨k=14∨k=15∨k=16∨k=17∨k=18∨k=19∨k=20∨k=21∨k=22∨k=23∨k=24:=by omega
 rcases this with rfl | rfl | rfl | rfl | rfl | rfl | rfl | rfl | rfl | rfl | rfl | rfl | rfl | rfl | rfl | rfl | rfl | rfl | rfl | rfl | rfl | rfl | rfl | rfl <;> rfl
end Go.Y
namespace Go.Y
open Go.Wk Go.Xt
section
variable {self:PrE} {x:TExpr}
def pcore (self:PrE) (p_2:TExpr) (r19:List UInt8×Int) (buf_4:Wd):Option Wd :=
  if p_2.Kind=1 then
   (fmt10 p_2.N).bind fun s411 =>
   (pw_put buf_4 [s411]).bind fun r417 =>
   some r417
  else
   if p_2.Kind=2 then
    (at_ [[102,97,108,115,101],[116,114,117,101]] p_2.N).bind fun x430 =>
    (pw_put buf_4 [x430]).bind fun r442 =>
    some r442
   else
    if p_2.Kind=3 then
     (pw_put buf_4 [p_2.Name]).bind fun r455 =>
     some r455
    else
     if p_2.Kind=4 then
      pw_expr_j3 self p_2 buf_4 r19 (decide (p_2.Kind=4))
     else
      pw_expr_j3 self p_2 buf_4 r19 (decide (p_2.Kind=5))
def pend (r:Wd):Option Wd:=(pw_putd r [[41]]).bind some
theorem par_j2 (r19:List UInt8×Int) (b:Wd) (i:Int):pw_expr_j2 self x r19 b i=(pw_expr_j4 self x b r19 i).bind pend:=by
 unfold pw_expr_j2 pw_expr_j4 pend
 simp only [Option.bind_assoc,Option.bind_some]
theorem par_j1 (r19:List UInt8×Int) (b:Wd) (c:Bool):pw_expr_j1 self x r19 b c=(pw_expr_j3 self x b r19 c).bind pend:=by
 unfold pw_expr_j1 pw_expr_j3
 simp only [par_j2]
 repeat' split
 all_goals (try unfold pend; simp only [Option.bind_assoc,Option.bind_some])
theorem expr_e (b:Wd) (need:Int):pw_expr self b x need=(pr_tight x.Kind).bind fun r19=>if r19.2<need then (pw_put b [[40]]).bind fun b1=>(pcore self x r19 b1).bind pend else pcore self x r19 b:=by
 unfold pw_expr pcore
 simp only [par_j1]
 congr 1
 funext r19
 split
 ·congr 1
  funext b1
  repeat' split
  all_goals (try unfold pend; simp only [Option.bind_assoc,Option.bind_some])
 ·rfl
end
section
variable {self:PrE} {f:Nat→TExpr→List Wd}
def wW (f:TExpr→List Wd):Nat→List TExpr→List Wd
 | _,[]=>[]
 | 0,x::t=>f x++wT f t
 | _+1,x::t=>wT f (x::t)
theorem wW_s (f:TExpr→List Wd) (i:Nat) (l:List TExpr):wW f (i+1) l=wT f l:=by cases l <;> rfl
theorem wW_p (f:TExpr→List Wd) {i:Nat} (h:i≠0) (l:List TExpr):wW f i l=wT f l:=by
 obtain ⟨i,rfl⟩:=Nat.exists_eq_succ_of_ne_zero h
 exact wW_s f i l
theorem wA_e (f:TExpr→List Wd) (l:List TExpr):wA f l=[40]::(wW f 0 l++[[41]]):=by
 cases l with
 | nil=>rfl
 | cons x l=>simp [wA,wW]
theorem pargs_l1_t {f:TExpr→List Wd} {l:List TExpr} (hE:∀ y ∈ l,∀ b:Wd,b.length+lw (f y)≤4294967296→self.pw_expr b y 1=some (ad b (f y))):∀ (m i:Nat) (b:Wd),i≤l.length→l.length<m+i→l.length≤6→b.length+lw (wW f i (l.drop i)++[[41]])≤4294967296→pw_args_l1 self l m i b=some (ad b (wW f i (l.drop i)++[[41]])):=by
 intro m
 induction m with
 | zero=>intro i b h1 h2; omega
 | succ m ih =>
  intro i b h1 h2 h6 h3
  rw [pw_args_l1]
  by_cases c:i<l.length
  ·rw [if_pos (by omega)]
   rw [List.drop_eq_getElem_cons c] at h3 ⊢
   have go:∀ b1:Wd,b1.length+lw (f l[i])+lw (wT f (l.drop (i+1)))+lw [[41]]≤4294967296→pw_args_j1 self l i (pw_args_l1 self l m) b1=some (ad b1 (f l[i]++(wT f (l.drop (i+1))++[[41]]))):=by
    intro b1 hb
    rw [pw_args_j1,at_nat,List.getElem?_eq_getElem c,bS,hE _ (List.getElem_mem c) b1 (by omega),bS,i64_ok (by omega),bS]
    have hl:=ad_len (f l[i]) b1
    have:=ih (i+1) (ad b1 (f l[i])) (by omega) (by omega) h6 (by rw [wW_s,lw_app]; omega)
    rw [wW_s] at this
    rw [show ((i:Int)+1)=((i+1:Nat):Int) by omega,this,ad_app (f l[i])]
   by_cases h0:i=0
   ·subst h0
    rw [wW] at h3 ⊢
    rw [if_neg (by omega),go b (by rw [lw_app,lw_app] at h3; omega),List.append_assoc]
   ·rw [wW_p f h0] at h3 ⊢
    have e:wT f (l[i]::l.drop (i+1))=[[44]]++(f l[i]++wT f (l.drop (i+1))):=by
     generalize l[i]=x
     generalize l.drop (i+1)=t
     rw [wT,wT,List.map_cons,List.flatten_cons]
     rfl
    rw [e] at h3 ⊢
    rw [lw_app,lw_app,lw_app] at h3
    have hl:=ad_len [[44]] b
    rw [if_pos (by omega),put_t (by omega),bS,go _ (by omega),List.append_assoc,ad_app [[44]],List.append_assoc]
  ·rw [if_neg (by omega)]
   have e:wW f i (l.drop i)=[]:=by
    rw [List.drop_eq_nil_of_le (by omega)]
    cases i <;> rfl
   rw [e,List.nil_append] at h3 ⊢
   rw [put_t h3,bS]
theorem pargs_t {f:TExpr→List Wd} {l:List TExpr} (hE:∀ y ∈ l,∀ b:Wd,b.length+lw (f y)≤4294967296→self.pw_expr b y 1=some (ad b (f y))) (h6:l.length≤6) {b:Wd} (h:b.length+lw (wA f l)≤4294967296):pw_args self b l=some (ad b (wA f l)):=by
 rw [wA_e] at h ⊢
 rw [show [40]::(wW f 0 l++[[41]])=[[40]]++(wW f 0 l++[[41]]) from rfl] at h ⊢
 rw [lw_app] at h
 have hl:=ad_len [[40]] b
 rw [pw_args,put_t (by omega),bS,ad_app [[40]]]
 have:=pargs_l1_t hE (l.length+1) 0 (ad b [[40]]) (by omega) (by omega) h6 (by simpa using (by omega))
 simpa using this
end
theorem core_t {k:Nat} {E:PrE} {x:TExpr} (hx:FmE (k+1) x) (hE:∀ y ∈ x.Kids,∀ (b:Wd) (need:Nat),need≤8→b.length+lw (wE k need y)≤4294967296→E.pw_expr b y need=some (ad b (wE k need y))) (hA:∀ (b:Wd),b.length+lw (wA (wE k 1) x.Kids)≤4294967296→E.pw_args b x.Kids=some (ad b (wA (wE k 1) x.Kids))) (b:Wd) (hb:b.length+lw (wC (wE k) x)≤4294967296) :
  pcore E x (if 4≤x.Kind∧x.Kind≤18 then sgn x.Kind else [],((own x.Kind:Nat):Int)) b=some (ad b (wC (wE k) x)):=by
 obtain ⟨h1,h2,hk,hN,hB,-,-⟩:=hx
 unfold wC at hb ⊢
 unfold pcore
 have two:∀ (u v:List Wd) (b:Wd),ad (ad b u) v=ad b (u++v):=fun u v b=>(ad_app u v b).symm
 have ar:∀ (w:List Wd),b.length+lw (w++wA (wE k 1) x.Kids)≤4294967296→((pw_put b w).bind fun r=>(E.pw_args r x.Kids).bind fun q=>some q)=some (ad b (w++wA (wE k 1) x.Kids)):=by
  intro w hw
  rw [lw_app] at hw
  have hl:=ad_len w b
  rw [put_t (by omega),bS,hA _ (by omega),bS,two]
 by_cases c1:x.Kind=1
 ·simp only [if_pos c1] at hb ⊢
  rw [fmt_ok (hN c1),bS,put_t hb,bS]
 simp only [if_neg c1] at hb ⊢
 by_cases c2:x.Kind=2
 ·simp only [if_pos c2] at hb ⊢
  rcases hB c2 with e | e
  ·rw [e] at hb ⊢
   show ((pw_put b [[102,97,108,115,101]]).bind fun r=>some r)=_
   rw [if_neg (by decide)] at hb ⊢
   rw [put_t hb,bS]
  ·rw [e] at hb ⊢
   show ((pw_put b [[116,114,117,101]]).bind fun r=>some r)=_
   rw [if_pos rfl] at hb ⊢
   rw [put_t hb,bS]
 simp only [if_neg c2] at hb ⊢
 by_cases c3:x.Kind=3
 ·simp only [if_pos c3] at hb ⊢
  rw [put_t hb,bS]
 simp only [if_neg c3] at hb ⊢
 by_cases c45:x.Kind=4∨x.Kind=5
 ·simp only [if_pos c45] at hb ⊢
  have e:(if x.Kind=4 then pw_expr_j3 E x b (if 4≤x.Kind∧x.Kind≤18 then sgn x.Kind else [],((own x.Kind:Nat):Int)) (decide (x.Kind=4)) else pw_expr_j3 E x b (if 4≤x.Kind∧x.Kind≤18 then sgn x.Kind else [],((own x.Kind:Nat):Int)) (decide (x.Kind=5)))=pw_expr_j3 E x b (if 4≤x.Kind∧x.Kind≤18 then sgn x.Kind else [],((own x.Kind:Nat):Int)) true:=by
   rcases c45 with c | c
   ·rw [if_pos c,decide_eq_true c]
   ·rw [if_neg (by omega),decide_eq_true c]
  rw [e,pw_expr_j3,if_pos rfl,if_pos (by omega)]
  have hkl:x.Kids.length=1:=by
   have e1:kidN x.Kind=1:=by rcases c45 with c | c <;> rw [c] <;> rfl
   have:=hk.eq (by omega)
   omega
  obtain ⟨a,ha⟩:=List.length_eq_one_iff.1 hkl
  rw [ha] at hb ⊢
  dsimp only at hb ⊢
  rw [show sgn x.Kind::wE k 6 a=[sgn x.Kind]++wE k 6 a from rfl,lw_app] at hb
  have hl:=ad_len [sgn x.Kind] b
  have h6:=hE a (by simp [ha]) (ad b [sgn x.Kind]) 6 (by omega) (by omega)
  rw [put_t (by omega),bS,at_0 (by simp),bS]
  show ((E.pw_expr (ad b [sgn x.Kind]) a ((6:Nat):Int)).bind fun r=>some r)=_
  rw [h6,bS,two]
  rfl
 simp only [if_neg c45] at hb ⊢
 rw [if_neg (by omega),decide_eq_false (show ¬ x.Kind=5 by omega),pw_expr_j3,if_neg (by decide)]
 by_cases c18:x.Kind≤18
 ·simp only [if_pos c18] at hb ⊢
  have hkl:x.Kids.length=2:=by
   have e1:kidN x.Kind=2:=by unfold kidN; rw [if_neg (by omega),if_neg (by omega),if_pos (by omega)]
   have:=hk.eq (by omega)
   omega
  rw [if_pos (show 4≤x.Kind∧x.Kind≤18 by omega),if_neg (show ¬ x.Kind=20 by omega),if_neg (show ¬ x.Kind=21 by omega),if_neg (show ¬ x.Kind=23 by omega),if_neg (show ¬ x.Kind=24 by omega),if_neg (show ¬ x.Kind=22 by omega),if_neg (show ¬ x.Kind=19 by omega)]
  obtain ⟨a,c,ha⟩:∃ a c,x.Kids=[a,c]:=by
   match x.Kids,hkl with
   | [a,c],_=>exact ⟨a,c,rfl⟩
  rw [ha] at hb ⊢
  dsimp only at hb ⊢
  have ho:own x.Kind≤7:=by
   unfold own
   (repeat' split) <;> omega
  have j4:∀ left:Nat,left≤8→b.length+lw (wE k left a++sgn x.Kind::wE k (own x.Kind+1) c)≤4294967296→pw_expr_j4 E x b (sgn x.Kind,((own x.Kind:Nat):Int)) (left:Int)=some (ad b (wE k left a++sgn x.Kind::wE k (own x.Kind+1) c)):=by
   intro left hl8 hb
   rw [show wE k left a++sgn x.Kind::wE k (own x.Kind+1) c=wE k left a++([sgn x.Kind]++wE k (own x.Kind+1) c) from rfl] at hb ⊢
   rw [lw_app,lw_app] at hb
   have l1:=ad_len (wE k left a) b
   have l2:=ad_len [sgn x.Kind] (ad b (wE k left a))
   rw [pw_expr_j4,ha,at_0 (by simp),bS]
   dsimp only
   show ((E.pw_expr b a (left:Int)).bind _)=_
   rw [hE a (by simp [ha]) b left hl8 (by omega),bS,put_t (by omega),bS,at_1 (by simp),bS,i64_ok (by omega),bS]
   show ((E.pw_expr _ c (((own x.Kind:Nat):Int)+1)).bind _)=_
   rw [show (((own x.Kind:Nat):Int)+1)=((own x.Kind+1:Nat):Int) by omega,hE c (by simp [ha]) _ (own x.Kind+1) (by omega) (by omega),bS,two,two]
  by_cases c3:own x.Kind=3
  ·rw [if_pos c3] at hb ⊢
   rw [if_pos (by omega),i64_ok (by omega),bS,show (((own x.Kind:Nat):Int)+1)=((4:Nat):Int) by omega]
   exact j4 4 (by omega) hb
  ·rw [if_neg c3] at hb ⊢
   rw [if_neg (by omega)]
   exact j4 (own x.Kind) (by omega) hb
 simp only [if_neg c18] at hb ⊢
 by_cases c19:x.Kind=19
 ·simp only [if_pos c19] at hb ⊢
  rw [if_neg (by omega),if_neg (by omega),if_neg (by omega),if_neg (by omega),if_neg (by omega)]
  exact ar [x.Name] hb
 simp only [if_neg c19] at hb ⊢
 by_cases c20:x.Kind=20
 ·simp only [if_pos c20] at hb ⊢
  rw [put_t hb,bS]
 simp only [if_neg c20] at hb ⊢
 by_cases c21:x.Kind=21
 ·simp only [if_pos c21] at hb ⊢
  exact ar [_] hb
 simp only [if_neg c21] at hb ⊢
 by_cases c22:x.Kind=22
 ·simp only [if_pos c22] at hb ⊢
  rw [if_neg (by omega),if_neg (by omega)]
  exact ar [_,x.Name] hb
 simp only [if_neg c22] at hb ⊢
 by_cases c23:x.Kind=23
 ·simp only [if_pos c23] at hb ⊢
  exact ar [_] hb
 simp only [if_neg c23] at hb ⊢
 rw [if_pos (by omega)]
 exact ar [_] hb
theorem expr_t:∀ (k n:Nat) (x:TExpr) (b:Wd) (need:Nat),FmE k x→2*k≤n→b.length+lw (wE k need x)≤4294967296→(PrE_run n).pw_expr b x need=some (ad b (wE k need x)):=by
 intro k
 induction k with
 | zero=>intro n x b need h; exact h.elim
 | succ k ih =>
  intro n x b need hx hn hb
  obtain ⟨n,rfl⟩:∃ m,n=m+2:=⟨n - 2,by omega⟩
  have hx':=hx
  obtain ⟨h1,h2,hk,-,-,-,hkids⟩:=hx'
  have hE:∀ y ∈ x.Kids,∀ (b:Wd) (need:Nat),need≤8→b.length+lw (wE k need y)≤4294967296→(PrE_run (n+1)).pw_expr b y need=some (ad b (wE k need y)):=fun y hy b need _ hb=>ih (n+1) y b need (hkids y hy) (by omega) hb
  have hA:∀ (b:Wd),b.length+lw (wA (wE k 1) x.Kids)≤4294967296→(PrE_run (n+1)).pw_args b x.Kids=some (ad b (wA (wE k 1) x.Kids)):=fun b hb =>
   pargs_t (self:=PrE_run n) (f:=wE k 1) (l:=x.Kids) (fun y hy b hb=>ih n y b 1 (hkids y hy) (by omega) hb) hk.le hb
  show pw_expr (PrE_run (n+1)) b x need=_
  rw [expr_e,tight_t h1 h2,bS]
  rw [wE] at hb ⊢
  by_cases c:own x.Kind<need
  ·rw [if_pos c] at hb ⊢
   rw [show [40]::(wC (wE k) x++[[41]])=[[40]]++(wC (wE k) x++[[41]]) from rfl] at hb ⊢
   rw [lw_app,lw_app] at hb
   have l1:=ad_len [[40]] b
   have l2:=ad_len (wC (wE k) x) (ad b [[40]])
   rw [if_pos (by exact Int.ofNat_lt.2 c),put_t (by omega),bS,core_t hx hE hA _ (by omega),bS,pend,putd_t (by omega),bS,ad_app [[40]],ad_app (wC (wE k) x)]
  ·rw [if_neg c] at hb ⊢
   rw [if_neg (by simpa using c)]
   exact core_t hx hE hA b hb
end Go.Y
namespace Go.Y
open Go.Wk Go.Xt
section
variable {self:PrS} {g:TStat→List Wd} {l:List TStat}
theorem body_l1_t' (hS:∀ y ∈ l,∀ b:Wd,b.length+lw (g y)≤4294967296→self.pw_stat b y=some (ad b (g y))) (h5:l.length≤50):∀ (m i:Nat) (b:Wd),i≤l.length→l.length<m+i→b.length+lw (((l.drop i).map g).flatten++[[125]])≤4294967296→pw_body_l1 self l m i b=some (ad b (((l.drop i).map g).flatten++[[125]])):=by
 intro m
 induction m with
 | zero=>intro i b h1 h2; omega
 | succ m ih =>
  intro i b h1 h2 h3
  rw [pw_body_l1]
  by_cases c:i<l.length
  ·rw [if_pos (by omega),at_nat,List.getElem?_eq_getElem c,bS]
   rw [List.drop_eq_getElem_cons c,List.map_cons,List.flatten_cons,List.append_assoc] at h3 ⊢
   rw [lw_app] at h3
   have hl:=ad_len (g l[i]) b
   rw [hS _ (List.getElem_mem c) b (by omega),bS,i64_ok (by omega),bS,show ((i:Int)+1)=((i+1:Nat):Int) from rfl,ih (i+1) _ (by omega) (by omega) (by omega),ad_app (g l[i])]
  ·rw [if_neg (by omega)]
   rw [List.drop_eq_nil_of_le (by omega),List.map_nil,List.flatten_nil,List.nil_append] at h3 ⊢
   rw [put_t h3,bS]
theorem body_t' (hS:∀ y ∈ l,∀ b:Wd,b.length+lw (g y)≤4294967296→self.pw_stat b y=some (ad b (g y))) (h5:l.length≤50) {b:Wd} (h:b.length+lw (wBody g l)≤4294967296):pw_body self b l=some (ad b (wBody g l)):=by
 unfold wBody at h ⊢
 rw [show [123]::((l.map g).flatten++[[125]])=[[123]]++((l.map g).flatten++[[125]]) from rfl] at h ⊢
 rw [lw_app] at h
 have hl:=ad_len [[123]] b
 rw [pw_body,put_t (by omega),bS,ad_app [[123]]]
 have:=body_l1_t' hS h5 (l.length+1) 0 (ad b [[123]]) (by omega) (by omega) (by simpa using (by omega))
 simpa using this
end
theorem ad2 (u v:List Wd) (b:Wd):ad (ad b u) v=ad b (u++v):=(ad_app u v b).symm
theorem stat_t {k fu:Nat} {S:PrS} {x:TStat} (hx:FmS (k+1) x) (hf:2*k≤fu) (hB:∀ (l:List TStat),(∀ y ∈ l,FmS k y)→l.length≤50→∀ b:Wd,b.length+lw (wBody (wS k) l)≤4294967296→S.pw_body b l=some (ad b (wBody (wS k) l))) (b:Wd) (hb:b.length+lw (wS (k+1) x)≤4294967296) :
  pw_stat fu S b x=some (ad b (wS (k+1) x)):=by
 obtain ⟨h1,h9,hX,hN,hBd,hEl⟩:=hx
 have j1:∀ (w:List Wd),x.Kind≠6→b.length+lw (w++(wE k 1 x.X++[[59]]))≤4294967296→((pw_put b w).bind fun r=>pw_stat_j1 fu x r)=some (ad b (w++(wE k 1 x.X++[[59]]))):=by
  intro w h6 hw
  rw [lw_app,lw_app] at hw
  have l1:=ad_len w b
  have l2:=ad_len (wE k 1 x.X) (ad b w)
  rw [put_t (by omega),bS,pw_stat_j1,if_pos h6]
  show (((PrE_run fu).pw_expr (ad b w) x.X ((1:Nat):Int)).bind _)=_
  rw [expr_t k fu x.X _ 1 (hX h6) hf (by omega),bS,pw_stat_j4,put_t (by omega),bS,ad2,ad2]
 have j2:pw_stat fu S b x=pw_stat_j2 fu S x b (decide (x.Kind=3∨x.Kind=4)):=by
  rw [pw_stat]
  by_cases c:x.Kind=3
  ·rw [if_pos c,decide_eq_true c,decide_eq_true (.inl c)]
  ·rw [if_neg c]
   congr 1
   exact decide_eq_decide.2 (by omega)
 rw [j2,pw_stat_j2]
 rw [wS] at hb ⊢
 by_cases c3:x.Kind=3
 ·rw [if_pos c3] at hb ⊢
  rw [decide_eq_true (.inl c3),if_pos rfl]
  rw [show [105,102]::(wE k 1 x.X++(wBody (wS k) x.Body++(if x.Else=[] then [] else [101,108,115,101]::wBody (wS k) x.Else)))=[[105,102]]++(wE k 1 x.X++(wBody (wS k) x.Body++(if x.Else=[] then [] else [[101,108,115,101]]++wBody (wS k) x.Else))) from rfl] at hb ⊢
  rw [lw_app,lw_app,lw_app] at hb
  have l1:=ad_len [[105,102]] b
  have l2:=ad_len (wE k 1 x.X) (ad b [[105,102]])
  have l3:=ad_len (wBody (wS k) x.Body) (ad (ad b [[105,102]]) (wE k 1 x.X))
  obtain ⟨hb5,hbo⟩:=hBd (.inl c3)
  obtain ⟨he5,hel⟩:=hEl c3
  rw [show ((mget (mput (mput ([]:List (Int×List UInt8)) 3 [105,102]) 4 [119,104,105,108,101]) x.Kind).getD [])=[105,102] by rw [c3]; rfl]
  rw [put_t (by omega),bS]
  show (((PrE_run fu).pw_expr (ad b [[105,102]]) x.X ((1:Nat):Int)).bind _)=_
  rw [expr_t k fu x.X _ 1 (hX (by omega)) hf (by omega),bS,hB x.Body hbo hb5 _ (by omega),bS,if_pos c3]
  by_cases ce:x.Else=[]
  ·rw [if_pos ce] at hb ⊢
   rw [decide_eq_false (by rw [ce]; simp),pw_stat_j3,if_neg (by decide),ad2,ad2]
   simp
  ·rw [if_neg ce] at hb ⊢
   rw [lw_app] at hb
   have l4:=ad_len [[101,108,115,101]] (ad (ad (ad b [[105,102]]) (wE k 1 x.X)) (wBody (wS k) x.Body))
   have hc:0<x.Else.length:=List.length_pos_iff.2 ce
   rw [decide_eq_true (by omega),pw_stat_j3,if_pos rfl,put_t (by omega),bS,hB x.Else hel he5 _ (by omega),bS,ad2,ad2,ad2,ad2]
 rw [if_neg c3] at hb ⊢
 by_cases c4:x.Kind=4
 ·rw [if_pos c4] at hb ⊢
  rw [decide_eq_true (.inr c4),if_pos rfl]
  rw [show [119,104,105,108,101]::(wE k 1 x.X++wBody (wS k) x.Body)=[[119,104,105,108,101]]++(wE k 1 x.X++wBody (wS k) x.Body) from rfl] at hb ⊢
  rw [lw_app,lw_app] at hb
  have l1:=ad_len [[119,104,105,108,101]] b
  have l2:=ad_len (wE k 1 x.X) (ad b [[119,104,105,108,101]])
  obtain ⟨hb5,hbo⟩:=hBd (.inr c4)
  rw [show ((mget (mput (mput ([]:List (Int×List UInt8)) 3 [105,102]) 4 [119,104,105,108,101]) x.Kind).getD [])=[119,104,105,108,101] by rw [c4]; rfl]
  rw [put_t (by omega),bS]
  show (((PrE_run fu).pw_expr (ad b [[119,104,105,108,101]]) x.X ((1:Nat):Int)).bind _)=_
  rw [expr_t k fu x.X _ 1 (hX (by omega)) hf (by omega),bS,hB x.Body hbo hb5 _ (by omega),bS,if_neg c3,pw_stat_j3,if_neg (by decide),ad2,ad2]
 rw [if_neg c4] at hb ⊢
 rw [decide_eq_false (by omega),if_neg (by decide)]
 by_cases c1:x.Kind=1
 ·rw [if_pos c1] at hb ⊢
  rw [if_pos c1]
  exact j1 [_,x.Name,_] (by omega) hb
 rw [if_neg c1] at hb ⊢
 rw [if_neg c1]
 by_cases c2:x.Kind=2
 ·rw [if_pos c2] at hb ⊢
  rw [if_pos c2]
  exact j1 [x.Name,_] (by omega) hb
 rw [if_neg c2] at hb ⊢
 rw [if_neg c2]
 by_cases c7:x.Kind=7
 ·rw [if_pos c7] at hb ⊢
  rw [if_pos c7]
  exact j1 [_,x.Name] (by omega) hb
 rw [if_neg c7] at hb ⊢
 rw [if_neg c7]
 by_cases c6:x.Kind=6
 ·rw [if_pos c6] at hb ⊢
  rw [show ((mget (mput (mput (mput (mput ([]:List (Int×List UInt8)) 5 [114,101,116,117,114,110]) 6 [115,116,111,112]) 8 [111,117,116]) 9 [100,111]) x.Kind).getD [])=[115,116,111,112] by rw [c6]; rfl]
  rw [show ([[115,116,111,112],[59]]:List Wd)=[[115,116,111,112]]++[[59]] from rfl] at hb ⊢
  rw [lw_app] at hb
  have l1:=ad_len [[115,116,111,112]] b
  rw [put_t (by omega),bS,pw_stat_j1,if_neg (by simpa using c6),pw_stat_j4,put_t (by omega),bS,ad2]
 rw [if_neg c6] at hb ⊢
 have e:((mget (mput (mput (mput (mput ([]:List (Int×List UInt8)) 5 [114,101,116,117,114,110]) 6 [115,116,111,112]) 8 [111,117,116]) 9 [100,111]) x.Kind).getD [])=(if x.Kind=5 then [114,101,116,117,114,110] else if x.Kind=8 then [111,117,116] else [100,111]):=by
  have:x.Kind=5∨x.Kind=8∨x.Kind=9:=by omega
  rcases this with c | c | c <;> rw [c] <;> rfl
 rw [e]
 exact j1 [_] c6 hb
theorem stats_t':∀ (k n:Nat) (x:TStat) (b:Wd),FmS k x→4*k+2≤n→b.length+lw (wS k x)≤4294967296→(PrS_run n).pw_stat b x=some (ad b (wS k x)):=by
 intro k
 induction k with
 | zero=>intro n x b h; exact h.elim
 | succ k ih =>
  intro n x b hx hn hb
  obtain ⟨n,rfl⟩:∃ m,n=m+2:=⟨n - 2,by omega⟩
  exact stat_t (fu:=n+1) (S:=PrS_run (n+1)) hx (by omega) (fun l hl h5 b hb=>body_t' (self:=PrS_run n) (g:=wS k) (fun y hy b hb=>ih n y b (hl y hy) (by omega) hb) h5 hb) b hb
theorem ptype_t {t:TType} (h:OkT t):pr_type t=some (wTy t):=by
 rw [pr_type,wTy]
 repeat' split
 all_goals first | rfl | omega
def pW:List TParam→List Wd
 | []=>[]
 | q::l=>q.Name::wTy q.Typ::wPT l
theorem pdef_l1_t {fu:Nat} {x:TDef} (hp:x.Params.length≤6) (hq:∀ q ∈ x.Params,OkT q.Typ) (R:List Wd) (hR:∀ b:Wd,b.length+lw R≤4294967296→(if x.Kind=3 then
    (pr_type x.Takes).bind fun r295 =>
    (pw_put b [[116,97,107,101,115],r295,[121,105,101,108,100,115]]).bind fun r302 =>
    pw_def_j6 fu x r302
   else
    pw_def_j6 fu x b)=some (ad b R)):∀ (m i:Nat) (b:Wd),i≤x.Params.length→x.Params.length<m+i→b.length+lw ((if i=0 then pW x.Params else wPT (x.Params.drop i))++([[41]]++R))≤4294967296→pw_def_l1 fu x m i b=some (ad b ((if i=0 then pW x.Params else wPT (x.Params.drop i))++([[41]]++R))):=by
 intro m
 induction m with
 | zero=>intro i b h1 h2; omega
 | succ m ih =>
  intro i b h1 h2 h3
  rw [pw_def_l1]
  by_cases c:i<x.Params.length
  ·rw [if_pos (by omega),at_nat,List.getElem?_eq_getElem c,bS]
   have go:∀ b1:Wd,b1.length+lw ([x.Params[i].Name,wTy x.Params[i].Typ]++(wPT (x.Params.drop (i+1))++([[41]]++R)))≤4294967296→pw_def_j4 i x.Params[i] (pw_def_l1 fu x m) b1=some (ad b1 ([x.Params[i].Name,wTy x.Params[i].Typ]++(wPT (x.Params.drop (i+1))++([[41]]++R)))):=by
    intro b1 hb
    rw [lw_app] at hb
    have l1:=ad_len [x.Params[i].Name,wTy x.Params[i].Typ] b1
    rw [pw_def_j4,ptype_t (hq _ (List.getElem_mem c)),bS,put_t (by omega),bS,pw_def_j5,i64_ok (by omega),bS,show ((i:Int)+1)=((i+1:Nat):Int) from rfl]
    have:=ih (i+1) (ad b1 [x.Params[i].Name,wTy x.Params[i].Typ]) (by omega) (by omega) (by rw [if_neg (by omega)]; omega)
    rw [this,if_neg (by omega),ad2]
   by_cases h0:i=0
   ·subst h0
    rw [if_pos rfl] at h3 ⊢
    rw [if_neg (by omega)]
    have e:∀ (P:List TParam) (hP:0<P.length),pW P=[P[0].Name,wTy P[0].Typ]++wPT (P.drop 1):=by
     intro P hP
     cases P with
     | nil=>simp at hP
     | cons q l=>rfl
    rw [e _ c,List.append_assoc] at h3 ⊢
    exact go b h3
   ·rw [if_neg h0] at h3 ⊢
    rw [if_pos (by omega)]
    have e:wPT (x.Params.drop i)=[[44]]++([x.Params[i].Name,wTy x.Params[i].Typ]++wPT (x.Params.drop (i+1))):=by
     rw [List.drop_eq_getElem_cons c,wPT,wPT,List.map_cons,List.flatten_cons]
     rfl
    rw [e,List.append_assoc,List.append_assoc] at h3 ⊢
    rw [lw_app] at h3
    have l1:=ad_len [[44]] b
    rw [put_t (by omega),bS,go _ (by omega),ad2]
  ·rw [if_neg (by omega)]
   have e:(if i=0 then pW x.Params else wPT (x.Params.drop i))=[]:=by
    by_cases h0:i=0
    ·rw [if_pos h0]
     have:x.Params=[]:=List.eq_nil_of_length_eq_zero (by omega)
     rw [this]
     rfl
    ·rw [if_neg h0,List.drop_eq_nil_of_le (by omega)]
     rfl
   rw [e,List.nil_append] at h3 ⊢
   rw [lw_app] at h3
   have l1:=ad_len [[41]] b
   rw [put_t (by omega),bS,hR _ (by omega),ad2]
theorem pdef_t {fu:Nat} (hf:200≤fu) {x:TDef} (hx:FmD x) {b:Wd} (hb:b.length+lw (wD x)≤4294967296):pw_def fu b x=some (ad b (wD x)):=by
 have hbody:∀ b:Wd,x.Kind≠1→b.length+lw (wBody (wS 39) x.Body)≤4294967296→pw_def_j1 fu x b=some (ad b (wBody (wS 39) x.Body)):=by
  intro b hk hb
  obtain ⟨h5,hS⟩:=hx.bo hk
  obtain ⟨n,rfl⟩:∃ m,fu=m+1:=⟨fu - 1,by omega⟩
  rw [pw_def_j1]
  show ((pw_body (PrS_run n) b x.Body).bind _)=_
  rw [body_t' (self:=PrS_run n) (g:=wS 39) (fun y hy b hb=>stats_t' 39 n y b (hS y hy) (by omega) hb) h5 hb,bS]
 have k1:=hx.k1
 have k4:=hx.k4
 rw [pw_def]
 unfold wD at hb ⊢
 by_cases c1:x.Kind=1
 ·rw [if_pos c1] at hb ⊢
  obtain ⟨p1,p2⟩:=hx.cp c1
  rw [if_pos c1,ptype_t (hx.ty (by omega)).1,bS,fmt_ok ⟨by omega,by omega⟩,bS,put_t hb,bS,pw_def_j2]
 rw [if_neg c1] at hb ⊢
 rw [if_neg c1]
 by_cases c4:x.Kind=4
 ·rw [if_pos c4] at hb ⊢
  rw [show [116,97,115,107]::x.Name::wBody (wS 39) x.Body=[[116,97,115,107],x.Name]++wBody (wS 39) x.Body from rfl,lw_app] at hb
  have l1:=ad_len [[116,97,115,107],x.Name] b
  rw [if_pos c4,put_t (by omega),bS,hbody _ c1 (by omega),ad2]
  rfl
 rw [if_neg c4] at hb ⊢
 rw [if_neg c4]
 obtain ⟨hp6,hps⟩:=hx.ps (by omega)
 have j6:∀ b:Wd,b.length+lw ([wTy x.Typ]++wBody (wS 39) x.Body)≤4294967296→pw_def_j6 fu x b=some (ad b ([wTy x.Typ]++wBody (wS 39) x.Body)):=by
  intro b hb
  rw [lw_app] at hb
  have l1:=ad_len [wTy x.Typ] b
  rw [pw_def_j6,ptype_t (hx.ty c4).1,bS,put_t (by omega),bS,hbody _ c1 (by omega),ad2]
 have ew:∀ (h:Wd) (R:List Wd),h::x.Name::(wPs x.Params++R)=[h,x.Name,[40]]++(pW x.Params++([[41]]++R)):=by
  intro h R
  cases x.Params with
  | nil=>rfl
  | cons q l=>simp [wPs,pW]
 have fin:∀ (h:Wd) (R:List Wd),(∀ b:Wd,b.length+lw R≤4294967296→(if x.Kind=3 then
    (pr_type x.Takes).bind fun r295 =>
    (pw_put b [[116,97,107,101,115],r295,[121,105,101,108,100,115]]).bind fun r302 =>
    pw_def_j6 fu x r302
   else
    pw_def_j6 fu x b)=some (ad b R))→b.length+lw (h::x.Name::(wPs x.Params++R))≤4294967296→((pw_put b [h,x.Name,[40]]).bind fun r88=>pw_def_j3 fu x r88)=some (ad b (h::x.Name::(wPs x.Params++R))):=by
  intro h R hR hb
  rw [ew] at hb ⊢
  rw [lw_app] at hb
  have l1:=ad_len [h,x.Name,[40]] b
  have:=pdef_l1_t (fu:=fu) hp6 (fun q hq=>(hps q hq).2.1) R hR (x.Params.length+1) 0 (ad b [h,x.Name,[40]]) (by omega) (by omega) (by rw [if_pos rfl]; omega)
  rw [put_t (by omega),bS,pw_def_j3]
  show pw_def_l1 fu x (x.Params.length+1) ((0:Nat):Int) _=_
  rw [this,if_pos rfl,ad2]
 by_cases c2:x.Kind=2
 ·rw [if_pos c2] at hb ⊢
  rw [show ((mget (mput (mput ([]:List (Int×List UInt8)) 2 [102,110]) 3 [103,101,110]) x.Kind).getD [])=[102,110] by rw [c2]; rfl]
  refine fin _ _ (fun b hb=>?_) hb
  rw [if_neg (by omega)]
  exact j6 b hb
 ·rw [if_neg c2] at hb ⊢
  have c3:x.Kind=3:=by omega
  rw [show ((mget (mput (mput ([]:List (Int×List UInt8)) 2 [102,110]) 3 [103,101,110]) x.Kind).getD [])=[103,101,110] by rw [c3]; rfl]
  refine fin _ _ (fun b hb=>?_) hb
  rw [if_pos c3,ptype_t (hx.tk c3).1,bS]
  rw [show [116,97,107,101,115]::wTy x.Takes::[121,105,101,108,100,115]::wTy x.Typ::wBody (wS 39) x.Body=[[116,97,107,101,115],wTy x.Takes,[121,105,101,108,100,115]]++([wTy x.Typ]++wBody (wS 39) x.Body) from rfl] at hb ⊢
  rw [lw_app] at hb
  have l1:=ad_len [[116,97,107,101,115],wTy x.Takes,[121,105,101,108,100,115]] b
  rw [put_t (by omega),bS,j6 _ (by omega),ad2]
end Go.Y
namespace Go.Y
open Go.Wk Go.Xt
theorem nmd_len {w:Wd} (h:Nmd w):w.length≤12:=by
 have h:=h 20 (Nat.le_refl _)
 rw [lex_named] at h
 have bad:lex_named_j1 20 w true≠some true:=fun h=>by cases h
 split at h
 ·exact absurd h bad
 ·split at h
  ·exact absurd h bad
  ·omega
theorem sgn_len (k:Int):(sgn k).length≤3:=by
 unfold sgn
 have I:∀ (c:Prop) [Decidable c] (a b:Wd),a.length≤3→b.length≤3→(if c then a else b).length≤3:=by
  intro c _ a b h1 h2
  split <;> assumption
 repeat' (first | (refine I _ _ _ (by decide) ?_) | decide)
theorem itoa_len {N:Int} (h0:0≤N) (h1:N≤999999999999999):(Lib.itoa N).length≤15:=by
 rw [itoa_nat h0]
 exact dec_len 14 _ (by omega)
theorem lw_flat {α:Type} (f:α→List Wd) (g:α→Nat) (c:Nat):∀ (l:List α),(∀ y ∈ l,lw (f y)≤100*g y+c)→lw (l.map f).flatten≤100*(l.map g).sum+c*l.length
 | [],_=>by simp [lw]
 | y::l,h=>by
  rw [List.map_cons,List.flatten_cons,lw_app,List.map_cons,List.sum_cons,List.length_cons]
  have h1:=h y (List.mem_cons_self ..)
  have h2:=lw_flat f g c l fun z hz=>h z (List.mem_cons_of_mem _ hz)
  rw [Nat.mul_add,Nat.mul_add]
  omega
theorem lw_A {f:TExpr→List Wd} {g:TExpr→Nat} {l:List TExpr} (h:∀ y ∈ l,lw (f y)≤100*g y) (h6:l.length≤6):lw (wA f l)≤100*(l.map g).sum+16:=by
 have hT:=lw_flat (fun x=>[44]::f x) g 2 l fun y hy=>by
  have:=h y hy
  show lw ([44]::f y)≤_
  rw [lw]
  simp
  omega
 have e:lw (wA f l)≤4+lw (l.map fun x=>[44]::f x).flatten:=by
  cases l with
  | nil=>simp [wA,lw]
  | cons x l =>
   rw [wA,lw,lw_app,lw_app,List.map_cons,List.flatten_cons,lw_app,lw,wT]
   simp [lw]
   omega
 omega
theorem lw_E:∀ (k need:Nat) (x:TExpr),FmE k x→lw (wE k need x)≤100*nE k x:=by
 intro k
 induction k with
 | zero=>intro need x h; exact h.elim
 | succ k ih =>
  intro need x hx
  obtain ⟨h1,h2,hk,hN,-,hM,hkids⟩:=hx
  have hA:=lw_A (f:=wE k 1) (g:=nE k) (l:=x.Kids) (fun y hy=>ih 1 y (hkids y hy)) hk.le
  have key:lw (wC (wE k) x)≤100*(x.Kids.map (nE k)).sum+60:=by
   have hs:=sgn_len x.Kind
   unfold wC
   split
   ·rename_i c
    have:=itoa_len (hN c).1 (hN c).2
    simp [lw]; omega
   split
   ·rw [lw,lw]; split <;> simp <;> omega
   split
   ·rename_i c
    have:=nmd_len (hM (.inl c))
    simp [lw]; omega
   split
   ·cases h:x.Kids with
    | nil=>simp [lw]; omega
    | cons a t =>
     have:=ih 6 a (hkids a (by simp [h]))
     simp [lw]; omega
   split
   ·cases h:x.Kids with
    | nil=>simp [lw]
    | cons a t =>
     cases t with
     | nil=>simp [lw]
     | cons c t =>
      have e1:=ih (if own x.Kind=3 then 4 else own x.Kind) a (hkids a (by simp [h]))
      have e2:=ih (own x.Kind+1) c (hkids c (by simp [h]))
      simp only [lw_app,lw,List.map_cons,List.sum_cons]
      omega
   split
   ·rename_i c
    have:=nmd_len (hM (.inr (.inr (.inl c))))
    rw [lw]; omega
   split
   ·rename_i c
    have:=nmd_len (hM (.inr (.inl c)))
    simp [lw]; omega
   split
   ·simp [lw]; omega
   split
   ·rename_i c
    have:=nmd_len (hM (.inr (.inr (.inr c))))
    simp [lw]; omega
   split
   ·simp [lw]; omega
   ·simp [lw]; omega
  rw [wE,nE]
  split
  ·rw [lw,lw_app]
   simp [lw]
   omega
  ·omega
theorem lw_S:∀ (k:Nat) (x:TStat),FmS k x→lw (wS k x)≤100*nS k x:=by
 intro k
 induction k with
 | zero=>intro x h; exact h.elim
 | succ k ih =>
  intro x hx
  obtain ⟨h1,h9,hX,hN,hBd,hEl⟩:=hx
  have hB:∀ l:List TStat,(∀ y ∈ l,FmS k y)→lw (wBody (wS k) l)≤100*(l.map (nS k)).sum+4:=by
   intro l hl
   have:=lw_flat (wS k) (nS k) 0 l fun y hy=>ih y (hl y hy)
   rw [wBody,lw,lw_app]
   simp [lw]
   omega
  have hE:x.Kind≠6→lw (wE k 1 x.X)≤100*nE k x.X:=fun h=>lw_E k 1 x.X (hX h)
  have eN:x.Kind=1∨x.Kind=2∨x.Kind=7→x.Name.length≤12:=fun h=>nmd_len (hN h)
  rw [wS,nS]
  by_cases c6:x.Kind=6
  ·rw [if_neg (by omega),if_neg (by omega),if_neg (by omega),if_neg (by omega),if_neg (by omega),if_pos c6]
   simp [lw]; omega
  have hE:=hE c6
  simp only [if_neg c6]
  by_cases c3:x.Kind=3
  ·have b1:=hB x.Body (hBd (.inl c3)).2
   have b2:=hB x.Else (hEl c3).2
   rw [if_pos c3,if_pos (show x.Kind=3∨x.Kind=4 from .inl c3),if_pos c3,lw,lw_app,lw_app]
   split
   ·simp [lw]; omega
   ·simp [lw]; omega
  rw [if_neg c3]
  by_cases c4:x.Kind=4
  ·have b1:=hB x.Body (hBd (.inr c4)).2
   rw [if_pos c4,if_pos (show x.Kind=3∨x.Kind=4 from .inr c4),if_neg c3,lw,lw_app]
   simp; omega
  rw [if_neg c4,if_neg (show ¬ (x.Kind=3∨x.Kind=4) by omega),if_neg c3]
  by_cases c1:x.Kind=1
  ·have:=eN (.inl c1)
   rw [if_pos c1]
   simp only [lw,lw_app,List.length_cons,List.length_nil]; omega
  rw [if_neg c1]
  by_cases c2:x.Kind=2
  ·have:=eN (.inr (.inl c2))
   rw [if_pos c2]
   simp only [lw,lw_app,List.length_cons,List.length_nil]; omega
  rw [if_neg c2]
  by_cases c7:x.Kind=7
  ·have:=eN (.inr (.inr c7))
   rw [if_pos c7]
   simp only [lw,lw_app,List.length_cons,List.length_nil]; omega
  rw [if_neg c7,lw,lw_app]
  split
  ·simp only [lw,List.length_cons,List.length_nil]; omega
  split
  ·simp only [lw,List.length_cons,List.length_nil]; omega
  ·simp only [lw,List.length_cons,List.length_nil]; omega
theorem wTy_len {t:TType} (h:TyF t):(wTy t).length≤12:=by
 obtain ⟨⟨h1,h2⟩,h3⟩:=h
 rw [wTy]
 split
 ·decide
 ·split
  ·decide
  ·exact nmd_len (h3 (by omega))
theorem lw_D {x:TDef} (hx:FmD x):lw (wD x)≤100*nD x+400:=by
 have hn:=nmd_len hx.nm
 have k1:=hx.k1
 have k4:=hx.k4
 have hB:x.Kind≠1→lw (wBody (wS 39) x.Body)≤100*(x.Body.map (nS 39)).sum+4:=by
  intro hk
  have:=lw_flat (wS 39) (nS 39) 0 x.Body fun y hy=>lw_S 39 y ((hx.bo hk).2 y hy)
  rw [wBody,lw,lw_app]
  simp [lw]
  omega
 have hP:x.Kind=2∨x.Kind=3→lw (wPs x.Params)≤4+28*6:=by
  intro hk
  obtain ⟨h6,hq⟩:=hx.ps hk
  have hT:=lw_flat (fun q:TParam=>[44]::q.Name::[wTy q.Typ]) (fun _=>0) 28 x.Params fun q hq'=>by
   have a:=nmd_len (hq q hq').1
   have b:=wTy_len (hq q hq').2
   simp [lw]; omega
  have e0:(x.Params.map fun _=>0).sum=0:=by
   generalize x.Params=P
   induction P with
   | nil=>rfl
   | cons q P ih=>simpa using ih
  rw [e0] at hT
  have e:lw (wPs x.Params)≤4+lw (x.Params.map fun q:TParam=>[44]::q.Name::[wTy q.Typ]).flatten:=by
   cases x.Params with
   | nil=>simp [wPs,lw]
   | cons q l =>
    simp only [wPs,wPT,lw,lw_app,List.map_cons,List.flatten_cons,List.length_cons,List.length_nil]
    omega
  omega
 unfold wD
 rw [nD]
 by_cases c1:x.Kind=1
 ·have a:=wTy_len (hx.ty (by omega))
  obtain ⟨p1,p2⟩:=hx.cp c1
  have b:=itoa_len (N:=x.Cap) (by omega) (by omega)
  rw [if_pos c1]
  simp only [lw,List.length_cons,List.length_nil]
  omega
 have hB:=hB c1
 rw [if_neg c1,if_pos c1]
 by_cases c4:x.Kind=4
 ·rw [if_pos c4]
  simp only [lw,List.length_cons,List.length_nil]
  omega
 have hP:=hP (by omega)
 have a:=wTy_len (hx.ty c4)
 rw [if_neg c4]
 by_cases c2:x.Kind=2
 ·rw [if_pos c2]
  simp only [lw,lw_app,List.length_cons,List.length_nil]
  omega
 ·have b:=wTy_len (hx.tk (by omega))
  rw [if_neg c2]
  simp only [lw,lw_app,List.length_cons,List.length_nil]
  omega
theorem lw_P {l:List TDef} (hl:l.length≤30) (hF:∀ x ∈ l,FmD x) (hn:(l.map nD).sum≤2000):lw (wP l)≤300000:=by
 have:=lw_flat wD nD 400 l fun x hx=>lw_D (hF x hx)
 rw [wP]
 omega
theorem print_l1_t {fu:Nat} (hf:200≤fu) {l:List TDef} (hl:l.length≤30) (hF:∀ x ∈ l,FmD x):∀ (m i:Nat) (b:Wd),i≤l.length→l.length<m+i→b.length+lw (((l.drop i).map wD).flatten)≤4294967296 →
  syn_print_l1 fu l m i b=some (if 6000<(ad b ((l.drop i).map wD).flatten).length then ([],⟨4,0⟩) else (ad b ((l.drop i).map wD).flatten,⟨0,0⟩)):=by
 intro m
 induction m with
 | zero=>intro i b h1 h2; omega
 | succ m ih =>
  intro i b h1 h2 h3
  rw [syn_print_l1]
  by_cases c:i<l.length
  ·rw [if_pos (by omega),at_nat,List.getElem?_eq_getElem c,bS]
   rw [List.drop_eq_getElem_cons c,List.map_cons,List.flatten_cons] at h3 ⊢
   rw [lw_app] at h3
   have l1:=ad_len (wD l[i]) b
   rw [pdef_t hf (hF _ (List.getElem_mem c)) (by omega),bS,i64_ok (by omega),bS,show ((i:Int)+1)=((i+1:Nat):Int) from rfl,ih (i+1) _ (by omega) (by omega) (by omega),ad2]
  ·rw [if_neg (by omega),List.drop_eq_nil_of_le (by omega),bd_len,bS]
   simp only [List.map_nil,List.flatten_nil,ad]
   by_cases h:6000<b.length
   ·rw [if_pos (by omega),if_pos h]
   ·rw [if_neg (by omega),if_neg h]
theorem wP_head {l:List TDef}:∀ w t,wP l=w::t→w≠[]:=by
 intro w t h
 cases l with
 | nil=>cases h
 | cons x l =>
  rw [wP,List.map_cons,List.flatten_cons] at h
  unfold wD at h
  split at h
  ·simp only [List.cons_append,List.cons.injEq] at h; rw [← h.1]; simp
  split at h
  ·simp only [List.cons_append,List.cons.injEq] at h; rw [← h.1]; simp
  split at h
  ·simp only [List.cons_append,List.cons.injEq] at h; rw [← h.1]; simp
  ·simp only [List.cons_append,List.cons.injEq] at h; rw [← h.1]; simp
theorem print_t {fu:Nat} (hf:300≤fu) (l:List TDef):∃ f,syn_wrong fu l=some f∧((f.Err≠0∧syn_print fu l=some ([],f))∨(f.Err=0∧OkP l∧syn_print fu l=some (if 6000<(jn (wP l)).length then ([],⟨4,0⟩) else (jn (wP l),⟨0,0⟩)))):=by
 obtain ⟨f,h1,h2⟩:=syn_wrong_t fu (by omega) l
 refine ⟨f,h1,?_⟩
 by_cases z:f.Err=0
 ·obtain ⟨-,ok⟩:=h2 z
  obtain ⟨hl,hF⟩:=form_t hf h1 z
  refine .inr ⟨z,ok,?_⟩
  have hb:=lw_P hl hF ok.n
  have:=print_l1_t (fu:=fu) (by omega) hl hF (l.length+1) 0 [] (by omega) (by omega) (by rw [List.drop_zero]; unfold wP at hb; simp; omega)
  rw [syn_print,h1,bS,if_neg (by simpa using z)]
  show syn_print_l1 fu l (l.length+1) ((0:Nat):Int) []=_
  rw [this,List.drop_zero]
  have e:ad [] (l.map wD).flatten=jn (wP l):=ad_jn wP_head
  rw [e]
 ·exact .inl ⟨z,by rw [syn_print,h1,bS,if_pos z]⟩
theorem law_semaw_ok (k:Nat) (l:List TDef) (hl:SzP k l):law_semaw (k+60001) l=some true:=by
 obtain ⟨f,h1,h2⟩:=print_t (fu:=k+60001) (by omega) l
 rw [law_semaw,l3_alive_gen,bS,if_pos rfl]
 rcases h2 with ⟨z,h⟩ | ⟨z,ok,h⟩
 ·rw [h,bS,if_pos z]
 ·rw [h,bS]
  by_cases c:6000<(jn (wP l)).length
  ·rw [if_pos c,if_pos (by decide)]
  ·rw [if_neg c,if_neg (by simp)]
   obtain ⟨e,r,hr⟩:=owners_bare (k+60001) k (by omega) l hl
   rw [read_bare (by omega) hl h1 z (by omega),bS,if_pos rfl,sema_check,e,hr,bS,bS,sema_check,hr,bS,bS]
   simp [andL]
end Go.Y
