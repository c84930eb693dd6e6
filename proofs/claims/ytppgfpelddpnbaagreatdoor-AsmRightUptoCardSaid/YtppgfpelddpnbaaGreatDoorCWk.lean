/- Texts of Wk. -/
import Derived.Tactics
import Derived.Defers
import Derived.Recover
import Derived.Lib.Strings
import Derived.Laws.Append
import Derived.Below
import Derived.Laws.AppendOwn
set_option linter.unusedSimpArgs false
set_option linter.unusedVariables false
set_option linter.unusedSectionVars false
namespace Go.Wk
open Go.RowKit
def Lk {α:Type} (l:List α) (n:Nat) (v:α):Prop:=l[n]?=some v
def Pt {α:Type} (l:List α) (n:Nat) (v:α) (l':List α):Prop:=l.set n v=l'
theorem d0 {α:Type} {v:α} {l:List α}:Lk (v::l) 0 v:=rfl
theorem p0 {α:Type} {x v:α} {l:List α}:Pt (x::l) 0 v (v::l):=rfl
theorem d1 {α:Type} {a0:α} {v:α} {l:List α}:Lk (a0::v::l) 1 v:=rfl
theorem p1 {α:Type} {a0:α} {x v:α} {l:List α}:Pt (a0::x::l) 1 v (a0::v::l):=rfl
theorem d2 {α:Type} {a0 a1:α} {v:α} {l:List α}:Lk (a0::a1::v::l) 2 v:=rfl
theorem p2 {α:Type} {a0 a1:α} {x v:α} {l:List α}:Pt (a0::a1::x::l) 2 v (a0::a1::v::l):=rfl
theorem d3 {α:Type} {a0 a1 a2:α} {v:α} {l:List α}:Lk (a0::a1::a2::v::l) 3 v:=rfl
theorem p3 {α:Type} {a0 a1 a2:α} {x v:α} {l:List α}:Pt (a0::a1::a2::x::l) 3 v (a0::a1::a2::v::l):=rfl
theorem d4 {α:Type} {a0 a1 a2 a3:α} {v:α} {l:List α}:Lk (a0::a1::a2::a3::v::l) 4 v:=rfl
theorem p4 {α:Type} {a0 a1 a2 a3:α} {x v:α} {l:List α}:Pt (a0::a1::a2::a3::x::l) 4 v (a0::a1::a2::a3::v::l):=rfl
theorem d5 {α:Type} {a0 a1 a2 a3 a4:α} {v:α} {l:List α}:Lk (a0::a1::a2::a3::a4::v::l) 5 v:=rfl
theorem p5 {α:Type} {a0 a1 a2 a3 a4:α} {x v:α} {l:List α}:Pt (a0::a1::a2::a3::a4::x::l) 5 v (a0::a1::a2::a3::a4::v::l):=rfl
theorem d6 {α:Type} {a0 a1 a2 a3 a4 a5:α} {v:α} {l:List α}:Lk (a0::a1::a2::a3::a4::a5::v::l) 6 v:=rfl
theorem p6 {α:Type} {a0 a1 a2 a3 a4 a5:α} {x v:α} {l:List α}:Pt (a0::a1::a2::a3::a4::a5::x::l) 6 v (a0::a1::a2::a3::a4::a5::v::l):=rfl
theorem d7 {α:Type} {a0 a1 a2 a3 a4 a5 a6:α} {v:α} {l:List α}:Lk (a0::a1::a2::a3::a4::a5::a6::v::l) 7 v:=rfl
theorem p7 {α:Type} {a0 a1 a2 a3 a4 a5 a6:α} {x v:α} {l:List α}:Pt (a0::a1::a2::a3::a4::a5::a6::x::l) 7 v (a0::a1::a2::a3::a4::a5::a6::v::l):=rfl
theorem d8 {α:Type} {a0 a1 a2 a3 a4 a5 a6 a7:α} {v:α} {l:List α}:Lk (a0::a1::a2::a3::a4::a5::a6::a7::v::l) 8 v:=rfl
theorem p8 {α:Type} {a0 a1 a2 a3 a4 a5 a6 a7:α} {x v:α} {l:List α}:Pt (a0::a1::a2::a3::a4::a5::a6::a7::x::l) 8 v (a0::a1::a2::a3::a4::a5::a6::a7::v::l):=rfl
theorem d9 {α:Type} {a0 a1 a2 a3 a4 a5 a6 a7 a8:α} {v:α} {l:List α}:Lk (a0::a1::a2::a3::a4::a5::a6::a7::a8::v::l) 9 v:=rfl
theorem p9 {α:Type} {a0 a1 a2 a3 a4 a5 a6 a7 a8:α} {x v:α} {l:List α}:Pt (a0::a1::a2::a3::a4::a5::a6::a7::a8::x::l) 9 v (a0::a1::a2::a3::a4::a5::a6::a7::a8::v::l):=rfl
theorem ds {α:Type} {a0 a1 a2 a3 a4 a5 a6 a7 a8 a9 v:α} {l:List α} {n:Nat} (h:Lk l n v):Lk (a0::a1::a2::a3::a4::a5::a6::a7::a8::a9::l) (n+10) v:=h
theorem ps {α:Type} {a0 a1 a2 a3 a4 a5 a6 a7 a8 a9 v:α} {l l':List α} {n:Nat} (h:Pt l n v l'):Pt (a0::a1::a2::a3::a4::a5::a6::a7::a8::a9::l) (n+10) v (a0::a1::a2::a3::a4::a5::a6::a7::a8::a9::l'):=by unfold Pt at *; subst h; rfl
def F (fr:List Value) (ds:List Deferred):Act:=⟨⟨fr⟩,ds⟩
def Ev (fr:List Value) (x:Operand) (v:Value):Prop:=∀ ds,(F fr ds).eval x=v
theorem et {fr:List Value} {n:Nat} {v:Value} (h:Lk fr n v):Ev fr (.tmp n) v:=by
 intro ds
 unfold Lk at h
 simp [F,Act.eval,h]
theorem ec {fr:List Value} {v:Value}:Ev fr (.const v) v:=fun _=>rfl
theorem ef {fr:List Value} {f:Nat}:Ev fr (.func f) (.func (.func f) #[] #[]):=fun _=>rfl
def Dt (fr:List Value) (dst:Option Tmp) (v:Value) (fr':List Value):Prop:=∀ ds,(F fr ds).put dst v=F fr' ds
theorem dn {fr:List Value} {v:Value}:Dt fr none v fr:=fun _=>rfl
theorem dt {fr fr':List Value} {n:Nat} {v:Value} (h:Pt fr n v fr'):Dt fr (some n) v fr':=by
 intro ds
 unfold Pt at h
 subst h
 simp [F,Act.put]
theorem Dt.rw {fr fr':List Value} {dst:Option Tmp} {v:Value} (h:Dt fr dst v fr') {K:Act→World→Prop} {ds:List Deferred} {w:World} (k:K (F fr' ds) w):K ((F fr ds).put dst v) w:=by
 rw [h ds]; exact k
def Evs (fr:List Value) (xs:List Operand) (vs:List Value):Prop:=∀ ds,xs.map (F fr ds).eval=vs
theorem e0 {fr:List Value}:Evs fr [] []:=fun _=>rfl
theorem e1 {fr:List Value} {x:Operand} {v:Value} {xs:List Operand} {vs:List Value} (h:Ev fr x v) (hs:Evs fr xs vs):Evs fr (x::xs) (v::vs):=by
 intro ds
 simp [h ds,hs ds]
structure CW (P:Program) (c:Code) (Q:Exit→Act→World→Prop) (fr:List Value) (ds:List Deferred) (w:World):Prop where
 out:c.wp P Q (F fr ds) w
structure WL (P:Program) (ops:Array Oper) (Q:Exit→Act→World→Prop) (l:List Oper) (fr:List Value) (ds:List Deferred) (w:World):Prop where
 out:wpList P ops Q l (F fr ds) w
structure OW (P:Program) (o:Oper) (fr:List Value) (ds:List Deferred) (w:World) (K:List Value→List Deferred→World→Prop) (Q:Exit→Act→World→Prop):Prop where
 out:∀ K2:Act→World→Prop,(∀ fr ds w,K fr ds w→K2 (F fr ds) w)→o.wp P (F fr ds) w K2 Q
def Nx (P:Program) (c:Code) (Q:Exit→Act→World→Prop):Act→World→Prop:=fun a w=>∃ fr ds,a=F fr ds∧CW P c Q fr ds w
section code
variable {P:Program} {Q:Exit→Act→World→Prop} {fr:List Value} {ds:List Deferred} {w:World}
theorem cseq {x y:Code} (h:CW P x (Exit.then (Nx P y Q) Q) fr ds w):CW P (.seq x y) Q fr ds w :=
 ⟨wp_seq (wp_mono h.out fun e a w hq=>by
  cases e with
  | normal=>obtain ⟨fr,ds,rfl,h⟩:=hq; exact h.out
  | exit id=>exact hq
  | goto l=>exact hq
  | ret=>exact hq
  | panic ch=>exact hq
  | outgrown=>exact hq)⟩
theorem creg {id:Nat} {l:List Oper} (h:WL P l.toArray Q l fr ds w):CW P (.region id l.toArray false) Q fr ds w:=⟨wp_region_lit h.out⟩
theorem cskip (h:Q .normal (F fr ds) w):CW P .skip Q fr ds w:=⟨wp_skip h⟩
theorem cret (h:Q .ret (F fr ds) w):CW P .ret Q fr ds w:=⟨wp_ret h⟩
theorem cexit {id:Nat} (h:Q (.exit id) (F fr ds) w):CW P (.exit id) Q fr ds w:=⟨wp_exit h⟩
theorem cblock {id:Nat} {c:Code} (h:CW P c (Exit.inBlock id Q) fr ds w):CW P (.block id c) Q fr ds w:=⟨wp_block h.out⟩
theorem cif {c:Operand} {x y:Code} {b:Bool} (hc:Ev fr c (.bool b)) (h1:b=true→CW P x Q fr ds w) (h2:b=false→CW P y Q fr ds w) :
  CW P (.cond c x y) Q fr ds w:=⟨wp_cond_split (hc ds) (fun h=>(h1 h).out) fun h=>(h2 h).out⟩
theorem cifd {c:Operand} {x y:Code} {p:Prop} [Decidable p] (hc:Ev fr c (.bool (decide p))) (h1:p→CW P x Q fr ds w) (h2:¬ p→CW P y Q fr ds w) :
  CW P (.cond c x y) Q fr ds w:=cif hc (fun h=>h1 (of_decide_eq_true h)) (fun h=>h2 (of_decide_eq_false h))
theorem cift {c:Operand} {x y:Code} (hc:Ev fr c (.bool true)) (h1:CW P x Q fr ds w):CW P (.cond c x y) Q fr ds w:=⟨wp_cond_true (hc ds) h1.out⟩
theorem ciff {c:Operand} {x y:Code} (hc:Ev fr c (.bool false)) (h1:CW P y Q fr ds w):CW P (.cond c x y) Q fr ds w:=⟨wp_cond_false (hc ds) h1.out⟩
theorem xn {c:Code} {Q':Exit→Act→World→Prop} (h:CW P c Q' fr ds w):Exit.then (Nx P c Q') Q .normal (F fr ds) w:=⟨fr,ds,rfl,h⟩
theorem xl {n:Act→World→Prop} {a:Act} (h:n a w):Exit.then n Q .normal a w:=h
theorem xe {n:Act→World→Prop} {a:Act} {id:Nat} (h:Q (.exit id) a w):Exit.then n Q (.exit id) a w:=h
theorem xr {n:Act→World→Prop} {a:Act} (h:Q .ret a w):Exit.then n Q .ret a w:=h
theorem bn {a:Act} {id:Nat} (h:Q .normal a w):Exit.inBlock id Q .normal a w:=h
theorem br {a:Act} {id:Nat} (h:Q .ret a w):Exit.inBlock id Q .ret a w:=h
theorem bh {a:Act} {id:Nat} (h:Q .normal a w):Exit.inBlock id Q (.exit id) a w:=by simpa [Exit.inBlock] using h
inductive Mk where
 | k
 | o (n:Nat)
 | i (v:Value)
def mrg (t:Nat→Value):List Mk→List Value→List Value
 | [],fr=>fr
 | _::_,[]=>[]
 | .k::ms,a::fr=>a::mrg t ms fr
 | .o n::ms,_::fr=>t n::mrg t ms fr
 | .i v::ms,_::fr=>v::mrg t ms fr
def Mg (t:Nat→Value) (ms:List Mk) (fr fr':List Value):Prop:=mrg t ms fr=fr'
theorem mz {t:Nat→Value} {l:List Value}:Mg t [] l l:=rfl
theorem mk {t:Nat→Value} {ms:List Mk} {a:Value} {l l':List Value} (h:Mg t ms l l'):Mg t (.k::ms) (a::l) (a::l'):=by unfold Mg at *; rw [mrg,h]
theorem mo {t:Nat→Value} {ms:List Mk} {n:Nat} {a:Value} {l l':List Value} (h:Mg t ms l l'):Mg t (.o n::ms) (a::l) (t n::l'):=by unfold Mg at *; rw [mrg,h]
theorem mi {t:Nat→Value} {ms:List Mk} {v a:Value} {l l':List Value} (h:Mg t ms l l'):Mg t (.i v::ms) (a::l) (v::l'):=by unfold Mg at *; rw [mrg,h]
theorem nrm {t:Nat→Value} {ms:List Mk} {a b:List Value} (e:Mg t ms a b) (h:Q .normal (F b ds) w):Q .normal (F (mrg t ms a) ds) w:=by rw [show mrg t ms a=b from e]; exact h
theorem cnrm {c:Code} {t:Nat→Value} {ms:List Mk} {a b:List Value} (e:Mg t ms a b) (h:CW P c Q b ds w):CW P c Q (mrg t ms a) ds w:=by rw [show mrg t ms a=b from e]; exact h
inductive Ag:List Mk→List Value→List Value→Prop where
 | z {l:List Value}:Ag [] l l
 | k {ms:List Mk} {a:Value} {l l':List Value} (h:Ag ms l l'):Ag (.k::ms) (a::l) (a::l')
 | o {ms:List Mk} {n:Nat} {a b:Value} {l l':List Value} (h:Ag ms l l'):Ag (.o n::ms) (a::l) (b::l')
 | i {ms:List Mk} {v a:Value} {l l':List Value} (h:Ag ms l l'):Ag (.i v::ms) (a::l) (v::l')
def opens:List Mk→List Nat
 | []=>[]
 | .o n::ms=>n::opens ms
 | .k::ms=>opens ms
 | .i _::ms=>opens ms
theorem mrg_congr {t t':Nat→Value}:∀ (ms:List Mk) (fr:List Value),(∀ n ∈ opens ms,t n=t' n)→mrg t ms fr=mrg t' ms fr
 | [],_,_=>rfl
 | _::_,[],_=>rfl
 | .k::ms,a::fr,h=>by rw [mrg,mrg,mrg_congr ms fr h]
 | .o n::ms,a::fr,h=>by rw [mrg,mrg,mrg_congr ms fr fun m hm=>h m (by simp [opens,hm]),h n (by simp [opens])]
 | .i v::ms,a::fr,h=>by rw [mrg,mrg,mrg_congr ms fr h]
theorem Ag.ex {ms:List Mk} {fr fr':List Value} (h:Ag ms fr fr') (hn:(opens ms).Nodup):∃ t,fr'=mrg t ms fr:=by
 induction h with
 | z=>exact ⟨fun _=>undef,rfl⟩
 | k _ ih=>obtain ⟨t,rfl⟩:=ih hn; exact ⟨t,rfl⟩
 | @o ms n a b l l' _ ih =>
  simp only [opens,List.nodup_cons] at hn
  obtain ⟨t,rfl⟩:=ih hn.2
  refine ⟨fun m=>if m=n then b else t m,?_⟩
  rw [mrg,if_pos rfl]
  congr 1
  refine mrg_congr _ _ fun m hm=>?_
  exact (if_neg (fun e:m=n=>hn.1 (by rw [← e]; exact hm))).symm
 | i _ ih=>obtain ⟨t,rfl⟩:=ih hn; exact ⟨t,rfl⟩
theorem cloop {c:Code} {α:Type} (T:List Nat) (hT:T.Nodup) (u:α→List Mk) (hu:∀ x,opens (u x)=T) (J:α→World→Prop) (mu:α→World→Nat) (x0:α) (h0:Ag (u x0) fr fr) (hJ:J x0 w)
  (round:∀ x t w,J x w→CW P c (Exit.then (fun a' w'=>∃ x' fr',a'=F fr' ds∧Ag (u x') fr fr'∧J x' w'∧mu x' w'<mu x w) Q) (mrg t (u x) fr) ds w) :
  CW P (.loop c) Q fr ds w:=by
 constructor
 intro b k cs
 have key:∀ n x t w,mu x w=n→J x w →
   ∃ e a' w',Q e a' w'∧Arrives P (lone (b.at (F (mrg t (u x) fr) ds) (.code c::.inLoop c::k)) cs w) b k cs e a' w':=by
  intro n
  induction n using Nat.strongRecOn with
  | _ n ih =>
   intro x t w hn hI
   obtain ⟨e,a₁,w₁,hq,harr⟩:=(round x t w hI).out b (.inLoop c::k) cs
   cases e with
   | normal =>
    obtain ⟨x',fr',rfl,hag,hI₁,hlt⟩:=hq
    obtain ⟨t',ht'⟩:=hag.ex (by rw [hu]; exact hT)
    obtain ⟨e₂,a₂,w₂,hq₂,harr₂⟩:=ih (mu x' w₁) (hn ▸ hlt) x' t' w₁ rfl hI₁
    rw [ht'] at harr
    exact ⟨e₂,a₂,w₂,hq₂,.of_steps (Steps.trans harr (.one step_inLoop)) harr₂⟩
   | exit id=>exact ⟨_,a₁,w₁,hq,.pass (x:=.inLoop c) rfl (fun _ _=>.inl (by simp)) harr⟩
   | goto l=>exact ⟨_,a₁,w₁,hq,.pass (x:=.inLoop c) rfl (fun _ _=>.inl (by simp)) harr⟩
   | ret=>exact ⟨_,a₁,w₁,hq,.pass (x:=.inLoop c) rfl (fun _ _=>.inl (by simp)) harr⟩
   | panic ch=>exact ⟨_,a₁,w₁,hq,.pass (x:=.inLoop c) rfl (fun _ _=>.inl (by simp)) harr⟩
   | outgrown=>exact ⟨_,a₁,w₁,hq,.pass (x:=.inLoop c) rfl (fun _ _=>.inl (by simp)) harr⟩
 obtain ⟨t0,ht0⟩:=h0.ex (by rw [hu]; exact hT)
 obtain ⟨e,a',w',hq,harr⟩:=key _ x0 t0 w rfl hJ
 rw [← ht0] at harr
 exact ⟨e,a',w',hq,.of_steps (.one step_loop) harr⟩
theorem CW.mono {c:Code} {Q':Exit→Act→World→Prop} (h:CW P c Q fr ds w) (hq:∀ e a w,Q e a w→Q' e a w):CW P c Q' fr ds w:=⟨wp_mono h.out hq⟩
theorem then_mono {R R':Act→World→Prop} (h:∀ a w,R a w→R' a w):∀ e a w,Exit.then R Q e a w→Exit.then R' Q e a w:=fun e a w hq=>by
 cases e with
 | normal=>exact h a w hq
 | exit id=>exact hq
 | goto l=>exact hq
 | ret=>exact hq
 | panic ch=>exact hq
 | outgrown=>exact hq
theorem Pt.same {α:Type} {l:List α} {n:Nat} {v:α} {l':List α} (h:Lk l n v) (hp:Pt l n v l'):l'=l:=by
 unfold Lk at h
 unfold Pt at hp
 subst hp
 obtain ⟨hn,rfl⟩:=List.getElem?_eq_some_iff.1 h
 exact List.set_getElem_self hn
theorem wsp {ops:Array Oper} {l:List Oper} {frt frf:List Value} {d:Nat} {b:Bool} (hl:Lk fr d (.bool b)) (ht:Pt fr d (.bool true) frt) (hf:Pt fr d (.bool false) frf)
  (h1:b=true→WL P ops Q l frt ds w) (h0:b=false→WL P ops Q l frf ds w):WL P ops Q l fr ds w:=by
 cases b with
 | true=>have:=h1 rfl; rw [Pt.same hl ht] at this; exact this
 | false=>have:=h0 rfl; rw [Pt.same hl hf] at this; exact this
theorem wspd {ops:Array Oper} {l:List Oper} {frt frf:List Value} {d:Nat} {p:Prop} [Decidable p] (hl:Lk fr d (.bool (decide p))) (ht:Pt fr d (.bool true) frt) (hf:Pt fr d (.bool false) frf)
  (h1:p→WL P ops Q l frt ds w) (h0:¬ p→WL P ops Q l frf ds w):WL P ops Q l fr ds w :=
 wsp hl ht hf (fun h=>h1 (of_decide_eq_true h)) (fun h=>h0 (of_decide_eq_false h))
end code
end Go.Wk
namespace Go.Wk
open Go.RowKit
def S (l:List UInt8):Value:=.string ⟨⟨l⟩⟩
section
variable {P:Program} {Q:Exit→Act→World→Prop} {K:List Value→List Deferred→World→Prop} {fr fr':List Value} {ds:List Deferred} {w:World} {ops:Array Oper} {rest:List Oper}
variable {dst:Option Tmp} {op:Op} {ty:TypeId} {pos:String} {after:Array Edge} {g:Option (Nat×Bool)}
theorem wnil (h:Q .normal (F fr ds) w):WL P ops Q [] fr ds w:=⟨h⟩
theorem wl (h:OW P ⟨dst,op,ty,pos,after,none⟩ fr ds w (WL P ops Q rest) Q):WL P ops Q (⟨dst,op,ty,pos,after,none⟩::rest) fr ds w:=by
 constructor
 unfold wpList
 rw [if_pos (by simp [Region.wanted])]
 exact .inl (h.out _ fun _ _ _ k=>k.out)
theorem wy {j d:Nat} {b:Bool} (hj:(ops[j]?).bind (·.dst)=some d) (hl:Lk fr d (.bool b)) (h:OW P ⟨dst,op,ty,pos,after,some (j,b)⟩ fr ds w (WL P ops Q rest) Q) :
  WL P ops Q (⟨dst,op,ty,pos,after,some (j,b)⟩::rest) fr ds w:=by
 constructor
 unfold wpList
 rw [if_pos (by
  unfold Lk at hl
  simp only [Region.wanted,yielded,hj,F]
  simp [hl])]
 exact .inl (h.out _ fun _ _ _ k=>k.out)
theorem wn {j d:Nat} {b b':Bool} (hj:(ops[j]?).bind (·.dst)=some d) (hl:Lk fr d (.bool b')) (hb:(b' == b)=false) (hp:Dt fr dst undef fr') (h:WL P ops Q rest fr' ds w) :
  WL P ops Q (⟨dst,op,ty,pos,after,some (j,b)⟩::rest) fr ds w:=by
 constructor
 unfold wpList
 rw [if_neg (by
  unfold Lk at hl
  simp only [Region.wanted,yielded,hj,F]
  simp [hl]
  simpa using hb)]
 exact hp.rw h.out
theorem wu {j d:Nat} {b:Bool} (hj:(ops[j]?).bind (·.dst)=some d) (hl:Lk fr d undef) (hp:Dt fr dst undef fr') (h:WL P ops Q rest fr' ds w) :
  WL P ops Q (⟨dst,op,ty,pos,after,some (j,b)⟩::rest) fr ds w:=by
 constructor
 unfold wpList
 rw [if_neg (by
  unfold Lk at hl
  simp only [Region.wanted,yielded,hj,F]
  simp [hl,undef])]
 exact hp.rw h.out
theorem op_v {o:Oper} {v:Value} {w':World} (hr:(execOp (F fr ds).eval o).run P w=.ok (.value v) w') (hp:Dt fr o.dst v fr') (h:K fr' ds w'):OW P o fr ds w K Q:=by
 constructor
 intro K2 hK
 unfold Oper.wp
 rw [hr,Oper.upon_value]
 exact hp.rw (hK _ _ _ h)
theorem op_u {o:Oper} {w':World} (hr:(execOp (F fr ds).eval o).run P w=.ok .skip w') (hp:Dt fr o.dst undef fr') (h:K fr' ds w'):OW P o fr ds w K Q:=by
 constructor
 intro K2 hK
 unfold Oper.wp
 rw [hr,Oper.upon_skip]
 exact hp.rw (hK _ _ _ h)
structure PU (P:Program) (o:Oper) (fr:List Value) (v:Value):Prop where
 out:∀ ds w,(execOp (F fr ds).eval o).run P w=.ok (.value v) w
theorem su {o:Oper} {v:Value} (hu:PU P o fr v) (hp:Dt fr o.dst v fr') (h:K fr' ds w):OW P o fr ds w K Q:=op_v (hu.out ds w) hp h
theorem u_move {x:Operand} {v:Value} (hx:Ev fr x v):PU P (Oper.mk dst (.move x) ty pos after g) fr (v):=⟨fun ds w=>by simp [execOp,hx ds]⟩
theorem s_move {x:Operand} {v:Value} (hx:Ev fr x v) (hp:Dt fr dst (v) fr') (h:K fr' ds w):OW P (Oper.mk dst (.move x) ty pos after g) fr ds w K Q:=su (u_move hx) hp h
theorem u_assign {x:Operand} {v:Value} (hx:Ev fr x v):PU P (Oper.mk dst (.assign x) ty pos after g) fr (v):=⟨fun ds w=>by simp [execOp,hx ds]⟩
theorem s_assign {x:Operand} {v:Value} (hx:Ev fr x v) (hp:Dt fr dst (v) fr') (h:K fr' ds w):OW P (Oper.mk dst (.assign x) ty pos after g) fr ds w K Q:=su (u_assign hx) hp h
theorem u_pickt {c x y:Operand} {v:Value} (hc:Ev fr c (.bool true)) (hx:Ev fr x v):PU P (Oper.mk dst (.pick c x y) ty pos after g) fr (v):=⟨fun ds w=>by simp [execOp,hx ds,hc ds,asBool]⟩
theorem s_pickt {c x y:Operand} {v:Value} (hc:Ev fr c (.bool true)) (hx:Ev fr x v) (hp:Dt fr dst (v) fr') (h:K fr' ds w):OW P (Oper.mk dst (.pick c x y) ty pos after g) fr ds w K Q:=su (u_pickt hc hx) hp h
theorem u_pickf {c x y:Operand} {v:Value} (hc:Ev fr c (.bool false)) (hx:Ev fr y v):PU P (Oper.mk dst (.pick c x y) ty pos after g) fr (v):=⟨fun ds w=>by simp [execOp,hx ds,hc ds,asBool]⟩
theorem s_pickf {c x y:Operand} {v:Value} (hc:Ev fr c (.bool false)) (hx:Ev fr y v) (hp:Dt fr dst (v) fr') (h:K fr' ds w):OW P (Oper.mk dst (.pick c x y) ty pos after g) fr ds w K Q:=su (u_pickf hc hx) hp h
theorem wr {n:Int} (h:-9223372036854775808≤n∧n≤9223372036854775807):IntKind.i64.wrap n=n:=by
 unfold IntKind.wrap
 simp [IntKind.bits,IntKind.signed]
 omega
theorem u_add {x y:Operand} {t t':TypeId} {k:IntKind} {a b c:Int} (hx:Ev fr x (.int k a)) (hy:Ev fr y (.int k b)) (hw:k.wrap (a+b)=c):PU P (Oper.mk dst (.binOp .add t x y t') ty pos after g) fr ((.int k c)):=by
 subst hw
 exact ⟨fun ds w=>by simp [execOp,hx ds,hy ds,eqGuard,binOp,Op.intArith]⟩
theorem u_sub {x y:Operand} {t t':TypeId} {k:IntKind} {a b c:Int} (hx:Ev fr x (.int k a)) (hy:Ev fr y (.int k b)) (hw:k.wrap (a - b)=c):PU P (Oper.mk dst (.binOp .sub t x y t') ty pos after g) fr ((.int k c)):=by
 subst hw
 exact ⟨fun ds w=>by simp [execOp,hx ds,hy ds,eqGuard,binOp,Op.intArith]⟩
theorem u_lss {x y:Operand} {t t':TypeId} {k:IntKind} {a b:Int} (hx:Ev fr x (.int k a)) (hy:Ev fr y (.int k b)):PU P (Oper.mk dst (.binOp .lss t x y t') ty pos after g) fr ((.bool (decide (a<b)))):=⟨fun ds w=>by simp [execOp,hx ds,hy ds,eqGuard,binOp,Op.intCmp]⟩
theorem s_lss {x y:Operand} {t t':TypeId} {k:IntKind} {a b:Int} (hx:Ev fr x (.int k a)) (hy:Ev fr y (.int k b)) (hp:Dt fr dst ((.bool (decide (a<b)))) fr') (h:K fr' ds w):OW P (Oper.mk dst (.binOp .lss t x y t') ty pos after g) fr ds w K Q:=su (u_lss hx hy) hp h
theorem u_leq {x y:Operand} {t t':TypeId} {k:IntKind} {a b:Int} (hx:Ev fr x (.int k a)) (hy:Ev fr y (.int k b)):PU P (Oper.mk dst (.binOp .leq t x y t') ty pos after g) fr ((.bool (decide (a≤b)))):=⟨fun ds w=>by simp [execOp,hx ds,hy ds,eqGuard,binOp,Op.intCmp]⟩
theorem s_leq {x y:Operand} {t t':TypeId} {k:IntKind} {a b:Int} (hx:Ev fr x (.int k a)) (hy:Ev fr y (.int k b)) (hp:Dt fr dst ((.bool (decide (a≤b)))) fr') (h:K fr' ds w):OW P (Oper.mk dst (.binOp .leq t x y t') ty pos after g) fr ds w K Q:=su (u_leq hx hy) hp h
theorem u_gtr {x y:Operand} {t t':TypeId} {k:IntKind} {a b:Int} (hx:Ev fr x (.int k a)) (hy:Ev fr y (.int k b)):PU P (Oper.mk dst (.binOp .gtr t x y t') ty pos after g) fr ((.bool (decide (b<a)))):=⟨fun ds w=>by simp [execOp,hx ds,hy ds,eqGuard,binOp,Op.intCmp]⟩
theorem s_gtr {x y:Operand} {t t':TypeId} {k:IntKind} {a b:Int} (hx:Ev fr x (.int k a)) (hy:Ev fr y (.int k b)) (hp:Dt fr dst ((.bool (decide (b<a)))) fr') (h:K fr' ds w):OW P (Oper.mk dst (.binOp .gtr t x y t') ty pos after g) fr ds w K Q:=su (u_gtr hx hy) hp h
theorem u_geq {x y:Operand} {t t':TypeId} {k:IntKind} {a b:Int} (hx:Ev fr x (.int k a)) (hy:Ev fr y (.int k b)):PU P (Oper.mk dst (.binOp .geq t x y t') ty pos after g) fr ((.bool (decide (b≤a)))):=⟨fun ds w=>by simp [execOp,hx ds,hy ds,eqGuard,binOp,Op.intCmp]⟩
theorem s_geq {x y:Operand} {t t':TypeId} {k:IntKind} {a b:Int} (hx:Ev fr x (.int k a)) (hy:Ev fr y (.int k b)) (hp:Dt fr dst ((.bool (decide (b≤a)))) fr') (h:K fr' ds w):OW P (Oper.mk dst (.binOp .geq t x y t') ty pos after g) fr ds w K Q:=su (u_geq hx hy) hp h
theorem u_eqi {x y:Operand} {t t':TypeId} {k:IntKind} {a b:Int} (hx:Ev fr x (.int k a)) (hy:Ev fr y (.int k b)):PU P (Oper.mk dst (.binOp .eql t x y t') ty pos after g) fr ((.bool (decide (a=b)))):=⟨fun ds w=>by simp [execOp,hx ds,hy ds,eqGuard,binOp,Op.intCmp]; rfl⟩
theorem s_eqi {x y:Operand} {t t':TypeId} {k:IntKind} {a b:Int} (hx:Ev fr x (.int k a)) (hy:Ev fr y (.int k b)) (hp:Dt fr dst ((.bool (decide (a=b)))) fr') (h:K fr' ds w):OW P (Oper.mk dst (.binOp .eql t x y t') ty pos after g) fr ds w K Q:=su (u_eqi hx hy) hp h
theorem u_nei {x y:Operand} {t t':TypeId} {k:IntKind} {a b:Int} (hx:Ev fr x (.int k a)) (hy:Ev fr y (.int k b)):PU P (Oper.mk dst (.binOp .neq t x y t') ty pos after g) fr ((.bool (decide (a≠b)))):=⟨fun ds w=>by
  simp [execOp,hx ds,hy ds,eqGuard,binOp,Op.intCmp]
  by_cases h:a=b <;> simp [h]⟩
theorem s_nei {x y:Operand} {t t':TypeId} {k:IntKind} {a b:Int} (hx:Ev fr x (.int k a)) (hy:Ev fr y (.int k b)) (hp:Dt fr dst ((.bool (decide (a≠b)))) fr') (h:K fr' ds w):OW P (Oper.mk dst (.binOp .neq t x y t') ty pos after g) fr ds w K Q:=su (u_nei hx hy) hp h
theorem u_not {x:Operand} {t:TypeId} {b:Bool} (hx:Ev fr x (.bool b)):PU P (Oper.mk dst (.unOp .not t x) ty pos after g) fr ((.bool (!b))):=⟨fun ds w=>by simp [execOp,hx ds,Op.unary]⟩
theorem s_not {x:Operand} {t:TypeId} {b:Bool} (hx:Ev fr x (.bool b)) (hp:Dt fr dst ((.bool (!b))) fr') (h:K fr' ds w):OW P (Oper.mk dst (.unOp .not t x) ty pos after g) fr ds w K Q:=su (u_not hx) hp h
theorem u_cat {x y:Operand} {t t':TypeId} {a b:List UInt8} (hx:Ev fr x (S a)) (hy:Ev fr y (S b)) (hb:a.length+b.length≤9223372036854775807):PU P (Oper.mk dst (.binOp .add t x y t') ty pos after g) fr ((S (a++b))):=by
 have hs1:(ByteArray.mk ⟨a⟩).size=a.length:=rfl
 have hs2:(ByteArray.mk ⟨b⟩).size=b.length:=rfl
 have hn:¬ (((((ByteArray.mk ⟨a⟩).size+(ByteArray.mk ⟨b⟩).size:Nat):Int)) > IntKind.i64.max):=by
  rw [hs1,hs2]; unfold IntKind.max; simp [IntKind.bits,IntKind.signed]; omega
 have hab:ByteArray.mk ⟨a⟩++ByteArray.mk ⟨b⟩=ByteArray.mk ⟨a++b⟩:=by
  apply ByteArray.ext
  rw [ByteArray.data_append]
  simp
 refine ⟨fun ds w=>?_⟩
 have h1:=hx ds
 have h2:=hy ds
 simp only [execOp,h1,h2,S,eqGuard,binOp,Op.stringOp]
 rw [if_neg hn,hab]
 simp
theorem u_eqs {x y:Operand} {t t':TypeId} {a b:List UInt8} (hx:Ev fr x (S a)) (hy:Ev fr y (S b)):PU P (Oper.mk dst (.binOp .eql t x y t') ty pos after g) fr ((.bool (decide (a=b)))):=by
 refine ⟨fun ds w=>?_⟩
 have h1:=hx ds
 have h2:=hy ds
 simp [execOp,h1,h2,S,eqGuard,binOp,Op.stringOp]
 by_cases e:a=b <;> simp [e]
theorem s_eqs {x y:Operand} {t t':TypeId} {a b:List UInt8} (hx:Ev fr x (S a)) (hy:Ev fr y (S b)) (hp:Dt fr dst ((.bool (decide (a=b)))) fr') (h:K fr' ds w):OW P (Oper.mk dst (.binOp .eql t x y t') ty pos after g) fr ds w K Q:=su (u_eqs hx hy) hp h
theorem u_nes {x y:Operand} {t t':TypeId} {a b:List UInt8} (hx:Ev fr x (S a)) (hy:Ev fr y (S b)):PU P (Oper.mk dst (.binOp .neq t x y t') ty pos after g) fr ((.bool (decide (a≠b)))):=by
 refine ⟨fun ds w=>?_⟩
 have h1:=hx ds
 have h2:=hy ds
 simp [execOp,h1,h2,S,eqGuard,binOp,Op.stringOp]
 by_cases e:a=b <;> simp [e]
theorem s_nes {x y:Operand} {t t':TypeId} {a b:List UInt8} (hx:Ev fr x (S a)) (hy:Ev fr y (S b)) (hp:Dt fr dst ((.bool (decide (a≠b)))) fr') (h:K fr' ds w):OW P (Oper.mk dst (.binOp .neq t x y t') ty pos after g) fr ds w K Q:=su (u_nes hx hy) hp h
theorem u_lens {x:Operand} {t:TypeId} {a:List UInt8} (ht:P.underlying t=some .string) (hx:Ev fr x (S a)):PU P (Oper.mk dst (.call { callee:=.builtin .len,args:=#[x],argTypes:=#[t] }) ty pos after g) fr ((.int .i64 a.length)):=by
 refine ⟨fun ds w=>?_⟩
 have h1:=hx ds
 have hs1:(ByteArray.mk ⟨a⟩).size=a.length:=rfl
 simp [execOp,h1,resolve,invoke,builtin,S,Builtin.len_,run_underlying ht,goInt,hs1]
theorem s_lens {x:Operand} {t:TypeId} {a:List UInt8} (ht:P.underlying t=some .string) (hx:Ev fr x (S a)) (hp:Dt fr dst ((.int .i64 a.length)) fr') (h:K fr' ds w):OW P (Oper.mk dst (.call { callee:=.builtin .len,args:=#[x],argTypes:=#[t] }) ty pos after g) fr ds w K Q:=su (u_lens ht hx) hp h
theorem u_lensl {x:Operand} {t e:TypeId} {a:Option Addr} {n c:Nat} (ht:P.underlying t=some (.slice e)) (hx:Ev fr x (.slice a n c)):PU P (Oper.mk dst (.call { callee:=.builtin .len,args:=#[x],argTypes:=#[t] }) ty pos after g) fr ((.int .i64 n)):=by
 refine ⟨fun ds w=>?_⟩
 have h1:=hx ds
 simp [execOp,h1,resolve,invoke,builtin,Builtin.len_,run_underlying ht,goInt]
theorem s_lensl {x:Operand} {t e:TypeId} {a:Option Addr} {n c:Nat} (ht:P.underlying t=some (.slice e)) (hx:Ev fr x (.slice a n c)) (hp:Dt fr dst ((.int .i64 n)) fr') (h:K fr' ds w):OW P (Oper.mk dst (.call { callee:=.builtin .len,args:=#[x],argTypes:=#[t] }) ty pos after g) fr ds w K Q:=su (u_lensl ht hx) hp h
theorem u_extr {x:Operand} {i:Nat} {vs:List Value} {v:Value} (hx:Ev fr x (.tuple ⟨vs⟩)) (hl:Lk vs i v):PU P (Oper.mk dst (.extract x i) ty pos after g) fr (v):=by
 refine ⟨fun ds w=>?_⟩
 have h1:=hx ds
 unfold Lk at hl
 simp [execOp,h1,Instr.extract,hl]
theorem s_extr {x:Operand} {i:Nat} {vs:List Value} {v:Value} (hx:Ev fr x (.tuple ⟨vs⟩)) (hl:Lk vs i v) (hp:Dt fr dst (v) fr') (h:K fr' ds w):OW P (Oper.mk dst (.extract x i) ty pos after g) fr ds w K Q:=su (u_extr hx hl) hp h
structure CallsV (P:Program) (f:FuncId) (args:List Value) (w:World) (R:Value→World→Prop):Prop where
 out:Calls P f ⟨args⟩ w fun e w'=>match e with | .returned v=>R v w' | _=>False
theorem CallsV.mono {f:FuncId} {args:List Value} {R R':Value→World→Prop} (h:CallsV P f args w R) (hr:∀ v w',R v w'→R' v w'):CallsV P f args w R' :=
 ⟨Calls.mono h.out fun e w' he=>by
  cases e with
  | returned v=>exact hr v w' he
  | panicked c=>exact he.elim
  | outgrown=>exact he.elim⟩
class IsFn (P:Program) (f:FuncId):Prop where
 out:∀ args w,(callFunc f args).run P w=.ok (.enter f args) w
theorem isFn_of {f : FuncId} {fn : Func} (hf : P.funcs[f]? = some fn) (hb : fn.body.isSome = true) (hn : (fn.name == "runtime.NumGoroutine") = false) : IsFn P f := by
 constructor
 intro args w
 have hb':¬ fn.body=none:=by cases h:fn.body <;> simp_all
 have hn' : ¬ fn.name = "runtime.NumGoroutine" := by simpa using hn
 simp only [callFunc,Sem.run_bind,run_program,Result.andThen_ok,hf,beq_iff_eq,if_neg hn',Option.isNone_iff_eq_none,if_neg hb',Sem.run_pure]
def Put (fr:List Value) (dst:Option Tmp) (v:Value) (K:List Value→Prop):Prop:=∀ fr',Dt fr dst v fr'→K fr'
theorem Dt.uniq {fr a b:List Value} {dst:Option Tmp} {v:Value} (h:Dt fr dst v a) (k:Dt fr dst v b):a=b:=by
 have:=(h []).symm.trans (k [])
 unfold F at this
 simpa using this
theorem pu {v:Value} {K:List Value→Prop} (hp:Dt fr dst v fr') (h:K fr'):Put fr dst v K:=fun fr'' h''=>by rw [Dt.uniq h'' hp]; exact h
theorem dt_ex (fr:List Value) (dst:Option Tmp) (v:Value):∃ fr',Dt fr dst v fr':=by
 cases dst with
 | none=>exact ⟨fr,dn⟩
 | some n=>exact ⟨fr.set n v,dt rfl⟩
theorem op_call {o:Oper} {f:FuncId} {args:List Value} {R:Value→World→Prop} (hr:(execOp (F fr ds).eval o).run P w=.ok (.enter f ⟨args⟩) w) (hc:CallsV P f args w R)
  (h:∀ v w',R v w'→Put fr o.dst v fun fr'=>K fr' ds w'):OW P o fr ds w K Q:=by
 constructor
 intro K2 hK
 unfold Oper.wp
 rw [hr,Oper.upon_enter]
 exact Calls.mono hc.out fun e w' he=>by
  cases e with
  | returned v =>
   obtain ⟨fr',hd⟩:=dt_ex fr o.dst v
   exact hd.rw (hK _ _ _ (h v w' he fr' hd))
  | panicked c=>exact he.elim
  | outgrown=>exact he.elim
theorem run_call {f:Operand} {xs:List Operand} {tys:Array TypeId} {k:FuncId} {cap vs:List Value} (hk:IsFn P k) (hf:Ev fr f (.func (.func k) #[] ⟨cap⟩)) (hs:Evs fr xs vs) :
  (execOp (F fr ds).eval (Oper.mk dst (.call { callee:=.value f,args:=⟨xs⟩,argTypes:=tys }) ty pos after g)).run P w=.ok (.enter k ⟨vs++cap⟩) w:=by
 have h1:=hf ds
 have h2:=hs ds
 have hk':=hk.out ⟨vs++cap⟩ w
 simp [execOp,resolve,h1,Deferred.ofValue,invoke,h2,hk']
theorem s_callv {f:Operand} {xs:List Operand} {tys:Array TypeId} {k:FuncId} {vs:List Value} {R:Value→World→Prop} (hk:IsFn P k) (hf:Ev fr f (.func (.func k) #[] #[])) (hs:Evs fr xs vs)
  (hc:CallsV P k vs w R) (h:∀ v w',R v w'→Put fr dst v fun fr'=>K fr' ds w'):OW P (Oper.mk dst (.call { callee:=.value f,args:=⟨xs⟩,argTypes:=tys }) ty pos after g) fr ds w K Q:=by
 refine op_call (args:=vs) ?_ hc h
 have:=run_call (w:=w) (dst:=dst) (ty:=ty) (pos:=pos) (after:=after) (g:=g) (tys:=tys) (ds:=ds) (cap:=[]) hk hf hs
 simpa using this
theorem s_callc {f:Operand} {xs:List Operand} {tys:Array TypeId} {k:FuncId} {cap vs:List Value} {R:Value→World→Prop} (hk:IsFn P k) (hf:Ev fr f (.func (.func k) #[] ⟨cap⟩)) (hs:Evs fr xs vs)
  (hc:CallsV P k (vs++cap) w R) (h:∀ v w',R v w'→Put fr dst v fun fr'=>K fr' ds w'):OW P (Oper.mk dst (.call { callee:=.value f,args:=⟨xs⟩,argTypes:=tys }) ty pos after g) fr ds w K Q :=
 op_call (run_call hk hf hs) hc h
def Post (P:Program) (fn:Func) (R:Value→World→Prop):Exit→Act→World→Prop:=bodyPost P fn fun e w'=>match e with | .returned v=>R v w' | _=>False
theorem enter {f:FuncId} {fn:Func} {c:Code} {args frm:List Value} {R:Value→World→Prop} (hf:P.funcs[f]?=some fn) (hb:fn.body=some c)
  (hfr:args++List.replicate (fn.ntmps - args.length) undef=frm) (h:CW P c (Post P fn R) frm [] w):CallsV P f args w R:=by
 refine ⟨calls_of_wp hf hb ?_⟩
 subst hfr
 have:(⟨args⟩:Array Value)++Array.replicate (fn.ntmps - args.length) undef=⟨args++List.replicate (fn.ntmps - args.length) undef⟩:=by
  apply Array.ext'
  simp
 have h:=h.out
 simpa [F,Post,this] using h
theorem ret1 {fn:Func} {R:Value→World→Prop} {t:Tmp} {v:Value} (hr:fn.results=#[.tmp t]) (hl:Lk fr t v) (h:R v w):Post P fn R .ret (F fr []) w:=by
 refine bodyPost_ret (v:=v) ?_ rfl h
 unfold Lk at hl
 rw [results_tmp hr]
 simp [F,hl]
theorem ret2 {fn:Func} {R:Value→World→Prop} {t u:Tmp} {v v':Value} (hr:fn.results=#[.tmp t,.tmp u]) (hl:Lk fr t v) (hl':Lk fr u v') (h:R (.tuple #[v,v']) w):Post P fn R .ret (F fr []) w:=by
 refine bodyPost_ret (v:=.tuple #[v,v']) ?_ rfl h
 unfold Lk at hl hl'
 rw [results_tmp2 hr]
 simp [F,hl,hl']
theorem end0 {fn:Func} {R:Value→World→Prop} (hr:fn.results=#[]) (h:R (.tuple #[]) w):Post P fn R .normal (F fr []) w :=
 bodyPost_end (results_none hr _ _ _) rfl h
theorem ret0 {fn:Func} {R:Value→World→Prop} (hr:fn.results=#[]) (h:R (.tuple #[]) w):Post P fn R .ret (F fr []) w :=
 bodyPost_ret (results_none hr _ _ _) rfl h
end
end Go.Wk
namespace Go.Wk
open Go.RowKit
structure Keeps (S:Nat→Prop) (w w':World):Prop where
 os:w'.os=w.os
 tape:w'.tape=w.tape
 output:w'.output=w.output
 size:w.heap.size≤w'.heap.size
 blk:∀ k,k<w.heap.size→S k→w'.heap[k]?=w.heap[k]?
def Grow (w w':World):Prop:=Keeps (fun _=>True) w w'
theorem Keeps.refl {S:Nat→Prop} (w:World):Keeps S w w:=⟨rfl,rfl,rfl,Nat.le_refl _,fun _ _ _=>rfl⟩
theorem Keeps.trans {S:Nat→Prop} {a b c:World} (h:Keeps S a b) (k:Keeps S b c):Keeps S a c :=
 ⟨k.os.trans h.os,k.tape.trans h.tape,k.output.trans h.output,Nat.le_trans h.size k.size,fun i hi hs=>(k.blk i (Nat.lt_of_lt_of_le hi h.size) hs).trans (h.blk i hi hs)⟩
theorem Keeps.mono {S S':Nat→Prop} {a b:World} (h:Keeps S a b) (hs:∀ k,S' k→S k):Keeps S' a b:=⟨h.os,h.tape,h.output,h.size,fun i hi k=>h.blk i hi (hs i k)⟩
theorem Grow.keeps {S:Nat→Prop} {a b:World} (h:Grow a b):Keeps S a b:=Keeps.mono h fun _ _=>trivial
theorem Grow.below {a b:World} (h:Grow a b):Below a.heap.size a b:=⟨h.os,h.tape,h.output,h.size,fun k hk=>h.blk k hk trivial⟩
theorem Grow.alloc (w:World) (o:Obj):Grow w (w.alloc o):=⟨rfl,rfl,rfl,by simp,fun k hk _=>heap_alloc_old w o k hk⟩
def Rob (S:Nat→Prop) (w:World) (A:World→Prop):Prop:=∀ w',w.heap.size≤w'.heap.size→(∀ k,k<w.heap.size→S k→w'.heap[k]?=w.heap[k]?)→A w'
theorem Rob.now {S:Nat→Prop} {w:World} {A:World→Prop} (h:Rob S w A):A w:=h w (Nat.le_refl _) fun _ _ _=>rfl
theorem Rob.mono {S S':Nat→Prop} {w:World} {A:World→Prop} (h:Rob S w A) (hs:∀ k,k<w.heap.size→S k→S' k):Rob S' w A:=fun w' h1 h2=>h w' h1 fun k hk ks=>h2 k hk (hs k hk ks)
theorem Rob.and {S:Nat→Prop} {w:World} {A B:World→Prop} (h:Rob S w A) (k:Rob S w B):Rob S w fun w'=>A w'∧B w':=fun w' h1 h2=>⟨h w' h1 h2,k w' h1 h2⟩
theorem Rob.keeps {S:Nat→Prop} {w w':World} {A:World→Prop} (h:Rob S w A) (k:Keeps S w w'):Rob S w' A :=
 fun w'' h1 h2=>h w'' (Nat.le_trans k.size h1) fun b hb hs=>(h2 b (Nat.lt_of_lt_of_le hb k.size) hs).trans (k.blk b hb hs)
inductive Res where
 | blk (b:Nat) (T:TypeId) (cs:List Value)
 | row (v:Value) (T:TypeId) (sz n:Nat) (xs:List Value)
 | map (b:Nat) (es:List MapEntry) (clock:Nat)
 | itr (b:Nat) (s:ByteArray) (pos:Nat)
 | ro (b:Nat) (T:TypeId) (cs:List Value)
 | mit (b m since:Nat) (seen:List Nat) (last:Nat)
def Blk (w:World) (b:Nat) (T:TypeId) (cs:List Value):Prop:=w.heap[b]?=some (.cells ⟨cs⟩ T (0,0))
def Row (w:World) (v:Value) (T:TypeId) (sz n:Nat) (xs:List Value):Prop :=
 xs.length=n*sz∧((v=.slice none 0 0∧n=0)∨∃ g o cap cur,v=.slice (some ⟨g,o,none⟩) n cap∧w.heap[g]?=some (.cells cur T (0,0))∧n≤cap∧cap≤maxLen∧o+cap*sz≤cur.size∧(cur.toList.drop o).take (n*sz)=xs)
def Res.block:Res→Option Nat
 | .blk b _ _=>some b
 | .row v _ _ _ _=>v.ownBlock
 | .map b _ _=>some b
 | .itr b _ _=>some b
 | .ro b _ _=>some b
 | .mit b _ _ _ _=>some b
def Res.holds (w:World):Res→Prop
 | .blk b T cs=>Blk w b T cs
 | .row v T sz n xs=>Row w v T sz n xs
 | .map b es clock=>w.heap[b]?=some (.map ⟨es⟩ clock)
 | .itr b s pos=>w.heap[b]?=some (.stringIter s pos)
 | .ro b T cs=>∃ z,w.heap[b]?=some (.cells ⟨cs⟩ T z)
 | .mit b m since seen last=>w.heap[b]?=some (.mapIter (some m) since ⟨seen⟩ last)
def blocks (rs:List Res):List Nat:=rs.filterMap Res.block
structure Sep (S S0:Nat→Prop) (w0 w:World) (rs:List Res) (A:World→Prop):Prop where
 keeps:Keeps S w0 w
 all:∀ r ∈ rs,r.holds w
 dis:(blocks rs).Nodup
 new:∀ b ∈ blocks rs,w0.heap.size≤b∨¬ S b
 imm:Rob (fun b=>(S0 b∨w0.heap.size≤b)∧b ∉ blocks rs) w A
theorem holds_block {w:World} {r:Res} (h:r.holds w) {b:Nat} (hb:r.block=some b):b<w.heap.size:=by
 cases r with
 | blk b' T cs=>simp [Res.block] at hb; subst hb; exact (Array.getElem?_eq_some_iff.1 h).1
 | map b' es cl=>simp [Res.block] at hb; subst hb; exact (Array.getElem?_eq_some_iff.1 h).1
 | itr b' s p=>simp [Res.block] at hb; subst hb; exact (Array.getElem?_eq_some_iff.1 h).1
 | mit b' m s e l=>simp [Res.block] at hb; subst hb; exact (Array.getElem?_eq_some_iff.1 h).1
 | ro b' T cs=>obtain ⟨z,h⟩:=h; simp [Res.block] at hb; subst hb; exact (Array.getElem?_eq_some_iff.1 h).1
 | row v T sz n xs =>
  rcases h.2 with ⟨rfl,_⟩ | ⟨g,o,cap,cur,rfl,hg,_⟩
  ·simp [Res.block,Value.ownBlock] at hb
  ·simp [Res.block,Value.ownBlock] at hb; subst hb; exact (Array.getElem?_eq_some_iff.1 hg).1
theorem holds_of {w w':World} {r:Res} (h:r.holds w) (hk:∀ b,r.block=some b→w'.heap[b]?=w.heap[b]?):r.holds w':=by
 cases r with
 | blk b' T cs=>exact (hk b' rfl).trans h
 | map b' es cl=>exact (hk b' rfl).trans h
 | itr b' s p=>exact (hk b' rfl).trans h
 | mit b' m s e l=>exact (hk b' rfl).trans h
 | ro b' T cs=>obtain ⟨z,h⟩:=h; exact ⟨z,(hk b' rfl).trans h⟩
 | row v T sz n xs =>
  refine ⟨h.1,?_⟩
  rcases h.2 with h | ⟨g,o,cap,cur,rfl,hg,h⟩
  ·exact .inl h
  ·exact .inr ⟨g,o,cap,cur,rfl,by rw [hk g rfl]; exact hg,h⟩
section
variable {S S0:Nat→Prop} {w0 w w':World} {rs rs':List Res} {A B:World→Prop}
theorem Sep.a (h:Sep S S0 w0 w rs A):A w:=h.imm.now
theorem Sep.start (w:World) (S S0:Nat→Prop) (hA:Rob S0 w A):Sep S S0 w w [] A :=
 ⟨.refl w,by simp,by simp [blocks],by simp [blocks],hA.mono fun k _ hs=>⟨.inl hs,by simp [blocks]⟩⟩
theorem mem_blocks {r:Res} {b:Nat} (hr:r ∈ rs) (hb:r.block=some b):b ∈ blocks rs:=List.mem_filterMap.2 ⟨r,hr,hb⟩
theorem Sep.lt (h:Sep S S0 w0 w rs A) {b:Nat} (hb:b ∈ blocks rs):b<w.heap.size:=by
 obtain ⟨r,hr,hb⟩:=List.mem_filterMap.1 hb
 exact holds_block (h.all r hr) hb
theorem Sep.grow (h:Sep S S0 w0 w rs A) (hg:Grow w w'):Sep S S0 w0 w' rs A where
 keeps:=h.keeps.trans hg.keeps
 all r hr:=holds_of (h.all r hr) fun b hb=>hg.blk b (h.lt (mem_blocks hr hb)) trivial
 dis:=h.dis
 new:=h.new
 imm:=h.imm.keeps hg.keeps
theorem Sep.alloc (h:Sep S S0 w0 w rs A) {o:Obj} {r:Res} (hr:r.block=some w.heap.size) (ho:r.holds (w.alloc o)):Sep S S0 w0 (w.alloc o) (r::rs) A where
 keeps:=h.keeps.trans (Grow.alloc w o).keeps
 all r' hr':=by
  rcases List.mem_cons.1 hr' with rfl | hr'
  ·exact ho
  ·exact (h.grow (Grow.alloc w o)).all r' hr'
 dis:=by
  simp only [blocks,List.filterMap_cons,hr,List.nodup_cons]
  exact ⟨fun hm=>Nat.lt_irrefl _ (h.lt hm),h.dis⟩
 new b hb:=by
  simp only [blocks,List.filterMap_cons,hr,List.mem_cons] at hb
  rcases hb with rfl | hb
  ·exact .inl h.keeps.size
  ·exact h.new b hb
 imm:=fun w' h1 h2=>h.imm w' (by simp at h1; omega) fun k hk hs=>by
  have:=h2 k (by simp; omega) ⟨hs.1,by
   simp only [blocks,List.filterMap_cons,hr,List.mem_cons,not_or]
   exact ⟨by omega,hs.2⟩⟩
  rw [this]
  exact heap_alloc_old w o k hk
theorem lk_mem {r:Res} {n:Nat} (hl:Lk rs n r):r ∈ rs:=List.mem_of_getElem? hl
theorem Sep.get (h:Sep S S0 w0 w rs A) {n:Nat} {r:Res} (hl:Lk rs n r):r.holds w:=h.all r (lk_mem hl)
theorem blocks_set {n:Nat} {r r':Res} (hl:Lk rs n r) (hb:r'.block=r.block):blocks (rs.set n r')=blocks rs:=by
 unfold Lk at hl
 unfold blocks
 induction rs generalizing n with
 | nil=>rfl
 | cons a rs ih =>
  cases n with
  | zero=>simp at hl; subst hl; simp [List.filterMap_cons,hb]
  | succ n=>simp at hl; simp only [List.set_cons_succ,List.filterMap_cons,ih hl]
theorem other_block {n m:Nat} {r r2:Res} (hd:(blocks rs).Nodup) (hl:Lk rs n r) (hm:Lk rs m r2) (hne:n≠m) {b:Nat} (hb:r.block=some b):r2.block≠some b:=by
 unfold Lk at hl hm
 unfold blocks at hd
 induction rs generalizing n m with
 | nil=>simp at hl
 | cons a rs ih =>
  have hd':(List.filterMap Res.block rs).Nodup:=by
   cases ha:a.block with
   | none=>simpa [List.filterMap_cons,ha] using hd
   | some c=>simp only [List.filterMap_cons,ha,List.nodup_cons] at hd; exact hd.2
  cases n with
  | zero =>
   cases m with
   | zero=>exact absurd rfl hne
   | succ m =>
    simp at hl hm; subst hl
    intro e
    simp only [List.filterMap_cons,hb,List.nodup_cons] at hd
    exact hd.1 (List.mem_filterMap.2 ⟨r2,List.mem_of_getElem? hm,e⟩)
  | succ n =>
   cases m with
   | zero =>
    simp at hl hm; subst hm
    intro e
    simp only [List.filterMap_cons,e,List.nodup_cons] at hd
    exact hd.1 (List.mem_filterMap.2 ⟨r,List.mem_of_getElem? hl,hb⟩)
   | succ m=>simp at hl hm; exact ih hd' hl hm (by omega)
theorem Sep.put (h:Sep S S0 w0 w rs A) {n:Nat} {r r':Res} {b:Nat} (hl:Lk rs n r) (hb:r.block=some b) (hb':r'.block=some b) (hp:Pt rs n r' rs')
  (hr:r'.holds w') (hk:Keeps (fun k=>k≠b) w w'):Sep S S0 w0 w' rs' A:=by
 unfold Pt at hp
 subst hp
 have hbm:=mem_blocks (lk_mem hl) hb
 have hbs:=blocks_set (r':=r') hl (hb'.trans hb.symm)
 refine ⟨?_,?_,?_,?_,?_⟩
 ·refine ⟨hk.os.trans h.keeps.os,hk.tape.trans h.keeps.tape,hk.output.trans h.keeps.output,Nat.le_trans h.keeps.size hk.size,fun k hkk hs=>?_⟩
  rw [hk.blk k (Nat.lt_of_lt_of_le hkk h.keeps.size) (fun e=>by subst e; rcases h.new k hbm with h | h; exact absurd hkk (by omega); exact h hs)]
  exact h.keeps.blk k hkk hs
 ·intro r2 hr2
  obtain ⟨m,hm⟩:=List.mem_iff_getElem?.1 hr2
  by_cases e:n=m
  ·subst e
   have hlt:n<rs.length:=(List.getElem?_eq_some_iff.1 hl).1
   rw [List.getElem?_set_self hlt] at hm
   cases hm
   exact hr
  ·rw [List.getElem?_set_ne e] at hm
   refine holds_of (h.all r2 (List.mem_of_getElem? hm)) fun c hc=>hk.blk c (h.lt (mem_blocks (List.mem_of_getElem? hm) hc)) fun e2=>?_
   subst e2
   exact other_block h.dis hl hm e hb hc
 ·rw [hbs]; exact h.dis
 ·rw [hbs]; exact h.new
 ·rw [hbs]
  exact h.imm.keeps (hk.mono fun k hs e=>hs.2 (by subst e; exact hbm))
end
def aggD:TypeDesc→Bool
 | .struct _ | .array _ _=>true
 | _=>false
class TI (P:Program) (T:TypeId) (ag:outParam Bool) (zc:outParam (List Value)) (n m:outParam Nat):Prop where
 und:∃ d,P.underlying T=some d∧aggD d=ag
 inf:∃ i z,P.info? T=some i∧i.zero=some z∧z.cells=⟨zc⟩∧i.size=n∧i.bytes=m
theorem ti_of {P:Program} {T:TypeId} {d:TypeDesc} {ag:Bool} {z:Value} {zc:List Value} {n m:Nat} (hu:P.underlying T=some d) (ha:aggD d=ag) (h:(P.info? T).map (fun i=>(i.zero,i.size,i.bytes))=some (some z,n,m)) (hz:z.cells=⟨zc⟩):TI P T ag zc n m:=by
 refine ⟨⟨d,hu,ha⟩,?_⟩
 cases hi:P.info? T with
 | none=>rw [hi] at h; cases h
 | some i =>
  rw [hi] at h
  simp only [Option.map_some,Option.some.injEq,Prod.mk.injEq] at h
  exact ⟨i,z,rfl,h.1,hz,h.2.1,h.2.2⟩
def cellV:Value→Bool
 | .agg _ | .tuple _=>false
 | _=>true
section
variable {P:Program} {Q:Exit→Act→World→Prop} {K:List Value→List Deferred→World→Prop} {fr fr':List Value} {ds:List Deferred} {w:World}
variable {dst:Option Tmp} {ty:TypeId} {pos:String} {after:Array Edge} {g:Option (Nat×Bool)}
variable {S S0:Nat→Prop} {w0:World} {rs rs':List Res} {A:World→Prop}
variable {T:TypeId} {d:TypeDesc} {ag:Bool} {zc:List Value} {n m:Nat}
theorem run_isAgg (h:P.underlying T=some d):(isAgg T).run P w=.ok (aggD d) w:=by
 unfold isAgg
 simp only [Sem.run_bind,run_underlying h,Result.andThen_ok]
 cases d <;> rfl
theorem TI.isAgg (h:TI P T ag zc n m):(Go.isAgg T).run P w=.ok ag w:=by
 obtain ⟨d,hd,rfl⟩:=h.und
 exact run_isAgg hd
theorem TI.sizeOf (h:TI P T ag zc n m):(Go.sizeOf T).run P w=.ok n w:=by
 obtain ⟨i,z,hi,hz,hc,hn,hm⟩:=h.inf
 simp [Go.sizeOf,typeInfo,hi,hn]
theorem TI.zero (h:TI P T ag zc n m):∃ z,(zeroValue T).run P w=.ok z w∧z.cells=⟨zc⟩:=by
 obtain ⟨i,z,hi,hz,hc,hn,hm⟩:=h.inf
 exact ⟨z,by simp [zeroValue,typeInfo,hi,hz],hc⟩
def CellsAt (w:World) (b o:Nat) (cs:List Value):Prop:=∀ j v,cs[j]?=some v→w.cell? ⟨b,o+j,none⟩=some v
theorem add_addr (b o j:Nat):(⟨b,o,none⟩:Addr).add j=⟨b,o+j,none⟩:=by
 unfold Addr.add
 split
 ·rename_i h; subst h; rfl
 ·rfl
theorem Blk.cell {b:Nat} {cs:List Value} {j:Nat} {v:Value} (h:Blk w b T cs) (hl:Lk cs j v):w.cell? ⟨b,j,none⟩=some v:=by
 unfold Lk at hl
 unfold Blk at h
 simp [World.cell?,h,hl]
theorem Blk.cells {b:Nat} {cs:List Value} (h:Blk w b T cs):CellsAt w b 0 cs:=fun j v hl=>by
 rw [Nat.zero_add]; exact h.cell hl
theorem CellsAt.one {b o:Nat} {cs:List Value} {j:Nat} {v:Value} (h:CellsAt w b o cs) (hl:Lk cs j v):w.cell? ⟨b,o+j,none⟩=some v:=h j v hl
theorem s_alloc (hT:TI P T ag zc n m) (hS:Sep S S0 w0 w rs A)
  (h:∀ b w',w.heap.size≤b→Sep S S0 w0 w' (.blk b T zc::rs) A→Put fr dst (.pointer (some ⟨b,0,none⟩)) fun fr'=>K fr' ds w'):OW P (Oper.mk dst (.alloc T) ty pos after g) fr ds w K Q:=by
 obtain ⟨z,hz,hc⟩:=hT.zero (w:=w)
 obtain ⟨fr',hd⟩:=dt_ex fr dst (.pointer (some ⟨w.heap.size,0,none⟩))
 refine op_v (v:=.pointer (some ⟨w.heap.size,0,none⟩)) (w':=w.alloc (.cells ⟨zc⟩ T)) ?_ hd (h _ _ (Nat.le_refl _) (hS.alloc rfl (heap_alloc_new w _)) fr' hd)
 simp [execOp,Instr.alloc,hz,newVar,newRow,hc]
theorem s_box {x:Operand} {v:Value} {cs:List Value} (hx:Ev fr x v) (hc:v.cells=⟨cs⟩) (hS:Sep S S0 w0 w rs A)
  (h:∀ b w',w.heap.size≤b→Sep S S0 w0 w' (.blk b T cs::rs) A→Put fr dst (.pointer (some ⟨b,0,none⟩)) fun fr'=>K fr' ds w'):OW P (Oper.mk dst (.box T x) ty pos after g) fr ds w K Q:=by
 obtain ⟨fr',hd⟩:=dt_ex fr dst (.pointer (some ⟨w.heap.size,0,none⟩))
 refine op_v (v:=.pointer (some ⟨w.heap.size,0,none⟩)) (w':=w.alloc (.cells ⟨cs⟩ T)) ?_ hd (h _ _ (Nat.le_refl _) (hS.alloc rfl (heap_alloc_new w _)) fr' hd)
 simp [execOp,Instr.box,hx ds,newVar,newRow,hc]
structure LU (P:Program) (o:Oper) (fr:List Value) (w:World) (v:Value):Prop where
 out:∀ ds,(execOp (F fr ds).eval o).run P w=.ok (.value v) w
theorem sl {o:Oper} {v:Value} (hu:LU P o fr w v) (hp:Dt fr o.dst v fr') (h:K fr' ds w):OW P o fr ds w K Q:=op_v (hu.out ds) hp h
theorem u_load {x:Operand} {b o:Nat} {v:Value} (hT:TI P T false zc n m) (hx:Ev fr x (.pointer (some ⟨b,o,none⟩))) (hc:w.cell? ⟨b,o,none⟩=some v):LU P (Oper.mk dst (.load T x) ty pos after g) fr w v :=
 ⟨fun ds=>by simp [execOp,Instr.loadAt,hx ds,Instr.sureAddr,loadVar,hT.isAgg,hc]⟩
theorem s_load {x:Operand} {b o:Nat} {v:Value} (hT:TI P T false zc n m) (hx:Ev fr x (.pointer (some ⟨b,o,none⟩))) (hc:w.cell? ⟨b,o,none⟩=some v)
  (hp:Dt fr dst v fr') (h:K fr' ds w):OW P (Oper.mk dst (.load T x) ty pos after g) fr ds w K Q:=sl (u_load hT hx hc) hp h
theorem u_loads {x:Operand} {b o:Nat} {cs:List Value} (hT:TI P T true zc n m) (hx:Ev fr x (.pointer (some ⟨b,o,none⟩))) (hc:CellsAt w b o cs) (hn:cs.length=n):LU P (Oper.mk dst (.load T x) ty pos after g) fr w (.agg ⟨cs⟩):=⟨fun ds=>by
 have hl:=run_loadCells_list (P:=P) w ⟨b,o,none⟩ cs (fun j v hj=>by rw [add_addr]; exact hc j v hj)
 rw [hn] at hl
 simp [execOp,Instr.loadAt,hx ds,Instr.sureAddr,loadVar,hT.isAgg,hT.sizeOf,hl]⟩
theorem s_loads {x:Operand} {b o:Nat} {cs:List Value} (hT:TI P T true zc n m) (hx:Ev fr x (.pointer (some ⟨b,o,none⟩))) (hc:CellsAt w b o cs) (hn:cs.length=n)
  (hp:Dt fr dst (.agg ⟨cs⟩) fr') (h:K fr' ds w):OW P (Oper.mk dst (.load T x) ty pos after g) fr ds w K Q:=sl (u_loads hT hx hc hn) hp h
inductive Spl:List Value→Nat→List Value→List Value→Prop where
 | z {cs:List Value} {o:Nat}:Spl cs o [] cs
 | s {cs cs1 cs':List Value} {o:Nat} {v:Value} {vs:List Value} (h:Pt cs o v cs1) (hl:o<cs.length) (k:Spl cs1 (o+1) vs cs'):Spl cs o (v::vs) cs'
theorem Spl.eq {cs:List Value} {o:Nat} {vs cs':List Value} (h:Spl cs o vs cs'):o+vs.length≤cs.length∨vs=[]:=by
 induction h with
 | z=>exact .inr rfl
 | @s cs cs1 cs' o v vs h hl k ih =>
  left
  unfold Pt at h
  subst h
  rcases ih with ih | rfl
  ·simp at ih ⊢; omega
  ·simp; omega
theorem Spl.res {cs:List Value} {o:Nat} {vs cs':List Value} (h:Spl cs o vs cs') (hl:o≤cs.length):cs'=cs.take o++vs++cs.drop (o+vs.length):=by
 induction h with
 | z=>simp
 | @s cs cs1 cs' o v vs h hlt k ih =>
  unfold Pt at h
  subst h
  rw [ih (by simp; omega)]
  have e1:(cs.set o v).take (o+1)=cs.take o++[v]:=by
   rw [List.take_set,List.take_add_one,List.getElem?_eq_getElem hlt]
   rw [List.set_append_right _ _ (by simp; omega)]
   simp [Nat.min_eq_left (Nat.le_of_lt hlt)]
  rw [e1]
  have e2:(cs.set o v).drop (o+1+vs.length)=cs.drop (o+(v::vs).length):=by
   rw [List.drop_set_of_lt (by omega)]
   congr 1
   simp; omega
  rw [e2]
  simp
theorem cell_one {v:Value} (h:cellV v=true):v.oneCell'=true:=by cases v <;> first | rfl | simp [cellV] at h
theorem run_stores {b:Nat} {cs:List Value} (hb:Blk w b T cs) {o:Nat} {vs cs':List Value} (hs:Spl cs o vs cs') (ho:o≤cs.length) (h1:vs.all cellV=true) :
  ∃ w',(storeCells ⟨b,o,none⟩ vs).run P w=.ok () w'∧Blk w' b T cs'∧Keeps (fun k=>k≠b) w w':=by
 have hle:o+0+vs.length≤(⟨cs⟩:Array Value).size:=by
  rcases hs.eq with h | rfl
  ·simpa using h
  ·simpa using ho
 refine ⟨_,run_storeCells_at P b o T vs 0 ⟨cs⟩ w hb hle fun v hv=>cell_one (List.all_eq_true.1 h1 v hv),?_,?_⟩
 ·rw [hs.res ho]
  exact setRow_heap w b ⟨cs⟩ _ T (0,0) hb
 ·exact ⟨rfl,rfl,rfl,by simp [World.setRow],fun k hk hs=>setRow_other w b k _ hs⟩
theorem s_store {x y:Operand} {b o k:Nat} {v:Value} {cs cs' vs:List Value} (hT:TI P T ag zc n m) (hx:Ev fr x (.pointer (some ⟨b,o,none⟩))) (hy:Ev fr y v) (hv:v.cells=⟨vs⟩) (hn:vs.length=n) (hvc:vs.all cellV=true)
  (hS:Sep S S0 w0 w rs A) {T':TypeId} (hl:Lk rs k (.blk b T' cs)) (hs:Spl cs o vs cs') (ho:(decide (o≤cs.length))=true) (hp:Pt rs k (.blk b T' cs') rs')
  (hd:Dt fr dst undef fr') (h:∀ w',Sep S S0 w0 w' rs' A→K fr' ds w'):OW P (Oper.mk dst (.store T x y) ty pos after g) fr ds w K Q:=by
 obtain ⟨w',hr,hb,hk⟩:=run_stores (P:=P) (hS.get hl) hs (of_decide_eq_true ho) hvc
 refine op_u (w':=w') ?_ hd (h w' (hS.put hl rfl rfl hp hb hk))
 have e1:v.cells.toList=vs:=by rw [hv]
 have e2:¬ (v.cells.size≠n):=by rw [hv]; simpa using hn
 have hT1:=hT.sizeOf (w:=w)
 simp only [execOp,Instr.storeAt,hx ds,hy ds,Instr.sureAddr,storeVar,Sem.run_bind,hT1,Result.andThen_ok,if_neg e2,e1,hr,Sem.run_pure]
class FA (P:Program) (T:TypeId) (i:Nat) (off:outParam Nat):Prop where
 out:∀ b o w,(Instr.fieldAt T (.pointer (some ⟨b,o,none⟩)) i).run P w=.ok (.pointer (some ⟨b,o+off,none⟩)) w
theorem fa_of {fs:Array Field} {i off:Nat} {f:Field} {T':TypeId} {zc':List Value} {n' m':Nat} {ag':Bool} (hT:P.underlying T=some (.struct fs)) (hf:fs[i]?=some f) (ho:f.offset=off) (ht:f.type=T') (hF:TI P T' ag' zc' n' m') (h0:(n' == 0)=false):FA P T i off:=by
 constructor
 intro b o w
 have hn:¬ n'=0:=by simpa using h0
 simp [Instr.fieldAt,run_underlying hT,hf,Instr.sureAddr,fieldPlace,ht,hF.sizeOf,hn,add_addr,ho]
theorem u_fa {x:Operand} {b o i off o':Nat} (hF:FA P T i off) (hx:Ev fr x (.pointer (some ⟨b,o,none⟩))) (ho:o+off=o'):PU P (Oper.mk dst (.fieldAddr T x i) ty pos after g) fr ((.pointer (some ⟨b,o',none⟩))):=by
 subst ho
 exact ⟨fun ds w=>by simp [execOp,hx ds,hF.out]⟩
theorem s_fa {x:Operand} {b o i off o':Nat} (hF:FA P T i off) (hx:Ev fr x (.pointer (some ⟨b,o,none⟩))) (ho:o+off=o') (hp:Dt fr dst ((.pointer (some ⟨b,o',none⟩))) fr') (h:K fr' ds w):OW P (Oper.mk dst (.fieldAddr T x i) ty pos after g) fr ds w K Q:=su (u_fa hF hx ho) hp h
theorem u_ia {x y:Operand} {b o len cap:Nat} {k:IntKind} {i:Int} {e:TypeId} {o':Nat} (hT:P.underlying T=some (.slice e)) (hE:TI P e ag zc n m) (hx:Ev fr x (.slice (some ⟨b,o,none⟩) len cap)) (hy:Ev fr y (.int k i)) (hi:0≤i∧i<len) (ho:o+i.toNat*n=o'):PU P (Oper.mk dst (.indexAddr T x y) ty pos after g) fr ((.pointer (some ⟨b,o',none⟩))):=by
 subst ho
 refine ⟨fun ds w=>?_⟩
 simp [execOp,hx ds,hy ds,Instr.indexAt,asIntOf,run_underlying hT,hi,hE.sizeOf,add_addr]
theorem u_nilck {x:Operand} {a:Addr} (hx:Ev fr x (.pointer (some a))):PU P (Oper.mk dst (.nilCheck x) ty pos after g) fr ((.pointer (some a))):=⟨fun ds w=>by simp [execOp,hx ds]⟩
theorem s_nilck {x:Operand} {a:Addr} (hx:Ev fr x (.pointer (some a))) (hp:Dt fr dst ((.pointer (some a))) fr') (h:K fr' ds w):OW P (Oper.mk dst (.nilCheck x) ty pos after g) fr ds w K Q:=su (u_nilck hx) hp h
end
end Go.Wk
namespace Go.Wk
open Go.RowKit
section
variable {P:Program} {Q:Exit→Act→World→Prop} {K:List Value→List Deferred→World→Prop} {fr fr':List Value} {ds:List Deferred} {w:World}
variable {dst:Option Tmp} {ty:TypeId} {pos:String} {after:Array Edge} {g:Option (Nat×Bool)}
variable {S S0:Nat→Prop} {w0:World} {rs rs':List Res} {A:World→Prop}
variable {T:TypeId} {d:TypeDesc} {ag:Bool} {zc:List Value} {n m:Nat}
inductive Rm:List Res→Nat→List Res→Prop where
 | z {r:Res} {rs:List Res}:Rm (r::rs) 0 rs
 | s {r:Res} {rs rs':List Res} {k:Nat} (h:Rm rs k rs'):Rm (r::rs) (k+1) (r::rs')
theorem Rm.mem {k:Nat} (h:Rm rs k rs'):∀ r ∈ rs',r ∈ rs:=by
 induction h with
 | z=>intro r hr; exact List.mem_cons_of_mem _ hr
 | s _ ih=>intro r hr; rcases List.mem_cons.1 hr with rfl | hr; exact List.mem_cons_self; exact List.mem_cons_of_mem _ (ih r hr)
theorem Rm.sub {k:Nat} (h:Rm rs k rs'):rs'.Sublist rs:=by
 induction h with
 | z=>exact List.sublist_cons_self _ _
 | s _ ih=>exact ih.cons_cons _
theorem Sep.drop {k:Nat} (h:Sep S S0 w0 w rs A) (hr:Rm rs k rs'):Sep S S0 w0 w rs' A where
 keeps:=h.keeps
 all r hr':=h.all r (hr.mem r hr')
 dis:=(hr.sub.filterMap _).nodup h.dis
 new b hb:=h.new b ((hr.sub.filterMap _).subset hb)
 imm:=h.imm.mono fun _ _ hs=>⟨hs.1,fun hm=>hs.2 ((hr.sub.filterMap _).subset hm)⟩
theorem Sep.freeze {k:Nat} {r:Res} {B:World→Prop} (h:Sep S S0 w0 w rs A) (hl:Lk rs k r) (hr:Rm rs k rs') (hnew:∀ b,r.block=some b→S0 b∨w0.heap.size≤b) (hB:∀ w,r.holds w→B w) :
  Sep S S0 w0 w rs' fun w=>A w∧B w where
 keeps:=(h.drop hr).keeps
 all:=(h.drop hr).all
 dis:=(h.drop hr).dis
 new:=(h.drop hr).new
 imm:=(h.drop hr).imm.and fun w' h1 h2=>hB w' (holds_of (h.get hl) fun b hb=>h2 b (h.lt (mem_blocks (lk_mem hl) hb)) ⟨hnew b hb,by
  intro hm
  have:blocks rs'=(blocks rs).erase b∨True:=.inr trivial
  clear this
  have hd:=h.dis
  clear hB hnew h1 h2 h
  unfold blocks at hm hd
  unfold Lk at hl
  induction hr with
  | z=>simp at hl; subst hl; simp only [List.filterMap_cons,hb,List.nodup_cons] at hd; exact hd.1 hm
  | @s r' rs rs' k hr ih =>
   simp at hl
   cases hc:r'.block with
   | none=>simp only [List.filterMap_cons,hc] at hm hd; exact ih hl hm hd
   | some c =>
    simp only [List.filterMap_cons,hc,List.nodup_cons,List.mem_cons] at hm hd
    rcases hm with rfl | hm
    ·exact hd.1 (List.mem_filterMap.2 ⟨r,List.mem_of_getElem? hl,hb⟩)
    ·exact ih hl hm hd.2⟩)
inductive Parts (fr:List Value):Nat→List (Nat×Operand)→List Value→Prop where
 | z {i:Nat}:Parts fr i [] []
 | s {i:Nat} {x:Operand} {v:Value} {xs:List (Nat×Operand)} {vs:List Value} (h:Ev fr x v) (hc:cellV v=true) (t:Parts fr (i+1) xs vs):Parts fr i ((i,x)::xs) (v::vs)
theorem Parts.eval {i:Nat} {xs:List (Nat×Operand)} {vs:List Value} (h:Parts fr i xs vs):xs.map (fun p=>(p.1,(F fr ds).eval p.2))=(vs.zipIdx i).map fun p=>(p.2,p.1):=by
 induction h with
 | z=>rfl
 | s h _ _ ih=>simp [h ds,ih]
theorem Parts.cell {i:Nat} {xs:List (Nat×Operand)} {vs:List Value} (h:Parts fr i xs vs):∀ v ∈ vs,cellV v=true:=by
 induction h with
 | z=>simp
 | s _ hc _ ih=>intro v hv; rcases List.mem_cons.1 hv with rfl | hv; exact hc; exact ih v hv
theorem cells_one {v:Value} (h:cellV v=true):v.cells=#[v]:=by cases v <;> first | rfl | simp [cellV] at h
theorem fill_ones (pl:Nat→Option (Nat×Nat)) (hpl:∀ i,pl i=some (i,1)):∀ (vs:List Value) (i:Nat) (cs:List Value),(∀ v ∈ vs,cellV v=true)→i+vs.length≤cs.length →
  Instr.fill pl ⟨cs⟩ ((vs.zipIdx i).map fun p=>(p.2,p.1))=some ⟨cs.take i++vs++cs.drop (i+vs.length)⟩
 | [],i,cs,_,h=>by simp [Instr.fill]
 | v::vs,i,cs,hv,h=>by
  have hc:=cells_one (hv v (by simp))
  have hlt:i<cs.length:=by simp at h; omega
  have ih:=fill_ones pl hpl vs (i+1) (cs.set i v) (fun u hu=>hv u (by simp [hu])) (by simp at h ⊢; omega)
  simp only [List.zipIdx_cons,List.map_cons,Instr.fill,hpl,hc]
  have e0:¬ ((#[v].size≠1 || i+#[v].size > (⟨cs⟩:Array Value).size)=true):=by simp; omega
  rw [if_neg e0]
  have e1:(#[v].zipIdx.foldl (fun cs (c,j)=>cs.setIfInBounds (i+j) c) (⟨cs⟩:Array Value))=⟨cs.set i v⟩:=by
   simp [Array.zipIdx]
  rw [e1,ih]
  have e2:(cs.set i v).take (i+1)=cs.take i++[v]:=by
   rw [List.take_set,List.take_add_one,List.getElem?_eq_getElem hlt]
   rw [List.set_append_right _ _ (by simp; omega)]
   simp [Nat.min_eq_left (Nat.le_of_lt hlt)]
  have e3:(cs.set i v).drop (i+1+vs.length)=cs.drop (i+(v::vs).length):=by
   rw [List.drop_set_of_lt (by omega)]
   congr 1
   simp; omega
  rw [e2,e3]
  simp
theorem s_bsl {e:TypeId} {len:Nat} {xs:List (Nat×Operand)} {vs:List Value} (hT:P.underlying T=some (.slice e)) (hE:TI P e ag zc 1 m) (hx:Parts fr 0 xs vs) (hn:vs.length=len) (h24:(decide (len≤16777216))=true) (hS:Sep S S0 w0 w rs A)
  (h:∀ b w',w.heap.size≤b→Sep S S0 w0 w' (.blk b e vs::rs) A→Put fr dst (.slice (some ⟨b,0,none⟩) len len) fun fr'=>K fr' ds w'):OW P (Oper.mk dst (.buildSlice T len ⟨xs⟩) ty pos after g) fr ds w K Q:=by
 obtain ⟨fr',hd⟩:=dt_ex fr dst (.slice (some ⟨w.heap.size,0,none⟩) len len)
 refine op_v (v:=.slice (some ⟨w.heap.size,0,none⟩) len len) (w':=w.alloc (.cells ⟨vs⟩ e)) ?_ hd (h _ _ (Nat.le_refl _) (hS.alloc rfl (heap_alloc_new w _)) fr' hd)
 obtain ⟨z,hz,hc⟩:=hE.zero (w:=w)
 have hE1:=hE.sizeOf (w:=w)
 have h2:¬ (len*1 > 2 ^ 24):=by have:=of_decide_eq_true h24; omega
 have hev:=hx.eval (ds:=ds)
 have hfill2:∀ cs:Array Value,cs.size=len→Instr.fill (fun i=>some (i*1,1)) cs ((vs.zipIdx 0).map fun p=>(p.2,p.1))=some ⟨vs⟩:=by
  intro cs hcs
  have:=fill_ones (fun i=>some (i*1,1)) (fun i=>by rw [Nat.mul_one]) vs 0 cs.toList hx.cell (by simp [hn,hcs])
  rw [this,List.drop_eq_nil_of_le (by simp [hn,hcs])]
  simp
 have hl:((⟨xs⟩:Array (Nat×Operand)).map fun (i,x)=>(i,(F fr ds).eval x)).toList=(vs.zipIdx 0).map fun p=>(p.2,p.1):=by
  simp only [Array.toList_map]
  exact hev
 unfold execOp
 simp only [Instr.buildSlice,Sem.run_bind,run_underlying hT,Result.andThen_ok,hE1,if_neg h2,hl]
 by_cases h0:len*1=0
 ·simp only [if_pos h0,Sem.run_bind,Sem.run_pure,Result.andThen_ok]
  rw [hfill2 _ (by simp)]
  simp [newRow]
 ·simp only [if_neg h0,Sem.run_bind,Sem.run_pure,Result.andThen_ok,hz]
  rw [hfill2 _ (by simp)]
  simp [newRow]
theorem Sep.row {k:Nat} {v v':Value} {sz n':Nat} {xs xs':List Value} {w':World} (hS:Sep S S0 w0 w rs A) (hl:Lk rs k (.row v T sz n xs)) (hp:Pt rs k (.row v' T sz n' xs') rs') (hr:Row w' v' T sz n' xs')
  (hk:Keeps (fun b=>some b≠v.ownBlock) w w') (hv:v'.ownBlock=v.ownBlock∨∃ b,v'.ownBlock=some b∧w.heap.size≤b):Sep S S0 w0 w' rs' A:=by
 unfold Pt at hp
 subst hp
 have hsub:∀ b,v.ownBlock=some b→b ∈ blocks rs:=fun b hb=>mem_blocks (lk_mem hl) hb
 have hmem:∀ b ∈ blocks (rs.set k (.row v' T sz n' xs')),(b ∈ blocks rs)∨(v'.ownBlock=some b∧w.heap.size≤b):=by
  intro b hb
  obtain ⟨r,hr',hrb⟩:=List.mem_filterMap.1 hb
  rcases List.mem_or_eq_of_mem_set hr' with hm | rfl
  ·exact .inl (mem_blocks hm hrb)
  ·rcases hv with hv | ⟨c,hc,hle⟩
   ·exact .inl (hsub b (hv ▸ hrb))
   ·have:c=b:=by simpa [Res.block,hc] using hrb
    subst this
    exact .inr ⟨hc,hle⟩
 have hother:∀ b ∈ blocks rs,b ∈ blocks (rs.set k (.row v' T sz n' xs'))∨v.ownBlock=some b:=by
  intro b hb
  obtain ⟨r,hr',hrb⟩:=List.mem_filterMap.1 hb
  obtain ⟨j,hj⟩:=List.mem_iff_getElem?.1 hr'
  by_cases e:k=j
  ·subst e
   unfold Lk at hl
   rw [hl] at hj
   cases hj
   exact .inr hrb
  ·exact .inl (mem_blocks (r:=r) (List.mem_of_getElem? (i:=j) (by rw [List.getElem?_set_ne e]; exact hj)) hrb)
 refine ⟨?_,?_,?_,?_,?_⟩
 ·refine ⟨hk.os.trans hS.keeps.os,hk.tape.trans hS.keeps.tape,hk.output.trans hS.keeps.output,Nat.le_trans hS.keeps.size hk.size,fun b hb hs=>?_⟩
  rw [hk.blk b (Nat.lt_of_lt_of_le hb hS.keeps.size) (fun e=>by rcases hS.new b (hsub b e.symm) with h | h; exact absurd hb (by omega); exact h hs)]
  exact hS.keeps.blk b hb hs
 ·intro r2 hr2
  obtain ⟨j,hm⟩:=List.mem_iff_getElem?.1 hr2
  by_cases e:k=j
  ·subst e
   have hlt:k<rs.length:=(List.getElem?_eq_some_iff.1 hl).1
   rw [List.getElem?_set_self hlt] at hm
   cases hm
   exact hr
  ·rw [List.getElem?_set_ne e] at hm
   refine holds_of (hS.all r2 (List.mem_of_getElem? hm)) fun c hc=>hk.blk c (hS.lt (mem_blocks (List.mem_of_getElem? hm) hc)) fun e2=>?_
   exact other_block hS.dis hl hm e (b:=c) e2.symm hc
 ·have hd:=hS.dis
  have hlt:=fun b (hb:b ∈ blocks rs)=>hS.lt hb
  clear hmem hother hsub
  unfold Lk at hl
  revert hl hd hlt
  generalize rs=l
  unfold blocks
  intro hl hd hlt
  induction l generalizing k with
  | nil=>simp at hl
  | cons a l ih =>
   cases k with
   | zero =>
    simp at hl
    subst hl
    simp only [List.set_cons_zero,List.filterMap_cons,Res.block] at hd hlt ⊢
    rcases hv with hv | ⟨c,hc,hle⟩
    ·rw [hv]; exact hd
    ·rw [hc]
     cases hb:v.ownBlock with
     | none =>
      rw [hb] at hd hlt
      exact List.nodup_cons.2 ⟨fun hm=>by have:=hlt c hm; omega,hd⟩
     | some b =>
      rw [hb] at hd hlt
      exact List.nodup_cons.2 ⟨fun hm=>by have:=hlt c (List.mem_cons_of_mem _ hm); omega,(List.nodup_cons.1 hd).2⟩
   | succ k =>
    simp at hl
    simp only [List.set_cons_succ,List.filterMap_cons] at hd hlt ⊢
    cases ha:a.block with
    | none=>rw [ha] at hd hlt; exact ih hl hd hlt
    | some c =>
     rw [ha] at hd hlt
     simp only [List.nodup_cons] at hd ⊢
     refine ⟨fun hm=>?_,ih hl hd.2 fun b hb=>hlt b (List.mem_cons_of_mem _ hb)⟩
     obtain ⟨r,hr',hrb⟩:=List.mem_filterMap.1 hm
     rcases List.mem_or_eq_of_mem_set hr' with hm | rfl
     ·exact hd.1 (List.mem_filterMap.2 ⟨r,hm,hrb⟩)
     ·rcases hv with hv | ⟨c',hc',hle⟩
      ·exact hd.1 (List.mem_filterMap.2 ⟨_,List.mem_of_getElem? hl,by rw [← hrb]; exact hv.symm⟩)
      ·have:c'=c:=by simpa [Res.block,hc'] using hrb
       have:=hlt c (by simp)
       omega
 ·intro b hb
  rcases hmem b hb with h | h
  ·exact hS.new b h
  ·exact .inl (Nat.le_trans hS.keeps.size h.2)
 ·intro w'' h1 h2
  refine hS.imm w'' (Nat.le_trans hk.size h1) fun b hb hs=>?_
  rw [h2 b (Nat.lt_of_lt_of_le hb hk.size) ⟨hs.1,fun hm=>by rcases hmem b hm with h | h; exact hs.2 h; exact absurd hb (by omega)⟩]
  exact hk.blk b hb fun e=>hs.2 (hsub b e.symm)
end
section
variable {P:Program} {Q:Exit→Act→World→Prop} {K:List Value→List Deferred→World→Prop} {fr fr':List Value} {ds:List Deferred} {w:World}
variable {dst:Option Tmp} {ty:TypeId} {pos:String} {after:Array Edge} {g:Option (Nat×Bool)}
variable {S S0:Nat→Prop} {w0:World} {rs rs':List Res} {A:World→Prop}
variable {T:TypeId} {d:TypeDesc} {ag:Bool} {zc:List Value} {n m:Nat}
theorem run_append_row {t ty:TypeId} {sz bytes:Nat} (ht:P.underlying t=some (.slice T)) (hE:TI P T ag zc sz bytes) (hz:zc.length=sz) (h0:0<sz)
  {v:Value} {xs:List Value} (hown:Row w v T sz n xs) {a:Addr} {m c:Nat} {news:List Value} (hl:news.length=m*sz) (hnews:∀ j u,news[j]?=some u→w.cell? (a.add j)=some u) (h1:∀ u ∈ news,u.oneCell'=true)
  (h63:n+m≤maxLen) (hbytes:(n+m)*bytes≤140737488355328) :
  ∃ v' w',(Builtin.append_ #[t,t] ty #[v,.slice (some a) m c]).run P w=.ok v' w'∧Row w' v' T sz (n+m) (xs++news)∧Keeps (fun b=>some b≠v.ownBlock) w w' ∧
   (v'.ownBlock=v.ownBlock∨∃ b,v'.ownBlock=some b∧w.heap.size≤b):=by
 obtain ⟨i,z,hi,hiz,hzc,hsz,hby⟩:=hE.inf
 have hzs:z.cells.size=i.size:=by rw [hzc,hsz]; simpa using hz
 subst hsz
 subst hby
 have hsmall:n+m≤9223372036854775807:=by simp only [maxLen] at h63; omega
 have hlen:(xs++news).length=(n+m)*i.size:=by rw [List.length_append,hown.1,hl,Nat.add_mul]
 have grown:∀ (old:Nat),old<n+m→∀ (row:Option Nat),
   Row (w.drew.alloc (.cells (xs.toArray++news.toArray++Builtin.zeroCells z.cells (grownCap w (n+m) old T - (n+m))) T)) (.slice (some ⟨w.heap.size,0,none⟩) (n+m) (grownCap w (n+m) old T)) T i.size (n+m) (xs++news) ∧
   Keeps (fun b=>some b≠row) w (w.drew.alloc (.cells (xs.toArray++news.toArray++Builtin.zeroCells z.cells (grownCap w (n+m) old T - (n+m))) T)):=by
  intro old ho row
  have hge:=grownCap_ge w (n+m) old T
  have hcm:grownCap w (n+m) old T≤maxLen:=grownCap_le_maxLen w (n+m) old T h63
  refine ⟨⟨hlen,.inr ⟨w.heap.size,0,_,_,rfl,heap_alloc_new w.drew _,hge,hcm,?_,?_⟩⟩,⟨rfl,rfl,rfl,by simp,fun k hk _=>heap_alloc_old w.drew _ k hk⟩⟩
  ·simp only [Array.size_append,List.size_toArray,size_zeroCells,hzs,hown.1,hl,← Nat.add_mul,Nat.zero_add]
   exact Nat.mul_le_mul_right _ (by omega)
  ·simp only [Array.toList_append,List.append_assoc,List.drop_zero]
   rw [← List.append_assoc,← hlen]
   exact List.take_left
 rcases hown.2 with ⟨rfl,rfl⟩ | ⟨g,o,cap,cur,rfl,hg,hnc,hcm,hcs,htake⟩
 ·have hx:xs=[]:=List.eq_nil_of_length_eq_zero (by simpa using hown.1)
  subst hx
  by_cases hm:m=0
  ·subst hm
   have hn:news=[]:=List.eq_nil_of_length_eq_zero (by simpa using hl)
   subst hn
   refine ⟨.slice none 0 0,w,?_,⟨by simp,.inl ⟨rfl,rfl⟩⟩,.refl w,.inl rfl⟩
   simp [Builtin.append_,run_underlying ht,sizeOf,typeInfo,hi,Builtin.lenOf,Builtin.firstCells,loadCells,loadCellsFrom]
  ·have hr:=run_append_nil (P:=P) w t ty T i z ht hi hiz a m c news hl hnews (by omega) (by omega) (by have hb:=hbytes; simp only [Nat.zero_add] at hb; omega)
   have hgr:=grown 0 (by omega) (Value.ownBlock (.slice none 0 0))
   simp only [Nat.zero_add,List.nil_append,Array.empty_append] at hgr ⊢
   exact ⟨_,_,hr,hgr.1,hgr.2,.inr ⟨_,rfl,Nat.le_refl _⟩⟩
 ·by_cases hroom:n+m≤cap
  ·have hmul:n*i.size+news.length≤cap*i.size:=by rw [hl,← Nat.add_mul]; exact Nat.mul_le_mul_right _ hroom
   have hfit:o+n*i.size+news.length≤cur.size:=by omega
   have hr:(Builtin.append_ #[t,t] ty #[.slice (some ⟨g,o,none⟩) n cap,.slice (some a) m c]).run P w =
     .ok (.slice (some ⟨g,o,none⟩) (n+m) cap) (w.setRow g (cur.toList.take (o+n*i.size)++news++cur.toList.drop (o+n*i.size+news.length)).toArray):=by
    have hf:=run_firstCells_some (P:=P) w i.size m a m c news hl hnews
    have hst:=run_storeCells_at P g (o+n*i.size) T news 0 cur w hg (by simpa using hfit) h1
    simp only [Nat.add_zero] at hst
    simp [Builtin.append_,run_underlying ht,sizeOf,typeInfo,hi,Builtin.lenOf,hroom,hf,add_addr,hst]
   refine ⟨_,_,hr,⟨hlen,.inr ⟨g,o,cap,_,rfl,setRow_heap w g cur _ T _ hg,hroom,hcm,?_,?_⟩⟩,⟨rfl,rfl,rfl,by simp [World.setRow],fun k _ hk=>setRow_other w g k _ (fun e=>hk (by simp [Value.ownBlock,e]))⟩,.inl rfl⟩
   ·simp only [List.size_toArray,List.length_append,List.length_take,List.length_drop,Array.length_toList]
    omega
   ·rw [← hlen,← htake]
    have e1:(cur.toList.take (o+n*i.size)).drop o=(cur.toList.drop o).take (n*i.size):=by
     rw [List.drop_take]; congr 1; omega
    have hlo:o≤(cur.toList.take (o+n*i.size)).length:=by simp; omega
    rw [List.append_assoc,List.drop_append_of_le_length hlo,e1,← List.append_assoc]
    exact List.take_left
  ·have holds:∀ j u,xs[j]?=some u→w.cell? ((⟨g,o,none⟩:Addr).add j)=some u:=by
    intro j u hu
    rw [add_addr,cell_of_row w g (o+j) cur T (0,0) hg]
    rw [← htake,List.getElem?_take] at hu
    split at hu
    ·rw [List.getElem?_drop] at hu; simpa using hu
    ·cases hu
   have hr:=run_append_grow (P:=P) w t ty T i z ht hi hiz ⟨g,o,none⟩ n cap xs hown.1 holds a m c news hl hnews (by omega) (by omega) (growslice_fits (by omega) hbytes)
   have hgr:=grown cap (by omega) (Value.ownBlock (.slice (some ⟨g,o,none⟩) n cap))
   exact ⟨_,_,hr,hgr.1,hgr.2,.inr ⟨_,rfl,Nat.le_refl _⟩⟩
theorem Sep.nilRow (h:Sep S S0 w0 w rs A) (T:TypeId) (sz:Nat):Sep S S0 w0 w (.row (.slice none 0 0) T sz 0 []::rs) A where
 keeps:=h.keeps
 all r hr:=by
  rcases List.mem_cons.1 hr with rfl | hr
  ·exact ⟨by simp,.inl ⟨rfl,rfl⟩⟩
  ·exact h.all r hr
 dis:=h.dis
 new:=h.new
 imm:=h.imm
theorem s_append {t:TypeId} {s x:Operand} {v:Value} {sz bytes k b o mm c:Nat} {xs news:List Value} (ht:P.underlying t=some (.slice T)) (hE:TI P T ag zc sz bytes) (hz:(zc.length == sz && decide (0<sz))=true)
  (hs:Ev fr s v) (hx:Ev fr x (.slice (some ⟨b,o,none⟩) mm c)) (hS:Sep S S0 w0 w rs A) (hl:Lk rs k (.row v T sz n xs)) (hnews:CellsAt w b o news) (hlen:news.length=mm*sz) (h1:news.all cellV=true)
  (hb:n+mm≤4294967296∧bytes≤4096)
  (h:∀ v' w' rs',Pt rs k (.row v' T sz (n+mm) (xs++news)) rs'→Sep S S0 w0 w' rs' A→Put fr dst v' fun fr'=>K fr' ds w') :
  OW P (Oper.mk dst (.call { callee:=.builtin .append,args:=#[s,x],argTypes:=#[t,t] }) ty pos after g) fr ds w K Q:=by
 simp only [Bool.and_eq_true,beq_iff_eq,decide_eq_true_eq] at hz
 have hbytes:(n+mm)*bytes≤140737488355328:=Nat.le_trans (Nat.mul_le_mul hb.1 hb.2) (by decide)
 obtain ⟨v',w',hr,hrow,hk,hv⟩:=run_append_row (P:=P) (ty:=ty) ht hE hz.1 hz.2 (hS.get hl) (a:=⟨b,o,none⟩) (c:=c) hlen (fun j u hu=>by rw [add_addr]; exact hnews j u hu) (fun u hu=>cell_one (List.all_eq_true.1 h1 u hu)) (by unfold maxLen; omega) hbytes
 obtain ⟨fr',hd⟩:=dt_ex fr dst v'
 refine op_v (v:=v') (w':=w') ?_ hd (h v' w' _ rfl (hS.row hl rfl hrow hk hv) fr' hd)
 have e1:=hs ds
 have e2:=hx ds
 simp [execOp,resolve,invoke,builtin,e1,e2,hr]
inductive RV (P:Program) (fr:List Value) (w:World):ResultVar→Value→Prop where
 | t {n:Nat} {v:Value} (h:Lk fr n v):RV P fr w (.tmp n) v
 | c {n b o:Nat} {v:Value} {T:TypeId} {zc:List Value} {k m:Nat} (h:Lk fr n (.pointer (some ⟨b,o,none⟩))) (hT:TI P T false zc k m) (hc:w.cell? ⟨b,o,none⟩=some v):RV P fr w (.cell n T) v
 | a {n b o:Nat} {cs:List Value} {T:TypeId} {zc:List Value} {k m:Nat} (h:Lk fr n (.pointer (some ⟨b,o,none⟩))) (hT:TI P T true zc k m) (hc:CellsAt w b o cs) (hk:cs.length=k):RV P fr w (.cell n T) (.agg ⟨cs⟩)
inductive RVs (P:Program) (fr:List Value) (w:World):List ResultVar→List Value→Prop where
 | z:RVs P fr w [] []
 | s {r:ResultVar} {v:Value} {rs:List ResultVar} {vs:List Value} (h:RV P fr w r v) (t:RVs P fr w rs vs):RVs P fr w (r::rs) (v::vs)
def readRV (tmps:Array Value):ResultVar→Sem Value
 | .tmp t=>pure (tmps.getD t undef)
 | .cell a t=>do loadVar t (← asAddr (tmps.getD a undef))
theorem results_eq (fn:Func) (tmps:Array Value):results fn tmps=(do
  let vs ← fn.results.mapM (readRV tmps)
  pure (if h:vs.size=1 then vs[0] else .tuple vs)):=by
 unfold results
 congr 1
theorem RV.run {r:ResultVar} {v:Value} (h:RV P fr w r v):(readRV (F fr ds).tmps r).run P w=.ok v w:=by
 cases h with
 | t h=>unfold Lk at h; simp [readRV,F,h]
 | c h hT hc=>unfold Lk at h; simp [readRV,F,h,asAddr,loadVar,hT.isAgg,hc]
 | a h hT hc hk =>
  unfold Lk at h
  rename_i n b o cs T zc k m
  have hl:=run_loadCells_list (P:=P) w ⟨b,o,none⟩ cs (fun j v hj=>by rw [add_addr]; exact hc j v hj)
  rw [hk] at hl
  simp [readRV,F,h,asAddr,loadVar,hT.isAgg,hT.sizeOf,hl]
theorem RVs.run {rs:List ResultVar} {vs:List Value} (h:RVs P fr w rs vs):(rs.mapM (readRV (F fr ds).tmps)).run P w=.ok vs w:=by
 induction h with
 | z=>simp
 | @s r v rs vs h _ ih =>
  have h1:=h.run (ds:=ds)
  simp only [List.mapM_cons,Sem.run_bind]
  rw [h1]
  simp only [Result.andThen_ok]
  rw [ih]
  simp
def tupV:List Value→Value
 | [v]=>v
 | vs=>.tuple ⟨vs⟩
theorem run_results {fn:Func} {rl:List ResultVar} {vs:List Value} (hr:fn.results=⟨rl⟩) (h:RVs P fr w rl vs):(results fn (F fr ds).tmps).run P w=.ok (tupV vs) w:=by
 have hm:=h.run (ds:=ds)
 rw [results_eq,hr]
 rw [Array.mapM_eq_mapM_toList]
 simp only [Sem.run_bind,Sem.run_map,hm,Result.andThen_ok]
 match vs with
 | []=>simp [tupV]
 | [v]=>simp [tupV]
 | v::v'::vs=>simp [tupV]
theorem retN {fn:Func} {R:Value→World→Prop} {rl:List ResultVar} {vs:List Value} (hr:fn.results=⟨rl⟩) (hv:RVs P fr w rl vs) (h:R (tupV vs) w):Post P fn R .ret (F fr []) w :=
 bodyPost_ret (run_results hr hv) rfl h
end
end Go.Wk
namespace Go.Wk
open Go.RowKit
section
variable {P:Program} {Q:Exit→Act→World→Prop} {K:List Value→List Deferred→World→Prop} {fr fr':List Value} {ds:List Deferred} {w:World}
variable {dst:Option Tmp} {ty:TypeId} {pos:String} {after:Array Edge} {g:Option (Nat×Bool)}
variable {S S0:Nat→Prop} {w0:World} {rs rs':List Res} {A:World→Prop}
variable {T:TypeId} {d:TypeDesc} {ag:Bool} {zc:List Value} {n m:Nat}
theorem Sep.blk {k b:Nat} {cs:List Value} (h:Sep S S0 w0 w rs A) (hl:Lk rs k (.blk b T cs)):Blk w b T cs:=h.get hl
inductive Sb:List Value→Nat→List Value→Prop where
 | z {cs:List Value} {o:Nat}:Sb cs o []
 | s {cs:List Value} {o:Nat} {v:Value} {vs:List Value} (h:Lk cs o v) (t:Sb cs (o+1) vs):Sb cs o (v::vs)
theorem Sb.at {cs:List Value} {o:Nat} {vs:List Value} (h:Sb cs o vs):∀ j v,vs[j]?=some v→cs[o+j]?=some v:=by
 induction h with
 | z=>intro j v h; simp at h
 | @s o v vs h t ih =>
  intro j u hj
  cases j with
  | zero=>simp at hj; subst hj; exact h
  | succ j=>have:=ih j u (by simpa using hj); rw [show o+(j+1)=o+1+j by omega]; exact this
theorem Blk.cellsAt {b o:Nat} {cs vs:List Value} (h:Blk w b T cs) (hs:Sb cs o vs):CellsAt w b o vs:=fun j v hj=>h.cell (hs.at j v hj)
theorem s_store1 {x y:Operand} {b o k:Nat} {v:Value} {cs cs':List Value} (hT:TI P T ag zc 1 m) (hx:Ev fr x (.pointer (some ⟨b,o,none⟩))) (hy:Ev fr y v) (hv:cellV v=true)
  (hS:Sep S S0 w0 w rs A) {T':TypeId} (hl:Lk rs k (.blk b T' cs)) (hs:Pt cs o v cs') (ho:(decide (o<cs.length))=true) (hp:Pt rs k (.blk b T' cs') rs')
  (hd:Dt fr dst undef fr') (h:∀ w',Sep S S0 w0 w' rs' A→K fr' ds w'):OW P (Oper.mk dst (.store T x y) ty pos after g) fr ds w K Q :=
 s_store (vs:=[v]) hT hx hy (cells_one hv) rfl (by simp [hv]) hS hl (.s hs (of_decide_eq_true ho) .z) (decide_eq_true (Nat.le_of_lt (of_decide_eq_true ho))) hp hd h
structure PL (P:Program) (T:TypeId) (pl:Array (Nat×Nat)):Prop where
 out:∃ fs,P.underlying T=some (.struct fs)∧∀ w,((fs.mapM fun f=>do pure (f.offset,← Go.sizeOf f.type):Sem (Array (Nat×Nat))).run P w)=.ok pl w
theorem pl_of {fs:Array Field} {pl:Array (Nat×Nat)} (hu:P.underlying T=some (.struct fs)) (h:∀ w,((fs.mapM fun f=>do pure (f.offset,← Go.sizeOf f.type):Sem (Array (Nat×Nat))).run P w)=.ok pl w):PL P T pl:=⟨fs,hu,h⟩
inductive Fl (fr:List Value) (pl:Array (Nat×Nat)):List Value→List (Nat×Operand)→List Value→Prop where
 | z {cs:List Value}:Fl fr pl cs [] cs
 | o {cs cs1 out:List Value} {i off:Nat} {x:Operand} {v:Value} {xs:List (Nat×Operand)} (hi:pl[i]?=some (off,1)) (hx:Ev fr x v) (hv:cellV v=true) (ho:decide (off<cs.length)=true) (hp:Pt cs off v cs1) (t:Fl fr pl cs1 xs out):Fl fr pl cs ((i,x)::xs) out
 | n {cs cs1 out vs:List Value} {i off n:Nat} {x:Operand} {xs:List (Nat×Operand)} (hi:pl[i]?=some (off,n)) (hx:Ev fr x (.agg ⟨vs⟩)) (hn:vs.length=n) (ho:decide (off+n≤cs.length)=true) (hp:Spl cs off vs cs1) (t:Fl fr pl cs1 xs out):Fl fr pl cs ((i,x)::xs) out
theorem foldl_splice:∀ (vs:List Value) (off j:Nat) (cs:List Value),off+j+vs.length≤cs.length →
  ((vs.zipIdx j).foldl (fun (cs:Array Value) (p:Value×Nat)=>cs.setIfInBounds (off+p.2) p.1) ⟨cs⟩)=⟨cs.take (off+j)++vs++cs.drop (off+j+vs.length)⟩
 | [],off,j,cs,_=>by simp
 | v::vs,off,j,cs,h=>by
  have hlt:off+j<cs.length:=by simp at h; omega
  rw [List.zipIdx_cons,List.foldl_cons]
  have e0:(⟨cs⟩:Array Value).setIfInBounds (off+j) v=⟨cs.set (off+j) v⟩:=by simp
  simp only [e0]
  rw [foldl_splice vs off (j+1) (cs.set (off+j) v) (by simp at h ⊢; omega)]
  have e2:(cs.set (off+j) v).take (off+(j+1))=cs.take (off+j)++[v]:=by
   rw [show off+(j+1)=off+j+1 by omega,List.take_set,List.take_add_one,List.getElem?_eq_getElem hlt]
   rw [List.set_append_right _ _ (by simp; omega)]
   simp [Nat.min_eq_left (Nat.le_of_lt hlt)]
  have e3:(cs.set (off+j) v).drop (off+(j+1)+vs.length)=cs.drop (off+j+(v::vs).length):=by
   rw [List.drop_set_of_lt (by omega)]
   congr 1
   simp; omega
  rw [e2,e3]
  simp
theorem Fl.run {pl:Array (Nat×Nat)} {cs out:List Value} {xs:List (Nat×Operand)} (h:Fl fr pl cs xs out):Instr.fill (pl[·]?) ⟨cs⟩ (xs.map fun p=>(p.1,(F fr ds).eval p.2))=some ⟨out⟩:=by
 induction h with
 | z=>rfl
 | @o cs cs1 out i off x v xs hi hx hv ho hp t ih =>
  have hlt:=of_decide_eq_true ho
  simp only [List.map_cons,Instr.fill,hi,hx ds,cells_one hv]
  have e0:¬ ((#[v].size≠1 || off+#[v].size > (⟨cs⟩:Array Value).size)=true):=by simp; omega
  rw [if_neg e0]
  have e1:(#[v].zipIdx.foldl (fun cs (c,j)=>cs.setIfInBounds (off+j) c) (⟨cs⟩:Array Value))=⟨cs1⟩:=by
   unfold Pt at hp
   subst hp
   simp [Array.zipIdx]
  rw [e1]
  exact ih
 | @n cs cs1 out vs i off n x xs hi hx hn ho hp t ih =>
  have hlt:=of_decide_eq_true ho
  simp only [List.map_cons,Instr.fill,hi,hx ds]
  have e0:¬ (((Value.agg ⟨vs⟩).cells.size≠n || off+(Value.agg ⟨vs⟩).cells.size > (⟨cs⟩:Array Value).size)=true):=by simp [Value.cells,hn]; omega
  rw [if_neg e0]
  have e1:((Value.agg ⟨vs⟩).cells.zipIdx.foldl (fun cs (c,j)=>cs.setIfInBounds (off+j) c) (⟨cs⟩:Array Value))=⟨cs1⟩:=by
   have:=foldl_splice vs off 0 cs (by omega)
   rw [hp.res (by omega)]
   simp only [Nat.add_zero] at this
   rw [← this]
   rw [← Array.foldl_toList]
   simp [Value.cells]
  rw [e1]
  exact ih
theorem s_build {pl:Array (Nat×Nat)} {xs:List (Nat×Operand)} {out:List Value} (hT:TI P T ag zc n m) (hpl:PL P T pl) (hf:Fl fr pl zc xs out) (hp:Dt fr dst (.agg ⟨out⟩) fr') (h:K fr' ds w) :
  OW P (Oper.mk dst (.build T ⟨xs⟩) ty pos after g) fr ds w K Q:=by
 refine op_v (v:=.agg ⟨out⟩) (w':=w) ?_ hp h
 obtain ⟨z,hz,hc⟩:=hT.zero (w:=w)
 have hr:=hf.run (ds:=ds)
 obtain ⟨fs,hund,hmm⟩:=hpl.out
 have hm:=hmm w
 have hl:((⟨xs⟩:Array (Nat×Operand)).map fun (i,x)=>(i,(F fr ds).eval x)).toList=xs.map fun p=>(p.1,(F fr ds).eval p.2):=by simp
 unfold execOp
 simp only [Instr.build,Sem.run_bind,hz,Result.andThen_ok,run_underlying hund]
 rw [hm]
 simp only [Result.andThen_ok,hc,hl]
 rw [hr]
 simp
theorem s_bsl1 {e:TypeId} {x:Operand} {cs:List Value} (hT:P.underlying T=some (.slice e)) (hE:TI P e ag zc n m) (hz:(zc.length == n && decide (0<n) && decide (n≤1000))=true) (hx:Ev fr x (.agg ⟨cs⟩)) (hn:cs.length=n) (hS:Sep S S0 w0 w rs A)
  (h:∀ b w',w.heap.size≤b→Sep S S0 w0 w' (.blk b e cs::rs) A→Put fr dst (.slice (some ⟨b,0,none⟩) 1 1) fun fr'=>K fr' ds w'):OW P (Oper.mk dst (.buildSlice T 1 #[(0,x)]) ty pos after g) fr ds w K Q:=by
 obtain ⟨fr',hd⟩:=dt_ex fr dst (.slice (some ⟨w.heap.size,0,none⟩) 1 1)
 refine op_v (v:=.slice (some ⟨w.heap.size,0,none⟩) 1 1) (w':=w.alloc (.cells ⟨cs⟩ e)) ?_ hd (h _ _ (Nat.le_refl _) (hS.alloc rfl (heap_alloc_new w _)) fr' hd)
 obtain ⟨z,hzz,hc⟩:=hE.zero (w:=w)
 have hE1:=hE.sizeOf (w:=w)
 simp only [Bool.and_eq_true,beq_iff_eq,decide_eq_true_eq] at hz
 have h2:¬ (1*n > 2 ^ 24):=by have:=hz.2; omega
 have h0:¬ (1*n=0):=by have:=hz.1.2; omega
 have hfill:∀ zs:Array Value,zs.size=n→Instr.fill (fun i=>some (i*n,n)) zs [(0,Value.agg ⟨cs⟩)]=some ⟨cs⟩:=by
  intro zs hzs
  simp only [Instr.fill]
  have e0:¬ (((Value.agg ⟨cs⟩).cells.size≠n || 0*n+(Value.agg ⟨cs⟩).cells.size > zs.size)=true):=by simp [Value.cells,hn,hzs]
  rw [if_neg e0]
  congr 1
  have h1:=foldl_splice cs (0*n) 0 zs.toList (by simp [hn,hzs])
  rw [← Array.foldl_toList]
  have e1:(Value.agg ⟨cs⟩).cells.zipIdx.toList=cs.zipIdx 0:=by simp [Value.cells]
  rw [e1]
  refine h1.trans ?_
  rw [List.drop_eq_nil_of_le (by simp [hn,hzs])]
  simp
 have hl:(#[(0,x)].map fun (i,x)=>(i,(F fr ds).eval x)).toList=[(0,Value.agg ⟨cs⟩)]:=by simp [hx ds]
 unfold execOp
 simp only [Instr.buildSlice,Sem.run_bind,run_underlying hT,Result.andThen_ok,hE1,if_neg h2,hl,if_neg h0,Sem.run_pure,hzz]
 rw [hfill _ (by simp)]
 simp [newRow]
end
theorem Sep.reput {S S0:Nat→Prop} {w0 w:World} {rs rs':List Res} {A:World→Prop} {k:Nat} {r:Res} (h:Sep S S0 w0 w (rs.set k r) A) (hp:Pt rs k r rs'):Sep S S0 w0 w rs' A:=by
 unfold Pt at hp
 rw [← hp]
 exact h
theorem Sep.drew {S S0:Nat→Prop} {w0 w w':World} {rs:List Res} {A:World→Prop} (h:Sep S S0 w0 w rs A) (hh:w'.heap=w.heap) (ho:w'.os=w.os) (ht:w'.tape=w.tape) (hu:w'.output=w.output):Sep S S0 w0 w' rs A :=
 h.grow ⟨ho,ht,hu,by rw [hh]; exact Nat.le_refl _,fun k _ _=>by rw [hh]⟩
section
variable {P:Program} {Q:Exit→Act→World→Prop} {K:List Value→List Deferred→World→Prop} {fr fr':List Value} {ds:List Deferred} {w:World}
variable {dst:Option Tmp} {ty:TypeId} {pos:String} {after:Array Edge} {g:Option (Nat×Bool)}
variable {T:TypeId}
theorem bytes_eq (a b:ByteArray):(a == b)=true ↔ a=b:=by
 obtain ⟨x⟩:=a
 obtain ⟨y⟩:=b
 constructor
 ·intro h
  have e:x=y:=by simpa using (show (x == y)=true from h)
  rw [e]
 ·intro h
  cases h
  show (x == x)=true
  simp
structure EqV (P:Program) (m:Nat) (T:TypeId) (v v':Value) (b:Bool):Prop where
 out:∀ d w,m≤d→(Op.equalIn d T v v').run P w=.ok b w
theorem eq_int {k k':IntKind} {a b:Int} (hu:P.underlying T=some (.int k)):EqV P 1 T (.int k' a) (.int k' b) (decide (a=b)):=⟨fun d w hd=>by
 cases d with
 | zero=>omega
 | succ d=>simp [Op.equalIn,run_underlying hu]; by_cases h:a=b <;> simp [h]⟩
def andL:List Bool→Bool
 | []=>true
 | [b]=>b
 | b::bs=>b && andL bs
theorem andL_cons (b:Bool) (bs:List Bool):andL (b::bs)=(b && andL bs):=by cases bs <;> simp [andL]
inductive EqFs (P:Program) (m:Nat) (xs ys:List Value):List Field→List Bool→Prop where
 | z:EqFs P m xs ys [] []
 | o {f : Field} {fl : List Field} {v v' : Value} {b : Bool} {bs : List Bool} {T : TypeId} {off : Nat} {zc : List Value} {n k : Nat} (hn : (f.name == "_") = false) (hft : f.type = T) (hfo : f.offset = off) (hT : TI P T false zc n k) (hx : Lk xs off v) (hy : Lk ys off v') (he : EqV P m T v v' b) (t : EqFs P m xs ys fl bs) : EqFs P m xs ys (f :: fl) (b :: bs)
 | n {f : Field} {fl : List Field} {vs vs' : List Value} {b : Bool} {bs : List Bool} {T : TypeId} {off : Nat} {zc : List Value} {n k : Nat} (hn : (f.name == "_") = false) (hft : f.type = T) (hfo : f.offset = off) (hT : TI P T true zc n k) (hx : Sb xs off vs) (hy : Sb ys off vs') (hl : vs.length = n) (hl' : vs'.length = n) (he : EqV P m T (.agg ⟨vs⟩) (.agg ⟨vs'⟩) b) (t : EqFs P m xs ys fl bs) : EqFs P m xs ys (f :: fl) (b :: bs)
structure ES (P:Program) (T:TypeId) (fl:List Field):Prop where
 und:P.underlying T=some (.struct ⟨fl⟩)
 held:P.stoodInHeld T=false
 guard:P.eqGuardType P.depth T=false
theorem run_part1 {zc:List Value} {n k off:Nat} {xs:List Value} {v:Value} (hT:TI P T false zc n k) (hx:Lk xs off v):(part T ⟨xs⟩ off).run P w=.ok v w:=by
 unfold Lk at hx
 simp [part,hT.isAgg,hx]
theorem Sb.extract {cs vs:List Value} {o:Nat} (h:Sb cs o vs):(cs.drop o).take vs.length=vs:=by
 induction h with
 | z=>simp
 | @s o v vs hv t ih =>
  unfold Lk at hv
  have hlt:o<cs.length:=(List.getElem?_eq_some_iff.1 hv).1
  rw [List.drop_eq_getElem_cons hlt,(List.getElem?_eq_some_iff.1 hv).2]
  simp [ih]
theorem run_partn {zc:List Value} {n k off:Nat} {xs vs:List Value} (hT:TI P T true zc n k) (hx:Sb xs off vs) (hn:vs.length=n):(part T ⟨xs⟩ off).run P w=.ok (.agg ⟨vs⟩) w:=by
 have:=hx.extract
 rw [hn] at this
 simp [part,hT.isAgg,hT.sizeOf,this]
theorem EqFs.run {m:Nat} {xs ys:List Value} {fl:List Field} {bs:List Bool} (h:EqFs P m xs ys fl bs) (d:Nat) (hd:m≤d) :
  (forIn (⟨fl⟩ : Array Field) ((none, ()) : Option Bool × Unit) (fun f _ => (if f.name ≠ "_" then do
     if !(← Op.equalIn d f.type (← part f.type ⟨xs⟩ f.offset) (← part f.type ⟨ys⟩ f.offset)) then pure (ForInStep.done (some false,())) else pure (ForInStep.yield (none,()))
    else pure (ForInStep.yield (none,())):Sem (ForInStep (Option Bool×Unit))))).run P w=.ok (if andL bs then (none,()) else (some false,())) w:=by
 induction h with
 | z=>simp [andL]
 | @o f fl v v' b bs T off zc n k hn hft hfo hT hx hy he t ih =>
  subst hft; subst hfo
  have hn' : f.name ≠ "_" := by simpa using hn
  simp only [List.forIn_toArray] at ih ⊢
  rw [List.forIn_cons]
  simp only [ne_eq,hn',not_false_eq_true,if_true,Sem.run_bind,run_part1 hT hx,run_part1 hT hy,Result.andThen_ok,he.out d w hd]
  cases b with
  | true=>simpa [andL_cons] using ih
  | false=>simp [andL_cons]
 | @n f fl vs vs' b bs T off zc n k hn hft hfo hT hx hy hl hl' he t ih =>
  subst hft; subst hfo
  have hn' : f.name ≠ "_" := by simpa using hn
  simp only [List.forIn_toArray] at ih ⊢
  rw [List.forIn_cons]
  simp only [ne_eq,hn',not_false_eq_true,if_true,Sem.run_bind,run_partn hT hx hl,run_partn hT hy hl',Result.andThen_ok,he.out d w hd]
  cases b with
  | true=>simpa [andL_cons] using ih
  | false=>simp [andL_cons]
theorem eq_agg {m:Nat} {xs ys:List Value} {fl:List Field} {bs:List Bool} (hE:ES P T fl) (h:EqFs P m xs ys fl bs):EqV P (m+1) T (.agg ⟨xs⟩) (.agg ⟨ys⟩) (andL bs):=⟨fun d w hd=>by
 cases d with
 | zero=>omega
 | succ d =>
  have:=h.run (w:=w) d (by omega)
  simp only [Op.equalIn,Sem.run_bind,run_underlying hE.und,Result.andThen_ok]
  rw [show (program).run P w=.ok P w from rfl]
  simp only [Result.andThen_ok,hE.held,Bool.false_eq_true,if_false,Sem.run_bind]
  rw [this]
  cases andL bs <;> rfl⟩
def IsSl (v:Value) (n:Nat):Prop:=∃ a c,v=.slice a n c
theorem u_lenv {x:Operand} {t e:TypeId} {v:Value} {n:Nat} (ht:P.underlying t=some (.slice e)) (hx:Ev fr x v) (hv:IsSl v n):PU P (Oper.mk dst (.call { callee:=.builtin .len,args:=#[x],argTypes:=#[t] }) ty pos after g) fr ((.int .i64 n)):=by
 obtain ⟨a,c,rfl⟩:=hv
 exact u_lensl ht hx
theorem s_lenv {x:Operand} {t e:TypeId} {v:Value} {n:Nat} (ht:P.underlying t=some (.slice e)) (hx:Ev fr x v) (hv:IsSl v n) (hp:Dt fr dst ((.int .i64 n)) fr') (h:K fr' ds w):OW P (Oper.mk dst (.call { callee:=.builtin .len,args:=#[x],argTypes:=#[t] }) ty pos after g) fr ds w K Q:=su (u_lenv ht hx hv) hp h
theorem Row.isSl {v:Value} {sz n:Nat} {xs:List Value} (h:Row w v T sz n xs):IsSl v n:=by
 rcases h.2 with ⟨rfl,rfl⟩ | ⟨g,o,cap,cur,rfl,-⟩
 ·exact ⟨_,_,rfl⟩
 ·exact ⟨_,_,rfl⟩
theorem Row.some' {v:Value} {sz n:Nat} {xs:List Value} (h:Row w v T sz n xs) (hn:0<n):∃ b o c,v=.slice (some ⟨b,o,none⟩) n c∧CellsAt w b o xs:=by
 rcases h.2 with ⟨rfl,rfl⟩ | ⟨g,o,cap,cur,rfl,hg,h1,h2,h3,h4⟩
 ·omega
 ·refine ⟨g,o,cap,rfl,fun j u hj=>?_⟩
  rw [cell_of_row w g (o+j) cur T (0,0) hg]
  rw [← h4,List.getElem?_take] at hj
  split at hj
  ·rw [List.getElem?_drop] at hj; simpa using hj
  ·cases hj
end
section
variable {P:Program} {Q:Exit→Act→World→Prop} {K:List Value→List Deferred→World→Prop} {fr fr':List Value} {ds:List Deferred} {w:World}
variable {dst:Option Tmp} {ty:TypeId} {pos:String} {after:Array Edge} {g:Option (Nat×Bool)}
variable {T:TypeId}
theorem run_guard {fl:List Field} {op:BinOp} {x y:Operand} {xs ys:Array Value} (hE:ES P T fl):(eqGuard op T x y (.agg xs) (.agg ys)).run P w=.ok () w:=by
 have hp:(program).run P w=.ok P w:=rfl
 cases op <;> simp [eqGuard,hp,hE.guard]
theorem u_eqa {x y:Operand} {t':TypeId} {m:Nat} {xs ys:List Value} {fl:List Field} {bs:List Bool} (hE:ES P T fl) (hx:Ev fr x (.agg ⟨xs⟩)) (hy:Ev fr y (.agg ⟨ys⟩)) (h:EqFs P m xs ys fl bs) (hm:(decide (m<1000))=true) :
  PU P (Oper.mk dst (.binOp .eql T x y t') ty pos after g) fr (.bool (andL bs)):=⟨fun ds w=>by
 have h1:=hx ds
 have h2:=hy ds
 have h3:=(eq_agg hE h).out Op.maxDepth w (by have:=of_decide_eq_true hm; unfold Op.maxDepth; omega)
 have h4:=run_guard (w:=w) (op:=.eql) (x:=x) (y:=y) (xs:=⟨xs⟩) (ys:=⟨ys⟩) hE
 simp [execOp,h1,h2,h4,binOp,Op.equal,h3]⟩
end
theorem Row.at' {w:World} {T:TypeId} {sz n b o c m:Nat} {xs:List Value} (h:Row w (.slice (some ⟨b,o,none⟩) m c) T sz n xs):CellsAt w b o xs:=by
 rcases h.2 with ⟨h1,-⟩ | ⟨g,o,cap,cur,h1,hg,h2,h3,h4,h5⟩
 ·cases h1
 ·cases h1
  exact fun j u hj=>by
   rw [cell_of_row w b (o+j) cur T (0,0) hg]
   rw [← h5,List.getElem?_take] at hj
   split at hj
   ·rw [List.getElem?_drop] at hj; simpa using hj
   ·cases hj
section
variable {P:Program} {Q:Exit→Act→World→Prop} {K:List Value→List Deferred→World→Prop} {fr fr':List Value} {ds:List Deferred} {w:World}
variable {dst:Option Tmp} {ty:TypeId} {pos:String} {after:Array Edge} {g:Option (Nat×Bool)}
variable {S S0:Nat→Prop} {w0:World} {rs rs':List Res} {A:World→Prop}
variable {T:TypeId}
end
end Go.Wk
namespace Go.Wk
open Go.RowKit
theorem map_congr_arr {α β:Type} {f g:α→β} {xs:Array α} (h:∀ x ∈ xs,f x=g x):xs.map f=xs.map g:=Array.map_congr_left h
def noSel:Op→Bool
 | .select _ _=>false
 | _=>true
theorem execOp_congr {f g:Operand→Value} (o:Oper) (hs:noSel o.op=true) (h:∀ x ∈ o.op.operands,f x=g x):execOp f o=execOp g o:=by
 obtain ⟨dst,op,ty,pos,after,gd⟩:=o
 have hc:∀ c:Call,(∀ x ∈ c.operands,f x=g x)→resolve f c ty=resolve g c ty:=by
  intro c hc
  have ha:c.args.map f=c.args.map g:=map_congr_arr fun x hx=>hc x (by simp [Call.operands,hx])
  unfold resolve
  rw [ha]
  obtain ⟨callee,args,tys⟩:=c
  cases callee with
  | value x=>simp only; rw [hc x (by simp [Call.operands])]
  | invoke x m=>simp only; rw [hc x (by simp [Call.operands])]
  | builtin b=>rfl
 cases op <;> simp only [Op.operands,List.mem_toArray,List.mem_cons,List.not_mem_nil,or_false,forall_eq_or_imp,forall_eq,Array.mem_append,List.mem_map] at h <;> simp only [execOp]
 case build t ps =>
  have:(ps.map fun (i,x)=>(i,f x))=ps.map fun (i,x)=>(i,g x):=map_congr_arr fun p hp=>by simp only; rw [h p.2 ⟨p,by simpa using hp,rfl⟩]
  rw [this]
 case buildSlice t n ps =>
  have:(ps.map fun (i,x)=>(i,f x))=ps.map fun (i,x)=>(i,g x):=map_congr_arr fun p hp=>by simp only; rw [h p.2 ⟨p,by simpa using hp,rfl⟩]
  rw [this]
 case makeFunc fn a b =>
  rw [map_congr_arr (f:=f) (g:=g) (xs:=a) fun x hx=>h x (.inl hx),map_congr_arr (f:=f) (g:=g) (xs:=b) fun x hx=>h x (.inr hx)]
 case makeMap t r=>cases r with
  | none=>rfl
  | some x=>simp only [Option.map]; rw [h x (by simp)]
 case slice t x lo hi mx =>
  have hx:=h x (by simp)
  have h1:lo.map f=lo.map g:=by cases lo with
   | none=>rfl
   | some y=>simp only [Option.map]; rw [h y (by simp)]
  have h2:hi.map f=hi.map g:=by cases hi with
   | none=>rfl
   | some y=>simp only [Option.map]; rw [h y (by simp)]
  have h3:mx.map f=mx.map g:=by cases mx with
   | none=>rfl
   | some y=>simp only [Option.map]; rw [h y (by simp)]
  rw [hx,h1,h2,h3]
 case call c=>rw [hc c h]
 case go c=>rw [hc c h]
 case defer c=>rw [hc c h]
 case select cs b=>exact absurd hs (by simp [noSel])
 all_goals (try (simp only [h]))
def deps (ops:Array Oper) (i:Nat):List Nat:=match ops[i]? with
 | some o=>(o.after.toList.filter (Region.binds .any)).map (·.on)
 | none=>[]
def enabled (ops:Array Oper) (R:List Nat) (i:Nat):Bool:=R.contains i && (deps ops i).all fun j=>!R.contains j
inductive LinExt (ops:Array Oper):List Nat→List Nat→Prop where
 | z:LinExt ops [] []
 | s {R π:List Nat} {i:Nat} (h:enabled ops R i=true) (t:LinExt ops (R.erase i) π):LinExt ops R (i::π)
theorem enabled_mem {ops:Array Oper} {R:List Nat} {i:Nat} (h:enabled ops R i=true):i ∈ R:=by
 simp only [enabled,Bool.and_eq_true,List.contains_iff_mem] at h
 exact h.1
theorem enabled_dep {ops:Array Oper} {R:List Nat} {i j:Nat} (h:enabled ops R i=true) (hj:j ∈ deps ops i):j ∉ R:=by
 simp only [enabled,Bool.and_eq_true,List.all_eq_true] at h
 have:=h.2 j hj
 simpa using this
def left (n:Nat) (listed:Array Bool):List Nat:=(List.range n).filter fun i=>!listed.getD i true
theorem left_nodup (n:Nat) (listed:Array Bool):(left n listed).Nodup:=List.nodup_range.filter _
theorem left_set {n:Nat} {listed:Array Bool} (hs:listed.size=n) {i:Nat} (hi:i ∈ left n listed):left n (listed.setIfInBounds i true)=(left n listed).erase i:=by
 rw [(left_nodup n listed).erase_eq_filter]
 unfold left
 rw [List.filter_filter]
 apply List.filter_congr
 intro j hj
 have hjn:j<n:=List.mem_range.1 hj
 have hjl:j<listed.size:=by omega
 simp only [Array.getD_eq_getD_getElem?,Array.getElem?_setIfInBounds]
 by_cases e:i=j
 ·subst e
  simp [hjl]
 ·simp [e,Ne.symm e]
theorem low_of {ops:Array Oper} {n:Nat} (hlow:(List.range n).all (fun i=>(deps ops i).all fun j=>decide (j<i))=true) {i j:Nat} (hi:i<n) (hj:j ∈ deps ops i):j<i:=by
 simp only [List.all_eq_true,List.mem_range,decide_eq_true_eq] at hlow
 exact hlow i hi j hj
theorem go_lin {ops:Array Oper} (hlow:(List.range ops.size).all (fun i=>(deps ops i).all fun j=>decide (j<i))=true) :
  ∀ (fuel t:Nat) (listed:Array Bool) (acc:List Nat),listed.size=ops.size→(left ops.size listed).length≤fuel→∃ π,Region.linearise.go .any ops fuel t listed acc=acc.reverse++π∧LinExt ops (left ops.size listed) π
 | 0,t,listed,acc,hs,hf=>by
  have h0:left ops.size listed=[]:=List.eq_nil_of_length_eq_zero (by omega)
  exact ⟨[],by simp [Region.linearise.go],by rw [h0]; exact .z⟩
 | fuel+1,t,listed,acc,hs,hf=>by
  rw [Region.linearise.go]
  generalize hrs:(List.filter (fun i=>!listed.getD i true && (Option.map (fun x=>x.after.all fun e=>!Region.binds .any e || listed.getD e.on false) ops[i]?).getD false) (List.range ops.size))=rs
  have hmem:∀ i,i ∈ rs ↔ enabled ops (left ops.size listed) i=true:=by
   intro i
   rw [← hrs]
   simp only [List.mem_filter,List.mem_range,Bool.and_eq_true,enabled,List.contains_iff_mem,left,deps]
   constructor
   ·rintro ⟨h1,h2,h3⟩
    refine ⟨⟨h1,h2⟩,?_⟩
    rw [Array.getElem?_eq_getElem h1] at h3 ⊢
    simp only [Option.map_some,Option.getD_some,Array.all_eq_true',Bool.or_eq_true,Bool.not_eq_true'] at h3
    simp only [List.all_eq_true,List.mem_map,List.mem_filter,forall_exists_index,and_imp]
    rintro j e he hb rfl
    have:=h3 e (by simpa using he)
    rcases this with h | h
    ·rw [h] at hb; cases hb
    ·simp only [Bool.not_eq_true',List.contains_eq_mem,decide_eq_false_iff_not,List.mem_filter,List.mem_range,not_and,Bool.not_eq_true,Bool.not_eq_false]
     intro hlt
     have hlt':e.on<listed.size:=by omega
     simp only [Array.getD,hlt',dif_pos] at h ⊢
     exact h
   ·rintro ⟨⟨h1,h2⟩,h3⟩
    refine ⟨h1,h2,?_⟩
    rw [Array.getElem?_eq_getElem h1] at h3 ⊢
    simp only [Option.map_some,Option.getD_some,Array.all_eq_true',Bool.or_eq_true,Bool.not_eq_true']
    simp only [List.all_eq_true,List.mem_map,List.mem_filter,forall_exists_index,and_imp] at h3
    intro e he
    cases hb:Region.binds .any e with
    | false=>exact .inl rfl
    | true =>
     right
     have:=h3 e.on e (by simpa using he) hb rfl
     simp only [Bool.not_eq_true',List.contains_eq_mem,decide_eq_false_iff_not,List.mem_filter,List.mem_range,not_and,Bool.not_eq_true,Bool.not_eq_false] at this
     have hlt:e.on<i:=low_of hlow h1 (by
      unfold deps
      rw [Array.getElem?_eq_getElem h1]
      simp only [List.mem_map,List.mem_filter]
      exact ⟨e,⟨by simpa using he,hb⟩,rfl⟩)
     have h4:=this (by omega)
     have hlt':e.on<listed.size:=by omega
     simp only [Array.getD,hlt',dif_pos] at h4 ⊢
     exact h4
  by_cases h0:left ops.size listed=[]
  ·have hr0:rs=[]:=by
    rw [List.eq_nil_iff_forall_not_mem]
    intro i hi
    have:=enabled_mem ((hmem i).1 hi)
    rw [h0] at this
    cases this
   rw [hr0]
   simp only [List.length_nil,Nat.mod_zero,List.getElem?_nil]
   exact ⟨[],by simp,by rw [h0]; exact .z⟩
  ·-- the least of what is left may be next
   have hpos:0<rs.length:=by
    obtain ⟨i,hi,hmin⟩:∃ i,i ∈ left ops.size listed∧∀ j,j<i→j ∉ left ops.size listed:=by
     obtain ⟨a,ha⟩:=List.exists_mem_of_ne_nil _ h0
     induction a using Nat.strongRecOn with
     | _ a ih =>
      by_cases hex:∃ j,j<a∧j ∈ left ops.size listed
      ·obtain ⟨j,hj,hjm⟩:=hex
       exact ih j hj hjm
      ·exact ⟨a,ha,fun j hj hm=>hex ⟨j,hj,hm⟩⟩
    have hen:enabled ops (left ops.size listed) i=true:=by
     simp only [enabled,Bool.and_eq_true,List.contains_iff_mem,List.all_eq_true]
     refine ⟨hi,fun j hj=>?_⟩
     have:=hmin j (low_of hlow (List.mem_range.1 (List.mem_filter.1 hi).1) hj)
     simpa using this
    exact List.length_pos_of_mem ((hmem i).2 hen)
   have hlt:t % rs.length<rs.length:=Nat.mod_lt _ hpos
   rw [List.getElem?_eq_getElem hlt]
   simp only
   have hen:=(hmem _).1 (List.getElem_mem hlt)
   generalize rs[t % rs.length]=i at hen ⊢
   have hi:=enabled_mem hen
   obtain ⟨π,h1,h2⟩:=go_lin hlow fuel (t / rs.length) (listed.setIfInBounds i true) (i::acc) (by simpa using hs) (by
    rw [left_set hs hi,List.length_erase_of_mem hi]
    omega)
   refine ⟨i::π,?_,.s hen ?_⟩
   ·rw [h1]; simp
   ·rw [← left_set hs hi]; exact h2
theorem linearise_lin {ops:Array Oper} (hlow:(List.range ops.size).all (fun i=>(deps ops i).all fun j=>decide (j<i))=true) (t:Nat):LinExt ops (List.range ops.size) (Region.linearise .any ops t):=by
 have hl:left ops.size (Array.replicate ops.size false)=List.range ops.size:=by
  unfold left
  rw [List.filter_eq_self]
  intro i hi
  have:=List.mem_range.1 hi
  simp [Array.getD,this]
 obtain ⟨π,h1,h2⟩:=go_lin hlow ops.size t (Array.replicate ops.size false) [] (by simp) (by rw [hl]; simp)
 unfold Region.linearise
 rw [h1]
 rw [hl] at h2
 simpa using h2
def slotOf:Operand→Option Nat
 | .tmp t=>some t
 | _=>none
def reads (ops:Array Oper) (o:Oper):List Nat :=
 o.op.operands.toList.filterMap slotOf++(match o.guard with
  | some (j,_)=>((ops[j]?).bind (·.dst)).toList
  | none=>[])
section
variable {P:Program} {α β:Type}
end
section
variable {P:Program} {Q:Exit→Act→World→Prop} {ops:Array Oper} {fr fr':List Value} {ds:List Deferred} {w:World}
theorem eval_set {fr:List Value} {ds ds':List Deferred} {d:Nat} {v:Value} {x:Operand} (h:slotOf x≠some d):(F (fr.set d v) ds).eval x=(F fr ds').eval x:=by
 cases x with
 | tmp t =>
  have:d≠t:=fun e=>h (by simp [slotOf,e])
  simp [F,Act.eval,List.getElem?_set_ne this]
 | const v=>rfl
 | global g=>rfl
 | func f=>rfl
theorem reads_op {o:Oper} {d:Nat} (h:(reads ops o).contains d=false):∀ x ∈ o.op.operands,slotOf x≠some d:=by
 intro x hx e
 have:d ∈ reads ops o:=by
  unfold reads
  exact List.mem_append.2 (.inl (List.mem_filterMap.2 ⟨x,by simpa using hx,e⟩))
 rw [List.contains_iff_mem.2 this] at h
 cases h
theorem exec_set {o:Oper} {d:Nat} {v:Value} {ds':List Deferred} (hs:noSel o.op=true) (h:(reads ops o).contains d=false):execOp (F (fr.set d v) ds).eval o=execOp (F fr ds').eval o :=
 execOp_congr o hs fun x hx=>eval_set (reads_op h x hx)
theorem wanted_set {o:Oper} {d:Nat} {v:Value} {ds':List Deferred} (h:(reads ops o).contains d=false):Region.wanted o (yielded ops (F (fr.set d v) ds).tmps)=Region.wanted o (yielded ops (F fr ds').tmps):=by
 unfold Region.wanted
 cases hg:o.guard with
 | none=>rfl
 | some jb =>
  obtain ⟨j,b⟩:=jb
  simp only
  congr 1
  unfold yielded
  cases hj:(ops[j]?).bind (·.dst) with
  | none=>rfl
  | some e =>
   have hne:d≠e:=by
    intro he
    have:d ∈ reads ops o:=by
     unfold reads
     rw [hg]
     exact List.mem_append.2 (.inr (by simp only; rw [hj]; simp [he]))
    rw [List.contains_iff_mem.2 this] at h
    cases h
   simp [F,List.getElem?_set_ne hne]
theorem put_eq (fr:List Value) (ds:List Deferred) (dst:Option Tmp) (x:Value):∃ g:List Value→List Value,(∀ fr ds,(F fr ds).put dst x=F (g fr) ds)∧(∀ (fr:List Value) (d:Nat) (v:Value),dst≠some d→g (fr.set d v)=(g fr).set d v)∧(∀ (fr:List Value) (y:Operand) (ds ds':List Deferred),(∀ e,dst=some e→slotOf y≠some e)→(F (g fr) ds).eval y=(F fr ds').eval y):=by
 cases dst with
 | none=>exact ⟨id,fun _ _=>rfl,fun _ _ _ _=>rfl,fun fr y ds ds' _=>by cases y <;> rfl⟩
 | some n =>
  refine ⟨fun fr=>fr.set n x,fun fr ds=>dt rfl ds,fun fr d v h=>?_,fun fr y ds ds' h=>eval_set (h n rfl)⟩
  have:d≠n:=fun e=>h (by rw [e])
  exact List.set_comm _ _ this
def Blind (Q:Exit→Act→World→Prop) (d:Nat):Prop:=∀ ch (fr:List Value) (v:Value) (ds:List Deferred) w,Q (.panic ch) (F (fr.set d v) ds) w→Q (.panic ch) (F fr ds) w
structure SC (P:Program) (ops:Array Oper) (Q:Exit→Act→World→Prop) (R:List Nat) (fr:List Value) (ds:List Deferred) (w:World):Prop where
 out:∀ π,LinExt ops R π→wpOps P ops Q π (F fr ds) w
theorem cdraw {id:Nat} {l:List Oper} (hm:P.follows .mixedOrders=true) (hlow:(List.range l.toArray.size).all (fun i=>(deps l.toArray i).all fun j=>decide (j<i))=true)
  (h:∀ w',w'.heap=w.heap→w'.os=w.os→w'.tape=w.tape→w'.output=w.output→SC P l.toArray Q (List.range l.length) fr ds w'):CW P (.region id l.toArray true) Q fr ds w:=by
 constructor
 refine wp_region_draw fun t=>?_
 have hs:Region.schedule (P.follows .mixedOrders) l.toArray t=Region.linearise .any l.toArray t:=by
  unfold Region.schedule
  rw [hm]
  rfl
 rw [hs]
 have hl:=linearise_lin hlow t
 have:=(h { w with drawn:=w.drawn+1 } rfl rfl rfl rfl).out _ (by simpa using hl)
 exact this
def nexts (ops:Array Oper) (R:List Nat):List Nat:=R.filter (enabled ops R)
theorem LinExt.split {R π:List Nat} (h:LinExt ops R π) (hn:R.Nodup) {i:Nat} (hi:i ∈ R) (hen:enabled ops R i=true) :
  ∃ l1 l2,π=l1++i::l2∧LinExt ops (R.erase i) (l1++l2)∧∀ j ∈ l1,j ∈ R∧j≠i∧i ∉ deps ops j:=by
 induction h with
 | z=>cases hi
 | @s R π k hk t ih =>
  by_cases e:k=i
  ·subst e
   exact ⟨[],π,rfl,t,by simp⟩
  ·have hin:i ∈ R.erase k:=(hn.mem_erase_iff).2 ⟨fun h=>e h.symm,hi⟩
   have hen':enabled ops (R.erase k) i=true:=by
    simp only [enabled,Bool.and_eq_true,List.contains_iff_mem,List.all_eq_true] at hen ⊢
    refine ⟨hin,fun j hj=>?_⟩
    have:=hen.2 j hj
    simp only [Bool.not_eq_true',List.contains_eq_mem,decide_eq_false_iff_not] at this ⊢
    exact fun hm=>this (List.mem_of_mem_erase hm)
   obtain ⟨l1,l2,h1,h2,h3⟩:=ih (hn.erase k) hin hen'
   refine ⟨k::l1,l2,by rw [h1]; rfl,?_,?_⟩
   ·refine .s ?_ (by rw [List.erase_comm]; exact h2)
    simp only [enabled,Bool.and_eq_true,List.contains_iff_mem,List.all_eq_true] at hk ⊢
    refine ⟨(hn.mem_erase_iff).2 ⟨e,hk.1⟩,fun j hj=>?_⟩
    have:=hk.2 j hj
    simp only [Bool.not_eq_true',List.contains_eq_mem,decide_eq_false_iff_not] at this ⊢
    exact fun hm=>this (List.mem_of_mem_erase hm)
   ·intro j hj
    rcases List.mem_cons.1 hj with rfl | hj
    ·exact ⟨enabled_mem hk,e,fun hd=>enabled_dep hk hd hi⟩
    ·obtain ⟨a,b,c⟩:=h3 j hj
     exact ⟨List.mem_of_mem_erase a,b,c⟩
theorem blind_of {d:Nat} (h:∀ ch a w,Q (.panic ch) a w→False):Blind Q d:=fun ch fr v ds w hq=>(h ch _ w hq).elim
end
end Go.Wk
