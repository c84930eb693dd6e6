/- Texts of Wk. -/
import Derived.Tactics
import Derived.Defers
import Derived.Recover
import Derived.Lib.Strings
import Derived.Laws.Append
import Derived.Below
import Derived.Laws.AppendOwn
set_option linter.unusedSimpArgs false
set_option linter.unusedVariables false
set_option linter.unusedSectionVars false
namespace Go.bc
open Go.RowKit
def hc {α:Type} (l:List α) (n:Nat) (v:α):Prop:=l[n]?=some v
def Ac {α:Type} (l:List α) (n:Nat) (v:α) (Ia:List α):Prop:=l.set n v=Ia
theorem d0 {α:Type} {v:α} {l:List α}:hc (v::l) 0 v:=rfl
theorem Ga {α:Type} {x v:α} {l:List α}:Ac (x::l) 0 v (v::l):=rfl
theorem d1 {α:Type} {a0:α} {v:α} {l:List α}:hc (a0::v::l) 1 v:=rfl
theorem kb {α:Type} {a0:α} {x v:α} {l:List α}:Ac (a0::x::l) 1 v (a0::v::l):=rfl
theorem d2 {α:Type} {a0 xa:α} {v:α} {l:List α}:hc (a0::xa::v::l) 2 v:=rfl
theorem Ib {α:Type} {a0 xa:α} {x v:α} {l:List α}:Ac (a0::xa::x::l) 2 v (a0::xa::v::l):=rfl
theorem d3 {α:Type} {a0 xa a2:α} {v:α} {l:List α}:hc (a0::xa::a2::v::l) 3 v:=rfl
theorem ec {α:Type} {a0 xa a2:α} {x v:α} {l:List α}:Ac (a0::xa::a2::x::l) 3 v (a0::xa::a2::v::l):=rfl
theorem d4 {α:Type} {a0 xa a2 a3:α} {v:α} {l:List α}:hc (a0::xa::a2::a3::v::l) 4 v:=rfl
theorem hd {α:Type} {a0 xa a2 a3:α} {x v:α} {l:List α}:Ac (a0::xa::a2::a3::x::l) 4 v (a0::xa::a2::a3::v::l):=rfl
theorem d5 {α:Type} {a0 xa a2 a3 a4:α} {v:α} {l:List α}:hc (a0::xa::a2::a3::a4::v::l) 5 v:=rfl
theorem cd {α:Type} {a0 xa a2 a3 a4:α} {x v:α} {l:List α}:Ac (a0::xa::a2::a3::a4::x::l) 5 v (a0::xa::a2::a3::a4::v::l):=rfl
theorem d6 {α:Type} {a0 xa a2 a3 a4 a5:α} {v:α} {l:List α}:hc (a0::xa::a2::a3::a4::a5::v::l) 6 v:=rfl
theorem ad {α:Type} {a0 xa a2 a3 a4 a5:α} {x v:α} {l:List α}:Ac (a0::xa::a2::a3::a4::a5::x::l) 6 v (a0::xa::a2::a3::a4::a5::v::l):=rfl
theorem d7 {α:Type} {a0 xa a2 a3 a4 a5 Tb:α} {v:α} {l:List α}:hc (a0::xa::a2::a3::a4::a5::Tb::v::l) 7 v:=rfl
theorem sd {α:Type} {a0 xa a2 a3 a4 a5 Tb:α} {x v:α} {l:List α}:Ac (a0::xa::a2::a3::a4::a5::Tb::x::l) 7 v (a0::xa::a2::a3::a4::a5::Tb::v::l):=rfl
theorem d8 {α:Type} {a0 xa a2 a3 a4 a5 Tb ic:α} {v:α} {l:List α}:hc (a0::xa::a2::a3::a4::a5::Tb::ic::v::l) 8 v:=rfl
theorem Yd {α:Type} {a0 xa a2 a3 a4 a5 Tb ic:α} {x v:α} {l:List α}:Ac (a0::xa::a2::a3::a4::a5::Tb::ic::x::l) 8 v (a0::xa::a2::a3::a4::a5::Tb::ic::v::l):=rfl
theorem d9 {α:Type} {a0 xa a2 a3 a4 a5 Tb ic Db:α} {v:α} {l:List α}:hc (a0::xa::a2::a3::a4::a5::Tb::ic::Db::v::l) 9 v:=rfl
theorem Ed {α:Type} {a0 xa a2 a3 a4 a5 Tb ic Db:α} {x v:α} {l:List α}:Ac (a0::xa::a2::a3::a4::a5::Tb::ic::Db::x::l) 9 v (a0::xa::a2::a3::a4::a5::Tb::ic::Db::v::l):=rfl
def F (fr:List Value) (ds:List Deferred):Act:=⟨⟨fr⟩,ds⟩
def wb (fr:List Value) (x:Operand) (v:Value):Prop:=∀ ds,(F fr ds).eval x=v
theorem aa {fr:List Value} {n:Nat} {v:Value} (h:hc fr n v):wb fr (.tmp n) v:=by
 intro ds
 unfold hc at h
 simp [F,Act.eval,h]
theorem Ba {fr:List Value} {v:Value}:wb fr (.const v) v:=fun _=>rfl
theorem nd {fr:List Value} {f:Nat}:wb fr (.func f) (.func (.func f) #[] #[]):=fun _=>rfl
def hf (fr:List Value) (dst:Option Tmp) (v:Value) (Ca:List Value):Prop:=∀ ds,(F fr ds).put dst v=F Ca ds
theorem Ma {fr:List Value} {v:Value}:hf fr none v fr:=fun _=>rfl
theorem ma {fr Ca:List Value} {n:Nat} {v:Value} (h:Ac fr n v Ca):hf fr (some n) v Ca:=by
 intro ds
 unfold Ac at h
 subst h
 simp [F,Act.put]
theorem hf.rw {fr Ca:List Value} {dst:Option Tmp} {v:Value} (h:hf fr dst v Ca) {K:Act→World→Prop} {ds:List Deferred} {w:World} (k:K (F Ca ds) w):K ((F fr ds).put dst v) w:=by
 rw [h ds]; exact k
def Xm (fr:List Value) (xs:List Operand) (vs:List Value):Prop:=∀ ds,xs.map (F fr ds).eval=vs
theorem hb {fr:List Value}:Xm fr [] []:=fun _=>rfl
theorem sa {fr:List Value} {x:Operand} {v:Value} {xs:List Operand} {vs:List Value} (h:wb fr x v) (a:Xm fr xs vs):Xm fr (x::xs) (v::vs):=by
 intro ds
 simp [h ds,a ds]
structure He (P:Program) (c:Code) (Q:Exit→Act→World→Prop) (fr:List Value) (ds:List Deferred) (w:World):Prop where
 out:c.wp P Q (F fr ds) w
structure qf (P:Program) (ops:Array Oper) (Q:Exit→Act→World→Prop) (l:List Oper) (fr:List Value) (ds:List Deferred) (w:World):Prop where
 out:wpList P ops Q l (F fr ds) w
structure Zd (P:Program) (o:Oper) (fr:List Value) (ds:List Deferred) (w:World) (K:List Value→List Deferred→World→Prop) (Q:Exit→Act→World→Prop):Prop where
 out:∀ a:Act→World→Prop,(∀ fr ds w,K fr ds w→a (F fr ds) w)→o.wp P (F fr ds) w a Q
def Ip (P:Program) (c:Code) (Q:Exit→Act→World→Prop):Act→World→Prop:=fun a w=>∃ fr ds,a=F fr ds∧He P c Q fr ds w
section code
variable {P:Program} {Q:Exit→Act→World→Prop} {fr:List Value} {ds:List Deferred} {w:World}
theorem db {x y:Code} (h:He P x (Exit.then (Ip P y Q) Q) fr ds w):He P (.seq x y) Q fr ds w :=
 ⟨wp_seq (wp_mono h.out fun e a w b=>by
  cases e with
  | normal=>obtain ⟨fr,ds,rfl,h⟩:=b; exact h.out
  | exit id=>exact b
  | goto l=>exact b
  | ret=>exact b
  | panic c=>exact b
  | outgrown=>exact b)⟩
theorem eb {id:Nat} {l:List Oper} (h:qf P l.toArray Q l fr ds w):He P (.region id l.toArray false) Q fr ds w:=⟨wp_region_lit h.out⟩
theorem Va (h:Q .normal (F fr ds) w):He P .skip Q fr ds w:=⟨wp_skip h⟩
theorem Ra (h:Q .ret (F fr ds) w):He P .ret Q fr ds w:=⟨wp_ret h⟩
theorem ke {id:Nat} (h:Q (.exit id) (F fr ds) w):He P (.exit id) Q fr ds w:=⟨wp_exit h⟩
theorem Qb {id:Nat} {c:Code} (h:He P c (Exit.inBlock id Q) fr ds w):He P (.block id c) Q fr ds w:=⟨wp_block h.out⟩
theorem Ey {c:Operand} {x y:Code} {b:Bool} (a:wb fr c (.bool b)) (d:b=true→He P x Q fr ds w) (e:b=false→He P y Q fr ds w) :
  He P (.cond c x y) Q fr ds w:=⟨wp_cond_split (a ds) (fun h=>(d h).out) fun h=>(e h).out⟩
theorem uy {c:Operand} {x y:Code} {p:Prop} [Decidable p] (a:wb fr c (.bool (decide p))) (b:p→He P x Q fr ds w) (d:¬ p→He P y Q fr ds w) :
  He P (.cond c x y) Q fr ds w:=Ey a (fun h=>b (of_decide_eq_true h)) (fun h=>d (of_decide_eq_false h))
theorem Bm {c:Operand} {x y:Code} (a:wb fr c (.bool true)) (b:He P x Q fr ds w):He P (.cond c x y) Q fr ds w:=⟨wp_cond_true (a ds) b.out⟩
theorem Cp {c:Operand} {x y:Code} (a:wb fr c (.bool false)) (b:He P y Q fr ds w):He P (.cond c x y) Q fr ds w:=⟨wp_cond_false (a ds) b.out⟩
theorem ra {c:Code} {Q':Exit→Act→World→Prop} (h:He P c Q' fr ds w):Exit.then (Ip P c Q') Q .normal (F fr ds) w:=⟨fr,ds,rfl,h⟩
theorem za {n:Act→World→Prop} {a:Act} (h:n a w):Exit.then n Q .normal a w:=h
theorem jc {n:Act→World→Prop} {a:Act} {id:Nat} (h:Q (.exit id) a w):Exit.then n Q (.exit id) a w:=h
theorem Fa {n:Act→World→Prop} {a:Act} (h:Q .ret a w):Exit.then n Q .ret a w:=h
theorem Pb {a:Act} {id:Nat} (h:Q .normal a w):Exit.inBlock id Q .normal a w:=h
theorem Ab {a:Act} {id:Nat} (h:Q .ret a w):Exit.inBlock id Q .ret a w:=h
theorem pe {a:Act} {id:Nat} (h:Q .normal a w):Exit.inBlock id Q (.exit id) a w:=by simpa [Exit.inBlock] using h
theorem CC {a:Act} {id j:Nat} (b:(j == id)=false) (h:Q (.exit j) a w):Exit.inBlock id Q (.exit j) a w:=by
 have:¬ j=id:=by simpa using b
 simpa [Exit.inBlock,this] using h
inductive tb where
 | k
 | o (n:Nat)
 | i (v:Value)
def Th (t:Nat→Value):List tb→List Value→List Value
 | [],fr=>fr
 | _::_,[]=>[]
 | .k::ms,a::fr=>a::Th t ms fr
 | .o n::ms,_::fr=>t n::Th t ms fr
 | .i v::ms,_::fr=>v::Th t ms fr
def Be (t:Nat→Value) (ms:List tb) (fr Ca:List Value):Prop:=Th t ms fr=Ca
theorem pb {t:Nat→Value} {l:List Value}:Be t [] l l:=rfl
theorem mk {t:Nat→Value} {ms:List tb} {a:Value} {l Ia:List Value} (h:Be t ms l Ia):Be t (.k::ms) (a::l) (a::Ia):=by unfold Be at *; rw [Th,h]
theorem fc {t:Nat→Value} {ms:List tb} {n:Nat} {a:Value} {l Ia:List Value} (h:Be t ms l Ia):Be t (.o n::ms) (a::l) (t n::Ia):=by unfold Be at *; rw [Th,h]
theorem kc {t:Nat→Value} {ms:List tb} {v a:Value} {l Ia:List Value} (h:Be t ms l Ia):Be t (.i v::ms) (a::l) (v::Ia):=by unfold Be at *; rw [Th,h]
theorem Vb {t:Nat→Value} {ms:List tb} {a b:List Value} (e:Be t ms a b) (h:Q .normal (F b ds) w):Q .normal (F (Th t ms a) ds) w:=by rw [show Th t ms a=b from e]; exact h
theorem Te {c:Code} {t:Nat→Value} {ms:List tb} {a b:List Value} (e:Be t ms a b) (h:He P c Q b ds w):He P c Q (Th t ms a) ds w:=by rw [show Th t ms a=b from e]; exact h
inductive qe:List tb→List Value→List Value→Prop where
 | z {l:List Value}:qe [] l l
 | k {ms:List tb} {a:Value} {l Ia:List Value} (h:qe ms l Ia):qe (.k::ms) (a::l) (a::Ia)
 | o {ms:List tb} {n:Nat} {a b:Value} {l Ia:List Value} (h:qe ms l Ia):qe (.o n::ms) (a::l) (b::Ia)
 | i {ms:List tb} {v a:Value} {l Ia:List Value} (h:qe ms l Ia):qe (.i v::ms) (a::l) (v::Ia)
def opens:List tb→List Nat
 | []=>[]
 | .o n::ms=>n::opens ms
 | .k::ms=>opens ms
 | .i _::ms=>opens ms
theorem yv {t ld:Nat→Value}:∀ (ms:List tb) (fr:List Value),(∀ n ∈ opens ms,t n=ld n)→Th t ms fr=Th ld ms fr
 | [],_,_=>rfl
 | _::_,[],_=>rfl
 | .k::ms,a::fr,h=>by rw [Th,Th,yv ms fr h]
 | .o n::ms,a::fr,h=>by rw [Th,Th,yv ms fr fun m hm=>h m (by simp [opens,hm]),h n (by simp [opens])]
 | .i v::ms,a::fr,h=>by rw [Th,Th,yv ms fr h]
theorem qe.ex {ms:List tb} {fr Ca:List Value} (h:qe ms fr Ca) (c:(opens ms).Nodup):∃ t,Ca=Th t ms fr:=by
 induction h with
 | z=>exact ⟨fun _=>undef,rfl⟩
 | k _ d=>obtain ⟨t,rfl⟩:=d c; exact ⟨t,rfl⟩
 | @o ms n a b l Ia _ d =>
  simp only [opens,List.nodup_cons] at c
  obtain ⟨t,rfl⟩:=d c.2
  refine ⟨fun m=>if m=n then b else t m,?_⟩
  rw [Th,if_pos rfl]
  congr 1
  refine yv _ _ fun m hm=>?_
  exact (if_neg (fun e:m=n=>c.1 (by rw [← e]; exact hm))).symm
 | i _ d=>obtain ⟨t,rfl⟩:=d c; exact ⟨t,rfl⟩
theorem AH {c:Code} {α:Type} (T:List Nat) (m:T.Nodup) (u:α→List tb) (hu:∀ x,opens (u x)=T) (Qe:α→World→Prop) (j:α→World→Nat) (x0:α) (o:qe (u x0) fr fr) (p:Qe x0 w)
  (round:∀ x t w,Qe x w→He P c (Exit.then (fun g w'=>∃ h Ca,g=F Ca ds∧qe (u h) fr Ca∧Qe h w'∧j h w'<j x w) Q) (Th t (u x) fr) ds w) :
  He P (.loop c) Q fr ds w:=by
 constructor
 intro b k cs
 have key:∀ n x t w,j x w=n→Qe x w →
   ∃ e g w',Q e g w'∧Arrives P (lone (b.at (F (Th t (u x) fr) ds) (.code c::.inLoop c::k)) cs w) b k cs e g w':=by
  intro n
  induction n using Nat.strongRecOn with
  | _ n q =>
   intro x t w r s
   obtain ⟨e,i,f,d,a⟩:=(round x t w s).out b (.inLoop c::k) cs
   cases e with
   | normal =>
    obtain ⟨h,Ca,rfl,v,y,z⟩:=d
    obtain ⟨ld,A⟩:=v.ex (by rw [hu]; exact m)
    obtain ⟨B,C,D,E,G⟩:=q (j h f) (r ▸ z) h ld f rfl y
    rw [A] at a
    exact ⟨B,C,D,E,.of_steps (Steps.trans a (.one step_inLoop)) G⟩
   | exit id=>exact ⟨_,i,f,d,.pass (x:=.inLoop c) rfl (fun _ _=>.inl (by simp)) a⟩
   | goto l=>exact ⟨_,i,f,d,.pass (x:=.inLoop c) rfl (fun _ _=>.inl (by simp)) a⟩
   | ret=>exact ⟨_,i,f,d,.pass (x:=.inLoop c) rfl (fun _ _=>.inl (by simp)) a⟩
   | panic K=>exact ⟨_,i,f,d,.pass (x:=.inLoop c) rfl (fun _ _=>.inl (by simp)) a⟩
   | outgrown=>exact ⟨_,i,f,d,.pass (x:=.inLoop c) rfl (fun _ _=>.inl (by simp)) a⟩
 obtain ⟨t0,H⟩:=o.ex (by rw [hu]; exact m)
 obtain ⟨e,g,w',d,a⟩:=key _ x0 t0 w rfl p
 rw [← H] at a
 exact ⟨e,g,w',d,.of_steps (.one step_loop) a⟩
theorem He.mono {c:Code} {Q':Exit→Act→World→Prop} (h:He P c Q fr ds w) (b:∀ e a w,Q e a w→Q' e a w):He P c Q' fr ds w:=⟨wp_mono h.out b⟩
theorem tE {R Lf:Act→World→Prop} (h:∀ a w,R a w→Lf a w):∀ e a w,Exit.then R Q e a w→Exit.then Lf Q e a w:=fun e a w b=>by
 cases e with
 | normal=>exact h a w b
 | exit id=>exact b
 | goto l=>exact b
 | ret=>exact b
 | panic c=>exact b
 | outgrown=>exact b
theorem Ac.same {α:Type} {l:List α} {n:Nat} {v:α} {Ia:List α} (h:hc l n v) (a:Ac l n v Ia):Ia=l:=by
 unfold hc at h
 unfold Ac at a
 subst a
 obtain ⟨b,rfl⟩:=List.getElem?_eq_some_iff.1 h
 exact List.set_getElem_self b
theorem Fy {ops:Array Oper} {l:List Oper} {oh ph:List Value} {d:Nat} {b:Bool} (qa:hc fr d (.bool b)) (a:Ac fr d (.bool true) oh) (c:Ac fr d (.bool false) ph)
  (e:b=true→qf P ops Q l oh ds w) (f:b=false→qf P ops Q l ph ds w):qf P ops Q l fr ds w:=by
 cases b with
 | true=>have:=e rfl; rw [Ac.same qa a] at this; exact this
 | false=>have:=f rfl; rw [Ac.same qa c] at this; exact this
theorem tI {ops:Array Oper} {l:List Oper} {oh ph:List Value} {d:Nat} {p:Prop} [Decidable p] (qa:hc fr d (.bool (decide p))) (a:Ac fr d (.bool true) oh) (b:Ac fr d (.bool false) ph)
  (c:p→qf P ops Q l oh ds w) (e:¬ p→qf P ops Q l ph ds w):qf P ops Q l fr ds w :=
 Fy qa a b (fun h=>c (of_decide_eq_true h)) (fun h=>e (of_decide_eq_false h))
end code
end Go.bc
namespace Go.bc
open Go.RowKit
def S (l:List UInt8):Value:=.string ⟨⟨l⟩⟩
section
variable {P:Program} {Q:Exit→Act→World→Prop} {K:List Value→List Deferred→World→Prop} {fr Ca:List Value} {ds:List Deferred} {w:World} {ops:Array Oper} {rest:List Oper}
variable {dst:Option Tmp} {op:Op} {ty:TypeId} {pos:String} {after:Array Edge} {g:Option (Nat×Bool)}
theorem La (h:Q .normal (F fr ds) w):qf P ops Q [] fr ds w:=⟨h⟩
theorem wl (h:Zd P ⟨dst,op,ty,pos,after,none⟩ fr ds w (qf P ops Q rest) Q):qf P ops Q (⟨dst,op,ty,pos,after,none⟩::rest) fr ds w:=by
 constructor
 unfold wpList
 rw [if_pos (by simp [Region.wanted])]
 exact .inl (h.out _ fun _ _ _ k=>k.out)
theorem mc {j d:Nat} {b:Bool} (a:(ops[j]?).bind (·.dst)=some d) (qa:hc fr d (.bool b)) (h:Zd P ⟨dst,op,ty,pos,after,some (j,b)⟩ fr ds w (qf P ops Q rest) Q) :
  qf P ops Q (⟨dst,op,ty,pos,after,some (j,b)⟩::rest) fr ds w:=by
 constructor
 unfold wpList
 rw [if_pos (by
  unfold hc at qa
  simp only [Region.wanted,yielded,a,F]
  simp [qa])]
 exact .inl (h.out _ fun _ _ _ k=>k.out)
theorem wn {j d:Nat} {b re:Bool} (a:(ops[j]?).bind (·.dst)=some d) (qa:hc fr d (.bool re)) (c:(re == b)=false) (e:hf fr dst undef Ca) (h:qf P ops Q rest Ca ds w) :
  qf P ops Q (⟨dst,op,ty,pos,after,some (j,b)⟩::rest) fr ds w:=by
 constructor
 unfold wpList
 rw [if_neg (by
  unfold hc at qa
  simp only [Region.wanted,yielded,a,F]
  simp [qa]
  simpa using c)]
 exact e.rw h.out
theorem tl {j d:Nat} {b:Bool} (a:(ops[j]?).bind (·.dst)=some d) (qa:hc fr d undef) (c:hf fr dst undef Ca) (h:qf P ops Q rest Ca ds w) :
  qf P ops Q (⟨dst,op,ty,pos,after,some (j,b)⟩::rest) fr ds w:=by
 constructor
 unfold wpList
 rw [if_neg (by
  unfold hc at qa
  simp only [Region.wanted,yielded,a,F]
  simp [qa,undef])]
 exact c.rw h.out
theorem ig {o:Oper} {v:Value} {w':World} (a:(execOp (F fr ds).eval o).run P w=.ok (.value v) w') (b:hf fr o.dst v Ca) (h:K Ca ds w'):Zd P o fr ds w K Q:=by
 constructor
 intro d c
 unfold Oper.wp
 rw [a,Oper.upon_value]
 exact b.rw (c _ _ _ h)
theorem vy {o:Oper} {w':World} (a:(execOp (F fr ds).eval o).run P w=.ok .skip w') (b:hf fr o.dst undef Ca) (h:K Ca ds w'):Zd P o fr ds w K Q:=by
 constructor
 intro d c
 unfold Oper.wp
 rw [a,Oper.upon_skip]
 exact b.rw (c _ _ _ h)
structure uf (P:Program) (o:Oper) (fr:List Value) (v:Value):Prop where
 out:∀ ds w,(execOp (F fr ds).eval o).run P w=.ok (.value v) w
theorem Ja {o:Oper} {v:Value} (hu:uf P o fr v) (a:hf fr o.dst v Ca) (h:K Ca ds w):Zd P o fr ds w K Q:=ig (hu.out ds w) a h
theorem ks {x:Operand} {v:Value} (a:wb fr x v):uf P (Oper.mk dst (.move x) ty pos after g) fr (v):=⟨fun ds w=>by simp [execOp,a ds]⟩
theorem Ut {x:Operand} {v:Value} (a:wb fr x v) (b:hf fr dst (v) Ca) (h:K Ca ds w):Zd P (Oper.mk dst (.move x) ty pos after g) fr ds w K Q:=Ja (ks a) b h
theorem wx {x:Operand} {v:Value} (a:wb fr x v):uf P (Oper.mk dst (.assign x) ty pos after g) fr (v):=⟨fun ds w=>by simp [execOp,a ds]⟩
theorem tA {x:Operand} {v:Value} (a:wb fr x v) (b:hf fr dst (v) Ca) (h:K Ca ds w):Zd P (Oper.mk dst (.assign x) ty pos after g) fr ds w K Q:=Ja (wx a) b h
theorem KF {c x y:Operand} {v:Value} (a:wb fr c (.bool true)) (b:wb fr x v):uf P (Oper.mk dst (.pick c x y) ty pos after g) fr (v):=⟨fun ds w=>by simp [execOp,b ds,a ds,asBool]⟩
theorem LF {c x y:Operand} {v:Value} (a:wb fr c (.bool false)) (b:wb fr y v):uf P (Oper.mk dst (.pick c x y) ty pos after g) fr (v):=⟨fun ds w=>by simp [execOp,b ds,a ds,asBool]⟩
theorem wr {n:Int} (h:-9223372036854775808≤n∧n≤9223372036854775807):IntKind.i64.wrap n=n:=by
 unfold IntKind.wrap
 simp [IntKind.bits,IntKind.signed]
 omega
theorem BH {x y:Operand} {t ld:TypeId} {k:IntKind} {a b c:Int} (d:wb fr x (.int k a)) (e:wb fr y (.int k b)) (hw:k.wrap (a+b)=c):uf P (Oper.mk dst (.binOp .add t x y ld) ty pos after g) fr ((.int k c)):=by
 subst hw
 exact ⟨fun ds w=>by simp [execOp,d ds,e ds,eqGuard,binOp,Op.intArith]⟩
theorem CH {x y:Operand} {t ld:TypeId} {k:IntKind} {a b c:Int} (d:wb fr x (.int k a)) (e:wb fr y (.int k b)) (hw:k.wrap (a - b)=c):uf P (Oper.mk dst (.binOp .sub t x y ld) ty pos after g) fr ((.int k c)):=by
 subst hw
 exact ⟨fun ds w=>by simp [execOp,d ds,e ds,eqGuard,binOp,Op.intArith]⟩
theorem DH {x y:Operand} {t ld:TypeId} {k:IntKind} {a b:Int} (c:wb fr x (.int k a)) (d:wb fr y (.int k b)):uf P (Oper.mk dst (.binOp .lss t x y ld) ty pos after g) fr ((.bool (decide (a<b)))):=⟨fun ds w=>by simp [execOp,c ds,d ds,eqGuard,binOp,Op.intCmp]⟩
theorem EH {x y:Operand} {t ld:TypeId} {k:IntKind} {a b:Int} (c:wb fr x (.int k a)) (d:wb fr y (.int k b)):uf P (Oper.mk dst (.binOp .leq t x y ld) ty pos after g) fr ((.bool (decide (a≤b)))):=⟨fun ds w=>by simp [execOp,c ds,d ds,eqGuard,binOp,Op.intCmp]⟩
theorem FH {x y:Operand} {t ld:TypeId} {k:IntKind} {a b:Int} (c:wb fr x (.int k a)) (d:wb fr y (.int k b)):uf P (Oper.mk dst (.binOp .gtr t x y ld) ty pos after g) fr ((.bool (decide (b<a)))):=⟨fun ds w=>by simp [execOp,c ds,d ds,eqGuard,binOp,Op.intCmp]⟩
theorem GH {x y:Operand} {t ld:TypeId} {k:IntKind} {a b:Int} (c:wb fr x (.int k a)) (d:wb fr y (.int k b)):uf P (Oper.mk dst (.binOp .geq t x y ld) ty pos after g) fr ((.bool (decide (b≤a)))):=⟨fun ds w=>by simp [execOp,c ds,d ds,eqGuard,binOp,Op.intCmp]⟩
theorem YB {x y:Operand} {t ld:TypeId} {k:IntKind} {a b:Int} (c:wb fr x (.int k a)) (d:wb fr y (.int k b)):uf P (Oper.mk dst (.binOp .eql t x y ld) ty pos after g) fr ((.bool (decide (a=b)))):=⟨fun ds w=>by simp [execOp,c ds,d ds,eqGuard,binOp,Op.intCmp]; rfl⟩
theorem HH {x y:Operand} {t ld:TypeId} {k:IntKind} {a b:Int} (c:wb fr x (.int k a)) (d:wb fr y (.int k b)):uf P (Oper.mk dst (.binOp .neq t x y ld) ty pos after g) fr ((.bool (decide (a≠b)))):=⟨fun ds w=>by
  simp [execOp,c ds,d ds,eqGuard,binOp,Op.intCmp]
  by_cases h:a=b <;> simp [h]⟩
theorem IH {x:Operand} {t:TypeId} {b:Bool} (a:wb fr x (.bool b)):uf P (Oper.mk dst (.unOp .not t x) ty pos after g) fr ((.bool (!b))):=⟨fun ds w=>by simp [execOp,a ds,Op.unary]⟩
theorem JH {x y:Operand} {t ld:TypeId} {a b:List UInt8} (c:wb fr x (S a)) (d:wb fr y (S b)) (l:a.length+b.length≤9223372036854775807):uf P (Oper.mk dst (.binOp .add t x y ld) ty pos after g) fr ((S (a++b))):=by
 have e:(ByteArray.mk ⟨a⟩).size=a.length:=rfl
 have f:(ByteArray.mk ⟨b⟩).size=b.length:=rfl
 have h:¬ (((((ByteArray.mk ⟨a⟩).size+(ByteArray.mk ⟨b⟩).size:Nat):Int)) > IntKind.i64.max):=by
  rw [e,f]; unfold IntKind.max; simp [IntKind.bits,IntKind.signed]; omega
 have i:ByteArray.mk ⟨a⟩++ByteArray.mk ⟨b⟩=ByteArray.mk ⟨a++b⟩:=by
  apply ByteArray.ext
  rw [ByteArray.data_append]
  simp
 refine ⟨fun ds w=>?_⟩
 have j:=c ds
 have k:=d ds
 simp only [execOp,j,k,S,eqGuard,binOp,Op.stringOp]
 rw [if_neg h,i]
 simp
theorem ny {x y:Operand} {t ld:TypeId} {a b:List UInt8} (c:wb fr x (S a)) (d:wb fr y (S b)):uf P (Oper.mk dst (.binOp .eql t x y ld) ty pos after g) fr ((.bool (decide (a=b)))):=by
 refine ⟨fun ds w=>?_⟩
 have f:=c ds
 have h:=d ds
 simp [execOp,f,h,S,eqGuard,binOp,Op.stringOp]
 by_cases e:a=b <;> simp [e]
theorem ZB {x y:Operand} {t ld:TypeId} {a b:List UInt8} (c:wb fr x (S a)) (d:wb fr y (S b)):uf P (Oper.mk dst (.binOp .neq t x y ld) ty pos after g) fr ((.bool (decide (a≠b)))):=by
 refine ⟨fun ds w=>?_⟩
 have f:=c ds
 have h:=d ds
 simp [execOp,f,h,S,eqGuard,binOp,Op.stringOp]
 by_cases e:a=b <;> simp [e]
theorem bl {x:Operand} {t:TypeId} {a:List UInt8} (b:P.underlying t=some .string) (c:wb fr x (S a)):uf P (Oper.mk dst (.call { callee:=.builtin .len,args:=#[x],argTypes:=#[t] }) ty pos after g) fr ((.int .i64 a.length)):=by
 refine ⟨fun ds w=>?_⟩
 have d:=c ds
 have e:(ByteArray.mk ⟨a⟩).size=a.length:=rfl
 simp [execOp,d,resolve,invoke,builtin,S,Builtin.len_,run_underlying b,goInt,e]
theorem Qd {x:Operand} {t e:TypeId} {a:Option Addr} {n c:Nat} (b:P.underlying t=some (.slice e)) (d:wb fr x (.slice a n c)):uf P (Oper.mk dst (.call { callee:=.builtin .len,args:=#[x],argTypes:=#[t] }) ty pos after g) fr ((.int .i64 n)):=by
 refine ⟨fun ds w=>?_⟩
 have f:=d ds
 simp [execOp,f,resolve,invoke,builtin,Builtin.len_,run_underlying b,goInt]
theorem vG {x y:Operand} {t:TypeId} {k:IntKind} {a:List UInt8} {i:Int} {c:UInt8} (e:P.underlying t=some .string) (f:wb fr x (S a)) (j:wb fr y (.int k i)) (l:0≤i) (b:a[i.toNat]?=some c):uf P (Oper.mk dst (.index t x y) ty pos after g) fr ((.int .u8 c.toNat)):=by
 refine ⟨fun ds w=>?_⟩
 have m:=f ds
 have n:=j ds
 have o:(ByteArray.mk ⟨a⟩)[i.toNat]?=some c:=by
  have d:i.toNat<a.length:=by
   rcases Nat.lt_or_ge i.toNat a.length with h | h
   ·exact h
   ·rw [List.getElem?_eq_none h] at b; cases b
  rw [getElem?_pos (ByteArray.mk ⟨a⟩) i.toNat (show i.toNat<(ByteArray.mk ⟨a⟩).size from d)]
  rw [List.getElem?_eq_getElem d] at b
  rw [← b]
  rfl
 simp [execOp,m,n,S,Instr.index,run_underlying e,asIntOf,l,o]
theorem cA (a:List UInt8) (i j:Nat):(ByteArray.mk ⟨a⟩).extract i j=ByteArray.mk ⟨(a.take j).drop i⟩:=by
 rw [Lib.extract_eq]
 simp [List.drop_take]
theorem MF {x Cj:Operand} {t:TypeId} {k:IntKind} {a:List UInt8} {i:Int} (b:P.underlying t=some .string) (c:wb fr x (S a)) (d:wb fr Cj (.int k i))
  (e:0≤i∧i≤a.length):uf P (Oper.mk dst (.slice t x (some Cj) none none) ty pos after g) fr ((S (a.drop i.toNat))):=by
 refine ⟨fun ds w=>?_⟩
 have f:=c ds
 have h:=d ds
 have j:(ByteArray.mk ⟨a⟩).size=a.length:=rfl
 simp only [execOp,f,h,S,Option.map,Instr.sliceAt]
 simp [run_underlying b,Instr.slice,Instr.sliceBounds,Instr.sliceBound,asIntOf,j,e,cA]
theorem NF {x b:Operand} {t:TypeId} {c:IntKind} {a:List UInt8} {j:Int} (d:P.underlying t=some .string) (e:wb fr x (S a)) (f:wb fr b (.int c j))
  (h:0≤j∧j≤a.length):uf P (Oper.mk dst (.slice t x none (some b) none) ty pos after g) fr ((S (a.take j.toNat))):=by
 refine ⟨fun ds w=>?_⟩
 have i:=e ds
 have k:=f ds
 have l:(ByteArray.mk ⟨a⟩).size=a.length:=rfl
 simp only [execOp,i,k,S,Option.map,Instr.sliceAt]
 simp [run_underlying d,Instr.slice,Instr.sliceBounds,Instr.sliceBound,asIntOf,l,h,cA]
theorem wG {x:Operand} {i:Nat} {vs:List Value} {v:Value} (a:wb fr x (.tuple ⟨vs⟩)) (qa:hc vs i v):uf P (Oper.mk dst (.extract x i) ty pos after g) fr (v):=by
 refine ⟨fun ds w=>?_⟩
 have b:=a ds
 unfold hc at qa
 simp [execOp,b,Instr.extract,qa]
structure Sb (P:Program) (f:FuncId) (args:List Value) (w:World) (R:Value→World→Prop):Prop where
 out:Calls P f ⟨args⟩ w fun e w'=>match e with | .returned v=>R v w' | _=>False
theorem Sb.mono {f:FuncId} {args:List Value} {R Lf:Value→World→Prop} (h:Sb P f args w R) (a:∀ v w',R v w'→Lf v w'):Sb P f args w Lf :=
 ⟨Calls.mono h.out fun e w' he=>by
  cases e with
  | returned v=>exact a v w' he
  | panicked c=>exact he.elim
  | outgrown=>exact he.elim⟩
class yc (P:Program) (f:FuncId):Prop where
 out:∀ args w,(callFunc f args).run P w=.ok (.enter f args) w
theorem OF {f : FuncId} {fn : Func} (a : P.funcs[f]? = some fn) (e : fn.body.isSome = true) (b : (fn.name == "runtime.NumGoroutine") = false) : yc P f := by
 constructor
 intro args w
 have c:¬ fn.body=none:=by cases h:fn.body <;> simp_all
 have d : ¬ fn.name = "runtime.NumGoroutine" := by simpa using b
 simp only [callFunc,Sem.run_bind,run_program,Result.andThen_ok,a,beq_iff_eq,if_neg d,Option.isNone_iff_eq_none,if_neg c,Sem.run_pure]
def Kg (fr:List Value) (dst:Option Tmp) (v:Value) (K:List Value→Prop):Prop:=∀ Ca,hf fr dst v Ca→K Ca
theorem hf.uniq {fr a b:List Value} {dst:Option Tmp} {v:Value} (h:hf fr dst v a) (k:hf fr dst v b):a=b:=by
 have:=(h []).symm.trans (k [])
 unfold F at this
 simpa using this
theorem pu {v:Value} {K:List Value→Prop} (a:hf fr dst v Ca) (h:K Ca):Kg fr dst v K:=fun c b=>by rw [hf.uniq b a]; exact h
theorem jh (fr:List Value) (dst:Option Tmp) (v:Value):∃ Ca,hf fr dst v Ca:=by
 cases dst with
 | none=>exact ⟨fr,Ma⟩
 | some n=>exact ⟨fr.set n v,ma rfl⟩
theorem Nx {o:Oper} {f:FuncId} {args:List Value} {R:Value→World→Prop} (a:(execOp (F fr ds).eval o).run P w=.ok (.enter f ⟨args⟩) w) (b:Sb P f args w R)
  (h:∀ v w',R v w'→Kg fr o.dst v fun Ca=>K Ca ds w'):Zd P o fr ds w K Q:=by
 constructor
 intro g d
 unfold Oper.wp
 rw [a,Oper.upon_enter]
 exact Calls.mono b.out fun e w' he=>by
  cases e with
  | returned v =>
   obtain ⟨Ca,ya⟩:=jh fr o.dst v
   exact ya.rw (d _ _ _ (h v w' he Ca ya))
  | panicked c=>exact he.elim
  | outgrown=>exact he.elim
theorem uA {f:Operand} {xs:List Operand} {tys:Array TypeId} {k:FuncId} {cap vs:List Value} (a:yc P k) (b:wb fr f (.func (.func k) #[] ⟨cap⟩)) (c:Xm fr xs vs) :
  (execOp (F fr ds).eval (Oper.mk dst (.call { callee:=.value f,args:=⟨xs⟩,argTypes:=tys }) ty pos after g)).run P w=.ok (.enter k ⟨vs++cap⟩) w:=by
 have d:=b ds
 have e:=c ds
 have h:=a.out ⟨vs++cap⟩ w
 simp [execOp,resolve,d,Deferred.ofValue,invoke,e,h]
theorem td {f:Operand} {xs:List Operand} {tys:Array TypeId} {k:FuncId} {vs:List Value} {R:Value→World→Prop} (a:yc P k) (b:wb fr f (.func (.func k) #[] #[])) (c:Xm fr xs vs)
  (d:Sb P k vs w R) (h:∀ v w',R v w'→Kg fr dst v fun Ca=>K Ca ds w'):Zd P (Oper.mk dst (.call { callee:=.value f,args:=⟨xs⟩,argTypes:=tys }) ty pos after g) fr ds w K Q:=by
 refine Nx (args:=vs) ?_ d h
 have:=uA (w:=w) (dst:=dst) (ty:=ty) (pos:=pos) (after:=after) (g:=g) (tys:=tys) (ds:=ds) (cap:=[]) a b c
 simpa using this
theorem PF {f:Operand} {xs:List Operand} {tys:Array TypeId} {k:FuncId} {cap vs:List Value} {R:Value→World→Prop} (a:yc P k) (b:wb fr f (.func (.func k) #[] ⟨cap⟩)) (c:Xm fr xs vs)
  (d:Sb P k (vs++cap) w R) (h:∀ v w',R v w'→Kg fr dst v fun Ca=>K Ca ds w'):Zd P (Oper.mk dst (.call { callee:=.value f,args:=⟨xs⟩,argTypes:=tys }) ty pos after g) fr ds w K Q :=
 Nx (uA a b c) d h
def Dp (P:Program) (fn:Func) (R:Value→World→Prop):Exit→Act→World→Prop:=bodyPost P fn fun e w'=>match e with | .returned v=>R v w' | _=>False
theorem enter {f:FuncId} {fn:Func} {c:Code} {args frm:List Value} {R:Value→World→Prop} (a:P.funcs[f]?=some fn) (b:fn.body=some c)
  (d:args++List.replicate (fn.ntmps - args.length) undef=frm) (h:He P c (Dp P fn R) frm [] w):Sb P f args w R:=by
 refine ⟨calls_of_wp a b ?_⟩
 subst d
 have:(⟨args⟩:Array Value)++Array.replicate (fn.ntmps - args.length) undef=⟨args++List.replicate (fn.ntmps - args.length) undef⟩:=by
  apply Array.ext'
  simp
 have h:=h.out
 simpa [F,Dp,this] using h
theorem Ob {fn:Func} {R:Value→World→Prop} {t:Tmp} {v:Value} (a:fn.results=#[.tmp t]) (qa:hc fr t v) (h:R v w):Dp P fn R .ret (F fr []) w:=by
 refine bodyPost_ret (v:=v) ?_ rfl h
 unfold hc at qa
 rw [results_tmp a]
 simp [F,qa]
theorem jl {fn:Func} {R:Value→World→Prop} {t u:Tmp} {v a:Value} (c:fn.results=#[.tmp t,.tmp u]) (qa:hc fr t v) (b:hc fr u a) (h:R (.tuple #[v,a]) w):Dp P fn R .ret (F fr []) w:=by
 refine bodyPost_ret (v:=.tuple #[v,a]) ?_ rfl h
 unfold hc at qa b
 rw [results_tmp2 c]
 simp [F,qa,b]
theorem Li {fn:Func} {R:Value→World→Prop} (a:fn.results=#[]) (h:R (.tuple #[]) w):Dp P fn R .normal (F fr []) w :=
 bodyPost_end (results_none a _ _ _) rfl h
theorem Fs {fn:Func} {R:Value→World→Prop} (a:fn.results=#[]) (h:R (.tuple #[]) w):Dp P fn R .ret (F fr []) w :=
 bodyPost_ret (results_none a _ _ _) rfl h
end
end Go.bc
namespace Go.bc
open Go.RowKit
structure xh (S:Nat→Prop) (w w':World):Prop where
 os:w'.os=w.os
 tape:w'.tape=w.tape
 output:w'.output=w.output
 size:w.heap.size≤w'.heap.size
 ba:∀ k,k<w.heap.size→S k→w'.heap[k]?=w.heap[k]?
def Grow (w w':World):Prop:=xh (fun _=>True) w w'
theorem xh.refl {S:Nat→Prop} (w:World):xh S w w:=⟨rfl,rfl,rfl,Nat.le_refl _,fun _ _ _=>rfl⟩
theorem xh.trans {S:Nat→Prop} {a b c:World} (h:xh S a b) (k:xh S b c):xh S a c :=
 ⟨k.os.trans h.os,k.tape.trans h.tape,k.output.trans h.output,Nat.le_trans h.size k.size,fun i d e=>(k.ba i (Nat.lt_of_lt_of_le d h.size) e).trans (h.ba i d e)⟩
theorem xh.mono {S c:Nat→Prop} {a b:World} (h:xh S a b) (d:∀ k,c k→S k):xh c a b:=⟨h.os,h.tape,h.output,h.size,fun i e k=>h.ba i e (d i k)⟩
theorem Grow.keeps {S:Nat→Prop} {a b:World} (h:Grow a b):xh S a b:=xh.mono h fun _ _=>trivial
theorem Grow.below {a b:World} (h:Grow a b):Below a.heap.size a b:=⟨h.os,h.tape,h.output,h.size,fun k c=>h.ba k c trivial⟩
theorem Grow.alloc (w:World) (o:Obj):Grow w (w.alloc o):=⟨rfl,rfl,rfl,by simp,fun k a _=>heap_alloc_old w o k a⟩
def Mj (S:Nat→Prop) (w:World) (A:World→Prop):Prop:=∀ w',w.heap.size≤w'.heap.size→(∀ k,k<w.heap.size→S k→w'.heap[k]?=w.heap[k]?)→A w'
theorem Mj.now {S:Nat→Prop} {w:World} {A:World→Prop} (h:Mj S w A):A w:=h w (Nat.le_refl _) fun _ _ _=>rfl
theorem Mj.mono {S a:Nat→Prop} {w:World} {A:World→Prop} (h:Mj S w A) (c:∀ k,k<w.heap.size→S k→a k):Mj a w A:=fun w' d e=>h w' d fun k b f=>e k b (c k b f)
theorem Mj.and {S:Nat→Prop} {w:World} {A B:World→Prop} (h:Mj S w A) (k:Mj S w B):Mj S w fun w'=>A w'∧B w':=fun w' a b=>⟨h w' a b,k w' a b⟩
theorem Mj.keeps {S:Nat→Prop} {w w':World} {A:World→Prop} (h:Mj S w A) (k:xh S w w'):Mj S w' A :=
 fun d e f=>h d (Nat.le_trans k.size e) fun b a c=>(f b (Nat.lt_of_lt_of_le a k.size) c).trans (k.ba b a c)
inductive Wb where
 | ba (b:Nat) (T:TypeId) (cs:List Value)
 | row (v:Value) (T:TypeId) (sz n:Nat) (xs:List Value)
 | map (b:Nat) (es:List MapEntry) (clock:Nat)
 | Dw (b:Nat) (s:ByteArray) (pos:Nat)
 | ro (b:Nat) (T:TypeId) (cs:List Value)
 | aj (b m since:Nat) (seen:List Nat) (last:Nat)
def pk (w:World) (b:Nat) (T:TypeId) (cs:List Value):Prop:=w.heap[b]?=some (.cells ⟨cs⟩ T (0,0))
def Row (w:World) (v:Value) (T:TypeId) (sz n:Nat) (xs:List Value):Prop :=
 xs.length=n*sz∧((v=.slice none 0 0∧n=0)∨∃ g o cap cur,v=.slice (some ⟨g,o,none⟩) n cap∧w.heap[g]?=some (.cells cur T (0,0))∧n≤cap∧cap≤maxLen∧o+cap*sz≤cur.size∧(cur.toList.drop o).take (n*sz)=xs)
def Wb.block:Wb→Option Nat
 | .ba b _ _=>some b
 | .row v _ _ _ _=>v.ownBlock
 | .map b _ _=>some b
 | .Dw b _ _=>some b
 | .ro b _ _=>some b
 | .aj b _ _ _ _=>some b
def Wb.holds (w:World):Wb→Prop
 | .ba b T cs=>pk w b T cs
 | .row v T sz n xs=>Row w v T sz n xs
 | .map b es clock=>w.heap[b]?=some (.map ⟨es⟩ clock)
 | .Dw b s pos=>w.heap[b]?=some (.stringIter s pos)
 | .ro b T cs=>∃ z,w.heap[b]?=some (.cells ⟨cs⟩ T z)
 | .aj b m since seen last=>w.heap[b]?=some (.mapIter (some m) since ⟨seen⟩ last)
def blocks (rs:List Wb):List Nat:=rs.filterMap Wb.block
structure Sep (S Jd:Nat→Prop) (J w:World) (rs:List Wb) (A:World→Prop):Prop where
 keeps:xh S J w
 all:∀ r ∈ rs,r.holds w
 Oi:(blocks rs).Nodup
 new:∀ b ∈ blocks rs,J.heap.size≤b∨¬ S b
 oj:Mj (fun b=>(Jd b∨J.heap.size≤b)∧b ∉ blocks rs) w A
theorem eD {w:World} {r:Wb} (h:r.holds w) {b:Nat} (a:r.block=some b):b<w.heap.size:=by
 cases r with
 | ba re T cs=>simp [Wb.block] at a; subst a; exact (Array.getElem?_eq_some_iff.1 h).1
 | map re es d=>simp [Wb.block] at a; subst a; exact (Array.getElem?_eq_some_iff.1 h).1
 | Dw re s p=>simp [Wb.block] at a; subst a; exact (Array.getElem?_eq_some_iff.1 h).1
 | aj re m s e l=>simp [Wb.block] at a; subst a; exact (Array.getElem?_eq_some_iff.1 h).1
 | ro re T cs=>obtain ⟨z,h⟩:=h; simp [Wb.block] at a; subst a; exact (Array.getElem?_eq_some_iff.1 h).1
 | row v T sz n xs =>
  rcases h.2 with ⟨rfl,_⟩ | ⟨g,o,cap,cur,rfl,c,_⟩
  ·simp [Wb.block,Value.ownBlock] at a
  ·simp [Wb.block,Value.ownBlock] at a; subst a; exact (Array.getElem?_eq_some_iff.1 c).1
theorem holds_of {w w':World} {r:Wb} (h:r.holds w) (a:∀ b,r.block=some b→w'.heap[b]?=w.heap[b]?):r.holds w':=by
 cases r with
 | ba re T cs=>exact (a re rfl).trans h
 | map re es d=>exact (a re rfl).trans h
 | Dw re s p=>exact (a re rfl).trans h
 | aj re m s e l=>exact (a re rfl).trans h
 | ro re T cs=>obtain ⟨z,h⟩:=h; exact ⟨z,(a re rfl).trans h⟩
 | row v T sz n xs =>
  refine ⟨h.1,?_⟩
  rcases h.2 with h | ⟨g,o,cap,cur,rfl,c,h⟩
  ·exact .inl h
  ·exact .inr ⟨g,o,cap,cur,rfl,by rw [a g rfl]; exact c,h⟩
section
variable {S Jd:Nat→Prop} {J w w':World} {rs sc:List Wb} {A B:World→Prop}
theorem Sep.a (h:Sep S Jd J w rs A):A w:=h.oj.now
theorem Sep.start (w:World) (S Jd:Nat→Prop) (a:Mj Jd w A):Sep S Jd w w [] A :=
 ⟨.refl w,by simp,by simp [blocks],by simp [blocks],a.mono fun k _ b=>⟨.inl b,by simp [blocks]⟩⟩
theorem hp {r:Wb} {b:Nat} (a:r ∈ rs) (c:r.block=some b):b ∈ blocks rs:=List.mem_filterMap.2 ⟨r,a,c⟩
theorem Sep.lt (h:Sep S Jd J w rs A) {b:Nat} (a:b ∈ blocks rs):b<w.heap.size:=by
 obtain ⟨r,c,a⟩:=List.mem_filterMap.1 a
 exact eD (h.all r c) a
theorem Sep.grow (h:Sep S Jd J w rs A) (a:Grow w w'):Sep S Jd J w' rs A where
 keeps:=h.keeps.trans a.keeps
 all r c:=holds_of (h.all r c) fun b d=>a.ba b (h.lt (hp c d)) trivial
 Oi:=h.Oi
 new:=h.new
 oj:=h.oj.keeps a.keeps
theorem Sep.alloc (h:Sep S Jd J w rs A) {o:Obj} {r:Wb} (c:r.block=some w.heap.size) (f:r.holds (w.alloc o)):Sep S Jd J (w.alloc o) (r::rs) A where
 keeps:=h.keeps.trans (Grow.alloc w o).keeps
 all r' d:=by
  rcases List.mem_cons.1 d with rfl | d
  ·exact f
  ·exact (h.grow (Grow.alloc w o)).all r' d
 Oi:=by
  simp only [blocks,List.filterMap_cons,c,List.nodup_cons]
  exact ⟨fun hm=>Nat.lt_irrefl _ (h.lt hm),h.Oi⟩
 new b a:=by
  simp only [blocks,List.filterMap_cons,c,List.mem_cons] at a
  rcases a with rfl | a
  ·exact .inl h.keeps.size
  ·exact h.new b a
 oj:=fun w' g i=>h.oj w' (by simp at g; omega) fun k j e=>by
  have:=i k (by simp; omega) ⟨e.1,by
   simp only [blocks,List.filterMap_cons,c,List.mem_cons,not_or]
   exact ⟨by omega,e.2⟩⟩
  rw [this]
  exact heap_alloc_old w o k j
theorem cw {r:Wb} {n:Nat} (qa:hc rs n r):r ∈ rs:=List.mem_of_getElem? qa
theorem Sep.get (h:Sep S Jd J w rs A) {n:Nat} {r:Wb} (qa:hc rs n r):r.holds w:=h.all r (cw qa)
theorem Az {n:Nat} {r r':Wb} (qa:hc rs n r) (b:r'.block=r.block):blocks (rs.set n r')=blocks rs:=by
 unfold hc at qa
 unfold blocks
 induction rs generalizing n with
 | nil=>rfl
 | cons a rs c =>
  cases n with
  | zero=>simp at qa; subst qa; simp [List.filterMap_cons,b]
  | succ n=>simp at qa; simp only [List.set_cons_succ,List.filterMap_cons,c qa]
theorem dz {n m:Nat} {r d:Wb} (ya:(blocks rs).Nodup) (qa:hc rs n r) (hm:hc rs m d) (h:n≠m) {b:Nat} (f:r.block=some b):d.block≠some b:=by
 unfold hc at qa hm
 unfold blocks at ya
 induction rs generalizing n m with
 | nil=>simp at qa
 | cons a rs i =>
  have j:(List.filterMap Wb.block rs).Nodup:=by
   cases g:a.block with
   | none=>simpa [List.filterMap_cons,g] using ya
   | some c=>simp only [List.filterMap_cons,g,List.nodup_cons] at ya; exact ya.2
  cases n with
  | zero =>
   cases m with
   | zero=>exact absurd rfl h
   | succ m =>
    simp at qa hm; subst qa
    intro e
    simp only [List.filterMap_cons,f,List.nodup_cons] at ya
    exact ya.1 (List.mem_filterMap.2 ⟨d,List.mem_of_getElem? hm,e⟩)
  | succ n =>
   cases m with
   | zero =>
    simp at qa hm; subst hm
    intro e
    simp only [List.filterMap_cons,e,List.nodup_cons] at ya
    exact ya.1 (List.mem_filterMap.2 ⟨r,List.mem_of_getElem? qa,f⟩)
   | succ m=>simp at qa hm; exact i j qa hm (by omega)
theorem Sep.put (h:Sep S Jd J w rs A) {n:Nat} {r r':Wb} {b:Nat} (qa:hc rs n r) (f:r.block=some b) (p:r'.block=some b) (j:Ac rs n r' sc)
  (q:r'.holds w') (a:xh (fun k=>k≠b) w w'):Sep S Jd J w' sc A:=by
 unfold Ac at j
 subst j
 have l:=hp (cw qa) f
 have g:=Az (r':=r') qa (p.trans f.symm)
 refine ⟨?_,?_,?_,?_,?_⟩
 ·refine ⟨a.os.trans h.keeps.os,a.tape.trans h.keeps.tape,a.output.trans h.keeps.output,Nat.le_trans h.keeps.size a.size,fun k i d=>?_⟩
  rw [a.ba k (Nat.lt_of_lt_of_le i h.keeps.size) (fun e=>by subst e; rcases h.new k l with h | h; exact absurd i (by omega); exact h d)]
  exact h.keeps.ba k i d
 ·intro s t
  obtain ⟨m,hm⟩:=List.mem_iff_getElem?.1 t
  by_cases e:n=m
  ·subst e
   have u:n<rs.length:=(List.getElem?_eq_some_iff.1 qa).1
   rw [List.getElem?_set_self u] at hm
   cases hm
   exact q
  ·rw [List.getElem?_set_ne e] at hm
   refine holds_of (h.all s (List.mem_of_getElem? hm)) fun c o=>a.ba c (h.lt (hp (List.mem_of_getElem? hm) o)) fun v=>?_
   subst v
   exact dz h.Oi qa hm e f o
 ·rw [g]; exact h.Oi
 ·rw [g]; exact h.new
 ·rw [g]
  exact h.oj.keeps (a.mono fun k d e=>d.2 (by subst e; exact l))
end
def xw:TypeDesc→Bool
 | .struct _ | .array _ _=>true
 | _=>false
class Lc (P:Program) (T:TypeId) (Gf:outParam Bool) (vd:outParam (List Value)) (n m:outParam Nat):Prop where
 Gy:∃ d,P.underlying T=some d∧xw d=Gf
 inf:∃ i z,P.info? T=some i∧i.zero=some z∧z.cells=⟨vd⟩∧i.size=n∧i.bytes=m
theorem KH {P:Program} {T:TypeId} {d:TypeDesc} {Gf:Bool} {z:Value} {vd:List Value} {n m:Nat} (hu:P.underlying T=some d) (b:xw d=Gf) (h:(P.info? T).map (fun i=>(i.zero,i.size,i.bytes))=some (some z,n,m)) (c:z.cells=⟨vd⟩):Lc P T Gf vd n m:=by
 refine ⟨⟨d,hu,b⟩,?_⟩
 cases a:P.info? T with
 | none=>rw [a] at h; cases h
 | some i =>
  rw [a] at h
  simp only [Option.map_some,Option.some.injEq,Prod.mk.injEq] at h
  exact ⟨i,z,rfl,h.1,c,h.2.1,h.2.2⟩
def Me:Value→Bool
 | .agg _ | .tuple _=>false
 | _=>true
section
variable {P:Program} {Q:Exit→Act→World→Prop} {K:List Value→List Deferred→World→Prop} {fr Ca:List Value} {ds:List Deferred} {w:World}
variable {dst:Option Tmp} {ty:TypeId} {pos:String} {after:Array Edge} {g:Option (Nat×Bool)}
variable {S Jd:Nat→Prop} {J:World} {rs sc:List Wb} {A:World→Prop}
variable {T:TypeId} {d:TypeDesc} {Gf:Bool} {vd:List Value} {n m:Nat}
theorem uE (h:P.underlying T=some d):(isAgg T).run P w=.ok (xw d) w:=by
 unfold isAgg
 simp only [Sem.run_bind,run_underlying h,Result.andThen_ok]
 cases d <;> rfl
theorem Lc.isAgg (h:Lc P T Gf vd n m):(Go.isAgg T).run P w=.ok Gf w:=by
 obtain ⟨d,ya,rfl⟩:=h.Gy
 exact uE ya
theorem Lc.sizeOf (h:Lc P T Gf vd n m):(Go.sizeOf T).run P w=.ok n w:=by
 obtain ⟨i,z,a,c,d,b,hm⟩:=h.inf
 simp [Go.sizeOf,typeInfo,a,b]
theorem Lc.zero (h:Lc P T Gf vd n m):∃ z,(zeroValue T).run P w=.ok z w∧z.cells=⟨vd⟩:=by
 obtain ⟨i,z,a,b,c,d,hm⟩:=h.inf
 exact ⟨z,by simp [zeroValue,typeInfo,a,b],c⟩
def gj (w:World) (b o:Nat) (cs:List Value):Prop:=∀ j v,cs[j]?=some v→w.cell? ⟨b,o+j,none⟩=some v
theorem Fi (b o j:Nat):(⟨b,o,none⟩:Addr).add j=⟨b,o+j,none⟩:=by
 unfold Addr.add
 split
 ·rename_i h; subst h; rfl
 ·rfl
theorem pk.cell {b:Nat} {cs:List Value} {j:Nat} {v:Value} (h:pk w b T cs) (qa:hc cs j v):w.cell? ⟨b,j,none⟩=some v:=by
 unfold hc at qa
 unfold pk at h
 simp [World.cell?,h,qa]
theorem pk.cells {b:Nat} {cs:List Value} (h:pk w b T cs):gj w b 0 cs:=fun j v qa=>by
 rw [Nat.zero_add]; exact h.cell qa
theorem gj.one {b o:Nat} {cs:List Value} {j:Nat} {v:Value} (h:gj w b o cs) (qa:hc cs j v):w.cell? ⟨b,o+j,none⟩=some v:=h j v qa
theorem bd (a:Lc P T Gf vd n m) (c:Sep S Jd J w rs A)
  (h:∀ b w',w.heap.size≤b→Sep S Jd J w' (.ba b T vd::rs) A→Kg fr dst (.pointer (some ⟨b,0,none⟩)) fun Ca=>K Ca ds w'):Zd P (Oper.mk dst (.alloc T) ty pos after g) fr ds w K Q:=by
 obtain ⟨z,d,e⟩:=a.zero (w:=w)
 obtain ⟨Ca,ya⟩:=jh fr dst (.pointer (some ⟨w.heap.size,0,none⟩))
 refine ig (v:=.pointer (some ⟨w.heap.size,0,none⟩)) (w':=w.alloc (.cells ⟨vd⟩ T)) ?_ ya (h _ _ (Nat.le_refl _) (c.alloc rfl (heap_alloc_new w _)) Ca ya)
 simp [execOp,Instr.alloc,d,newVar,newRow,e]
theorem Ji {x:Operand} {v:Value} {cs:List Value} (a:wb fr x v) (c:v.cells=⟨cs⟩) (d:Sep S Jd J w rs A)
  (h:∀ b w',w.heap.size≤b→Sep S Jd J w' (.ba b T cs::rs) A→Kg fr dst (.pointer (some ⟨b,0,none⟩)) fun Ca=>K Ca ds w'):Zd P (Oper.mk dst (.box T x) ty pos after g) fr ds w K Q:=by
 obtain ⟨Ca,ya⟩:=jh fr dst (.pointer (some ⟨w.heap.size,0,none⟩))
 refine ig (v:=.pointer (some ⟨w.heap.size,0,none⟩)) (w':=w.alloc (.cells ⟨cs⟩ T)) ?_ ya (h _ _ (Nat.le_refl _) (d.alloc rfl (heap_alloc_new w _)) Ca ya)
 simp [execOp,Instr.box,a ds,newVar,newRow,c]
structure cn (P:Program) (o:Oper) (fr:List Value) (w:World) (v:Value):Prop where
 out:∀ ds,(execOp (F fr ds).eval o).run P w=.ok (.value v) w
theorem Qs {o:Oper} {v:Value} (hu:cn P o fr w v) (a:hf fr o.dst v Ca) (h:K Ca ds w):Zd P o fr ds w K Q:=ig (hu.out ds) a h
theorem jb {x:Operand} {b o:Nat} {v:Value} (a:Lc P T false vd n m) (c:wb fr x (.pointer (some ⟨b,o,none⟩))) (d:w.cell? ⟨b,o,none⟩=some v):cn P (Oper.mk dst (.load T x) ty pos after g) fr w v :=
 ⟨fun ds=>by simp [execOp,Instr.loadAt,c ds,Instr.sureAddr,loadVar,a.isAgg,d]⟩
theorem de {x:Operand} {b o:Nat} {v:Value} (a:Lc P T false vd n m) (c:wb fr x (.pointer (some ⟨b,o,none⟩))) (d:w.cell? ⟨b,o,none⟩=some v)
  (e:hf fr dst v Ca) (h:K Ca ds w):Zd P (Oper.mk dst (.load T x) ty pos after g) fr ds w K Q:=Qs (jb a c d) e h
theorem Re {x:Operand} {b o:Nat} {cs:List Value} (a:Lc P T true vd n m) (c:wb fr x (.pointer (some ⟨b,o,none⟩))) (d:gj w b o cs) (e:cs.length=n):cn P (Oper.mk dst (.load T x) ty pos after g) fr w (.agg ⟨cs⟩):=⟨fun ds=>by
 have qa:=run_loadCells_list (P:=P) w ⟨b,o,none⟩ cs (fun j v f=>by rw [Fi]; exact d j v f)
 rw [e] at qa
 simp [execOp,Instr.loadAt,c ds,Instr.sureAddr,loadVar,a.isAgg,a.sizeOf,qa]⟩
theorem Dn {x:Operand} {b o:Nat} {cs:List Value} (a:Lc P T true vd n m) (c:wb fr x (.pointer (some ⟨b,o,none⟩))) (d:gj w b o cs) (e:cs.length=n)
  (f:hf fr dst (.agg ⟨cs⟩) Ca) (h:K Ca ds w):Zd P (Oper.mk dst (.load T x) ty pos after g) fr ds w K Q:=Qs (Re a c d e) f h
inductive kd:List Value→Nat→List Value→List Value→Prop where
 | z {cs:List Value} {o:Nat}:kd cs o [] cs
 | s {cs cs1 a:List Value} {o:Nat} {v:Value} {vs:List Value} (h:Ac cs o v cs1) (qa:o<cs.length) (k:kd cs1 (o+1) vs a):kd cs o (v::vs) a
theorem kd.eq {cs:List Value} {o:Nat} {vs b:List Value} (h:kd cs o vs b):o+vs.length≤cs.length∨vs=[]:=by
 induction h with
 | z=>exact .inr rfl
 | @s cs cs1 b o v vs h qa k a =>
  left
  unfold Ac at h
  subst h
  rcases a with a | rfl
  ·simp at a ⊢; omega
  ·simp; omega
theorem kd.res {cs:List Value} {o:Nat} {vs a:List Value} (h:kd cs o vs a) (qa:o≤cs.length):a=cs.take o++vs++cs.drop (o+vs.length):=by
 induction h with
 | z=>simp
 | @s cs cs1 a o v vs h b k c =>
  unfold Ac at h
  subst h
  rw [c (by simp; omega)]
  have sa:(cs.set o v).take (o+1)=cs.take o++[v]:=by
   rw [List.take_set,List.take_add_one,List.getElem?_eq_getElem b]
   rw [List.set_append_right _ _ (by simp; omega)]
   simp [Nat.min_eq_left (Nat.le_of_lt b)]
  rw [sa]
  have d:(cs.set o v).drop (o+1+vs.length)=cs.drop (o+(v::vs).length):=by
   rw [List.drop_set_of_lt (by omega)]
   congr 1
   simp; omega
  rw [d]
  simp
theorem Jv {v:Value} (h:Me v=true):v.oneCell'=true:=by cases v <;> first | rfl | simp [Me] at h
theorem ED {b:Nat} {cs:List Value} (c:pk w b T cs) {o:Nat} {vs d:List Value} (a:kd cs o vs d) (e:o≤cs.length) (f:vs.all Me=true) :
  ∃ w',(storeCells ⟨b,o,none⟩ vs).run P w=.ok () w'∧pk w' b T d∧xh (fun k=>k≠b) w w':=by
 have hle:o+0+vs.length≤(⟨cs⟩:Array Value).size:=by
  rcases a.eq with h | rfl
  ·simpa using h
  ·simpa using e
 refine ⟨_,run_storeCells_at P b o T vs 0 ⟨cs⟩ w c hle fun v g=>Jv (List.all_eq_true.1 f v g),?_,?_⟩
 ·rw [a.res e]
  exact setRow_heap w b ⟨cs⟩ _ T (0,0) c
 ·exact ⟨rfl,rfl,rfl,by simp [World.setRow],fun k i a=>setRow_other w b k _ a⟩
theorem En {x y:Operand} {b o k:Nat} {v:Value} {cs a vs:List Value} (f:Lc P T Gf vd n m) (i:wb fr x (.pointer (some ⟨b,o,none⟩))) (j:wb fr y v) (c:v.cells=⟨vs⟩) (l:vs.length=n) (p:vs.all Me=true)
  (d:Sep S Jd J w rs A) {e:TypeId} (qa:hc rs k (.ba b e cs)) (q:kd cs o vs a) (r:(decide (o≤cs.length))=true) (s:Ac rs k (.ba b e a) sc)
  (ya:hf fr dst undef Ca) (h:∀ w',Sep S Jd J w' sc A→K Ca ds w'):Zd P (Oper.mk dst (.store T x y) ty pos after g) fr ds w K Q:=by
 obtain ⟨w',t,u,z⟩:=ED (P:=P) (d.get qa) q (of_decide_eq_true r) p
 refine vy (w':=w') ?_ ya (h w' (d.put qa rfl rfl s u z))
 have sa:v.cells.toList=vs:=by rw [c]
 have B:¬ (v.cells.size≠n):=by rw [c]; simpa using l
 have C:=f.sizeOf (w:=w)
 simp only [execOp,Instr.storeAt,i ds,j ds,Instr.sureAddr,storeVar,Sem.run_bind,C,Result.andThen_ok,if_neg B,sa,t,Sem.run_pure]
class se (P:Program) (T:TypeId) (i:Nat) (off:outParam Nat):Prop where
 out:∀ b o w,(Instr.fieldAt T (.pointer (some ⟨b,o,none⟩)) i).run P w=.ok (.pointer (some ⟨b,o+off,none⟩)) w
theorem xe {c:Array Field} {i off:Nat} {f:Field} {d:TypeId} {e:List Value} {a g:Nat} {h:Bool} (j:P.underlying T=some (.struct c)) (k:c[i]?=some f) (l:f.offset=off) (m:f.type=d) (n:Lc P d h e a g) (p:(a == 0)=false):se P T i off:=by
 constructor
 intro b o w
 have q:¬ a=0:=by simpa using p
 simp [Instr.fieldAt,run_underlying j,k,Instr.sureAddr,fieldPlace,m,n.sizeOf,q,Fi,l]
theorem tu {x:Operand} {b o i off a:Nat} (c:se P T i off) (d:wb fr x (.pointer (some ⟨b,o,none⟩))) (e:o+off=a):uf P (Oper.mk dst (.fieldAddr T x i) ty pos after g) fr ((.pointer (some ⟨b,a,none⟩))):=by
 subst e
 exact ⟨fun ds w=>by simp [execOp,d ds,c.out]⟩
theorem wy {x:Operand} {b o i off a:Nat} (c:se P T i off) (d:wb fr x (.pointer (some ⟨b,o,none⟩))) (e:o+off=a) (f:hf fr dst ((.pointer (some ⟨b,a,none⟩))) Ca) (h:K Ca ds w):Zd P (Oper.mk dst (.fieldAddr T x i) ty pos after g) fr ds w K Q:=Ja (tu c d e) f h
theorem QF {x:Operand} {i off:Nat} {cs:List Value} {v:Value} {a:Array Field} {f:Field} {b:TypeId} {c:List Value} {d e:Nat} (h:P.underlying T=some (.struct a)) (j:a[i]?=some f) (k:f.offset=off) (l:f.type=b) (m:Lc P b false c d e)
  (n:wb fr x (.agg ⟨cs⟩)) (qa:hc cs off v):uf P (Oper.mk dst (.field T x i) ty pos after g) fr (v):=by
 subst k l
 unfold hc at qa
 refine ⟨fun ds w=>?_⟩
 simp [execOp,n ds,Instr.field,run_underlying h,j,asAgg,part,m.isAgg,qa]
theorem ZA {x:Operand} {i off:Nat} {cs:List Value} {v:Value} {a:Array Field} {f:Field} {b:TypeId} {c:List Value} {d e:Nat} (j:P.underlying T=some (.struct a)) (k:a[i]?=some f) (l:f.offset=off) (m:f.type=b) (n:Lc P b false c d e)
  (o:wb fr x (.agg ⟨cs⟩)) (qa:hc cs off v) (p:hf fr dst (v) Ca) (h:K Ca ds w):Zd P (Oper.mk dst (.field T x i) ty pos after g) fr ds w K Q:=Ja (QF j k l m n o qa) p h
theorem uu {x y:Operand} {b o len cap:Nat} {k:IntKind} {i:Int} {e:TypeId} {a:Nat} (c:P.underlying T=some (.slice e)) (d:Lc P e Gf vd n m) (f:wb fr x (.slice (some ⟨b,o,none⟩) len cap)) (h:wb fr y (.int k i)) (j:0≤i∧i<len) (l:o+i.toNat*n=a):uf P (Oper.mk dst (.indexAddr T x y) ty pos after g) fr ((.pointer (some ⟨b,a,none⟩))):=by
 subst l
 refine ⟨fun ds w=>?_⟩
 simp [execOp,f ds,h ds,Instr.indexAt,asIntOf,run_underlying c,j,d.sizeOf,Fi]
theorem It {x:Operand} {a:Addr} (b:wb fr x (.pointer (some a))):uf P (Oper.mk dst (.nilCheck x) ty pos after g) fr ((.pointer (some a))):=⟨fun ds w=>by simp [execOp,b ds]⟩
theorem Ox {x:Operand} {a:Addr} (b:wb fr x (.pointer (some a))) (c:hf fr dst ((.pointer (some a))) Ca) (h:K Ca ds w):Zd P (Oper.mk dst (.nilCheck x) ty pos after g) fr ds w K Q:=Ja (It b) c h
end
end Go.bc
namespace Go.bc
open Go.RowKit
section
variable {P:Program} {Q:Exit→Act→World→Prop} {K:List Value→List Deferred→World→Prop} {fr Ca:List Value} {ds:List Deferred} {w:World}
variable {dst:Option Tmp} {ty:TypeId} {pos:String} {after:Array Edge} {g:Option (Nat×Bool)}
variable {S Jd:Nat→Prop} {J:World} {rs sc:List Wb} {A:World→Prop}
variable {T:TypeId} {d:TypeDesc} {Gf:Bool} {vd:List Value} {n m:Nat}
inductive ia:List Wb→Nat→List Wb→Prop where
 | z {r:Wb} {rs:List Wb}:ia (r::rs) 0 rs
 | s {r:Wb} {rs sc:List Wb} {k:Nat} (h:ia rs k sc):ia (r::rs) (k+1) (r::sc)
theorem ia.mem {k:Nat} (h:ia rs k sc):∀ r ∈ sc,r ∈ rs:=by
 induction h with
 | z=>intro r a; exact List.mem_cons_of_mem _ a
 | s _ b=>intro r a; rcases List.mem_cons.1 a with rfl | a; exact List.mem_cons_self; exact List.mem_cons_of_mem _ (b r a)
theorem ia.sub {k:Nat} (h:ia rs k sc):sc.Sublist rs:=by
 induction h with
 | z=>exact List.sublist_cons_self _ _
 | s _ a=>exact a.cons_cons _
theorem Sep.drop {k:Nat} (h:Sep S Jd J w rs A) (a:ia rs k sc):Sep S Jd J w sc A where
 keeps:=h.keeps
 all r d:=h.all r (a.mem r d)
 Oi:=(a.sub.filterMap _).nodup h.Oi
 new b e:=h.new b ((a.sub.filterMap _).subset e)
 oj:=h.oj.mono fun _ _ c=>⟨c.1,fun hm=>c.2 ((a.sub.filterMap _).subset hm)⟩
theorem Sep.freeze {k:Nat} {r:Wb} {B:World→Prop} (h:Sep S Jd J w rs A) (qa:hc rs k r) (a:ia rs k sc) (e:∀ b,r.block=some b→Jd b∨J.heap.size≤b) (f:∀ w,r.holds w→B w) :
  Sep S Jd J w sc fun w=>A w∧B w where
 keeps:=(h.drop a).keeps
 all:=(h.drop a).all
 Oi:=(h.drop a).Oi
 new:=(h.drop a).new
 oj:=(h.drop a).oj.and fun w' l g=>f w' (holds_of (h.get qa) fun b d=>g b (h.lt (hp (cw qa) d)) ⟨e b d,by
  intro hm
  have:blocks sc=(blocks rs).erase b∨True:=.inr trivial
  clear this
  have ya:=h.Oi
  clear f e l g h
  unfold blocks at hm ya
  unfold hc at qa
  induction a with
  | z=>simp at qa; subst qa; simp only [List.filterMap_cons,d,List.nodup_cons] at ya; exact ya.1 hm
  | @s r' rs sc k a i =>
   simp at qa
   cases j:r'.block with
   | none=>simp only [List.filterMap_cons,j] at hm ya; exact i qa hm ya
   | some c =>
    simp only [List.filterMap_cons,j,List.nodup_cons,List.mem_cons] at hm ya
    rcases hm with rfl | hm
    ·exact ya.1 (List.mem_filterMap.2 ⟨r,List.mem_of_getElem? qa,d⟩)
    ·exact i qa hm ya.2⟩)
inductive fb (fr:List Value):Nat→List (Nat×Operand)→List Value→Prop where
 | z {i:Nat}:fb fr i [] []
 | s {i:Nat} {x:Operand} {v:Value} {xs:List (Nat×Operand)} {vs:List Value} (h:wb fr x v) (a:Me v=true) (t:fb fr (i+1) xs vs):fb fr i ((i,x)::xs) (v::vs)
theorem fb.eval {i:Nat} {xs:List (Nat×Operand)} {vs:List Value} (h:fb fr i xs vs):xs.map (fun p=>(p.1,(F fr ds).eval p.2))=(vs.zipIdx i).map fun p=>(p.2,p.1):=by
 induction h with
 | z=>rfl
 | s h _ _ a=>simp [h ds,a]
theorem fb.cell {i:Nat} {xs:List (Nat×Operand)} {vs:List Value} (h:fb fr i xs vs):∀ v ∈ vs,Me v=true:=by
 induction h with
 | z=>simp
 | s _ b _ c=>intro v a; rcases List.mem_cons.1 a with rfl | a; exact b; exact c v a
theorem ox {v:Value} (h:Me v=true):v.cells=#[v]:=by cases v <;> first | rfl | simp [Me] at h
theorem dA (pl:Nat→Option (Nat×Nat)) (a:∀ i,pl i=some (i,1)):∀ (vs:List Value) (i:Nat) (cs:List Value),(∀ v ∈ vs,Me v=true)→i+vs.length≤cs.length →
  Instr.fill pl ⟨cs⟩ ((vs.zipIdx i).map fun p=>(p.2,p.1))=some ⟨cs.take i++vs++cs.drop (i+vs.length)⟩
 | [],i,cs,_,h=>by simp [Instr.fill]
 | v::vs,i,cs,b,h=>by
  have e:=ox (b v (by simp))
  have d:i<cs.length:=by simp at h; omega
  have f:=dA pl a vs (i+1) (cs.set i v) (fun u hu=>b u (by simp [hu])) (by simp at h ⊢; omega)
  simp only [List.zipIdx_cons,List.map_cons,Instr.fill,a,e]
  have hb:¬ ((#[v].size≠1 || i+#[v].size > (⟨cs⟩:Array Value).size)=true):=by simp; omega
  rw [if_neg hb]
  have sa:(#[v].zipIdx.foldl (fun cs (c,j)=>cs.setIfInBounds (i+j) c) (⟨cs⟩:Array Value))=⟨cs.set i v⟩:=by
   simp [Array.zipIdx]
  rw [sa,f]
  have g:(cs.set i v).take (i+1)=cs.take i++[v]:=by
   rw [List.take_set,List.take_add_one,List.getElem?_eq_getElem d]
   rw [List.set_append_right _ _ (by simp; omega)]
   simp [Nat.min_eq_left (Nat.le_of_lt d)]
  have k:(cs.set i v).drop (i+1+vs.length)=cs.drop (i+(v::vs).length):=by
   rw [List.drop_set_of_lt (by omega)]
   congr 1
   simp; omega
  rw [g,k]
  simp
theorem xd {e:TypeId} {len:Nat} {xs:List (Nat×Operand)} {vs:List Value} (l:P.underlying T=some (.slice e)) (a:Lc P e Gf vd 1 m) (c:fb fr 0 xs vs) (d:vs.length=len) (n:(decide (len≤16777216))=true) (o:Sep S Jd J w rs A)
  (h:∀ b w',w.heap.size≤b→Sep S Jd J w' (.ba b e vs::rs) A→Kg fr dst (.slice (some ⟨b,0,none⟩) len len) fun Ca=>K Ca ds w'):Zd P (Oper.mk dst (.buildSlice T len ⟨xs⟩) ty pos after g) fr ds w K Q:=by
 obtain ⟨Ca,ya⟩:=jh fr dst (.slice (some ⟨w.heap.size,0,none⟩) len len)
 refine ig (v:=.slice (some ⟨w.heap.size,0,none⟩) len len) (w':=w.alloc (.cells ⟨vs⟩ e)) ?_ ya (h _ _ (Nat.le_refl _) (o.alloc rfl (heap_alloc_new w _)) Ca ya)
 obtain ⟨z,q,u⟩:=a.zero (w:=w)
 have r:=a.sizeOf (w:=w)
 have s:¬ (len*1 > 2 ^ 24):=by have:=of_decide_eq_true n; omega
 have t:=c.eval (ds:=ds)
 have f:∀ cs:Array Value,cs.size=len→Instr.fill (fun i=>some (i*1,1)) cs ((vs.zipIdx 0).map fun p=>(p.2,p.1))=some ⟨vs⟩:=by
  intro cs j
  have:=dA (fun i=>some (i*1,1)) (fun i=>by rw [Nat.mul_one]) vs 0 cs.toList c.cell (by simp [d,j])
  rw [this,List.drop_eq_nil_of_le (by simp [d,j])]
  simp
 have qa:((⟨xs⟩:Array (Nat×Operand)).map fun (i,x)=>(i,(F fr ds).eval x)).toList=(vs.zipIdx 0).map fun p=>(p.2,p.1):=by
  simp only [Array.toList_map]
  exact t
 unfold execOp
 simp only [Instr.buildSlice,Sem.run_bind,run_underlying l,Result.andThen_ok,r,if_neg s,qa]
 by_cases k:len*1=0
 ·simp only [if_pos k,Sem.run_bind,Sem.run_pure,Result.andThen_ok]
  rw [f _ (by simp)]
  simp [newRow]
 ·simp only [if_neg k,Sem.run_bind,Sem.run_pure,Result.andThen_ok,q]
  rw [f _ (by simp)]
  simp [newRow]
theorem Sep.row {k:Nat} {v q:Value} {sz x:Nat} {xs y:List Value} {w':World} (f:Sep S Jd J w rs A) (qa:hc rs k (.row v T sz n xs)) (D:Ac rs k (.row q T sz x y) sc) (G:Row w' q T sz x y)
  (o:xh (fun b=>some b≠v.ownBlock) w w') (p:q.ownBlock=v.ownBlock∨∃ b,q.ownBlock=some b∧w.heap.size≤b):Sep S Jd J w' sc A:=by
 unfold Ac at D
 subst D
 have z:∀ b,v.ownBlock=some b→b ∈ blocks rs:=fun b d=>hp (cw qa) d
 have B:∀ b ∈ blocks (rs.set k (.row q T sz x y)),(b ∈ blocks rs)∨(q.ownBlock=some b∧w.heap.size≤b):=by
  intro b d
  obtain ⟨r,u,m⟩:=List.mem_filterMap.1 d
  rcases List.mem_or_eq_of_mem_set u with hm | rfl
  ·exact .inl (hp hm m)
  ·rcases p with p | ⟨c,s,hle⟩
   ·exact .inl (z b (p ▸ m))
   ·have:c=b:=by simpa [Wb.block,s] using m
    subst this
    exact .inr ⟨s,hle⟩
 have H:∀ b ∈ blocks rs,b ∈ blocks (rs.set k (.row q T sz x y))∨v.ownBlock=some b:=by
  intro b d
  obtain ⟨r,u,m⟩:=List.mem_filterMap.1 d
  obtain ⟨j,C⟩:=List.mem_iff_getElem?.1 u
  by_cases e:k=j
  ·subst e
   unfold hc at qa
   rw [qa] at C
   cases C
   exact .inr m
  ·exact .inl (hp (r:=r) (List.mem_of_getElem? (i:=j) (by rw [List.getElem?_set_ne e]; exact C)) m)
 refine ⟨?_,?_,?_,?_,?_⟩
 ·refine ⟨o.os.trans f.keeps.os,o.tape.trans f.keeps.tape,o.output.trans f.keeps.output,Nat.le_trans f.keeps.size o.size,fun b d t=>?_⟩
  rw [o.ba b (Nat.lt_of_lt_of_le d f.keeps.size) (fun e=>by rcases f.new b (z b e.symm) with h | h; exact absurd d (by omega); exact h t)]
  exact f.keeps.ba b d t
 ·intro K L
  obtain ⟨j,hm⟩:=List.mem_iff_getElem?.1 L
  by_cases e:k=j
  ·subst e
   have g:k<rs.length:=(List.getElem?_eq_some_iff.1 qa).1
   rw [List.getElem?_set_self g] at hm
   cases hm
   exact G
  ·rw [List.getElem?_set_ne e] at hm
   refine holds_of (f.all K (List.mem_of_getElem? hm)) fun c s=>o.ba c (f.lt (hp (List.mem_of_getElem? hm) s)) fun M=>?_
   exact dz f.Oi qa hm e (b:=c) M.symm s
 ·have ya:=f.Oi
  have g:=fun b (d:b ∈ blocks rs)=>f.lt d
  clear B H z
  unfold hc at qa
  revert qa ya g
  generalize rs=l
  unfold blocks
  intro qa ya g
  induction l generalizing k with
  | nil=>simp at qa
  | cons a l E =>
   cases k with
   | zero =>
    simp at qa
    subst qa
    simp only [List.set_cons_zero,List.filterMap_cons,Wb.block] at ya g ⊢
    rcases p with p | ⟨c,s,hle⟩
    ·rw [p]; exact ya
    ·rw [s]
     cases d:v.ownBlock with
     | none =>
      rw [d] at ya g
      exact List.nodup_cons.2 ⟨fun hm=>by have:=g c hm; omega,ya⟩
     | some b =>
      rw [d] at ya g
      exact List.nodup_cons.2 ⟨fun hm=>by have:=g c (List.mem_cons_of_mem _ hm); omega,(List.nodup_cons.1 ya).2⟩
   | succ k =>
    simp at qa
    simp only [List.set_cons_succ,List.filterMap_cons] at ya g ⊢
    cases F:a.block with
    | none=>rw [F] at ya g; exact E qa ya g
    | some c =>
     rw [F] at ya g
     simp only [List.nodup_cons] at ya ⊢
     refine ⟨fun hm=>?_,E qa ya.2 fun b d=>g b (List.mem_cons_of_mem _ d)⟩
     obtain ⟨r,u,m⟩:=List.mem_filterMap.1 hm
     rcases List.mem_or_eq_of_mem_set u with hm | rfl
     ·exact ya.1 (List.mem_filterMap.2 ⟨r,hm,m⟩)
     ·rcases p with p | ⟨tc,N,hle⟩
      ·exact ya.1 (List.mem_filterMap.2 ⟨_,List.mem_of_getElem? qa,by rw [← m]; exact p.symm⟩)
      ·have:tc=c:=by simpa [Wb.block,N] using m
       have:=g c (by simp)
       omega
 ·intro b d
  rcases B b d with h | h
  ·exact f.new b h
  ·exact .inl (Nat.le_trans f.keeps.size h.2)
 ·intro P Q R
  refine f.oj P (Nat.le_trans o.size Q) fun b d t=>?_
  rw [R b (Nat.lt_of_lt_of_le d o.size) ⟨t.1,fun hm=>by rcases B b hm with h | h; exact t.2 h; exact absurd d (by omega)⟩]
  exact o.ba b d fun e=>t.2 (z b e.symm)
end
section
variable {P:Program} {Q:Exit→Act→World→Prop} {K:List Value→List Deferred→World→Prop} {fr Ca:List Value} {ds:List Deferred} {w:World}
variable {dst:Option Tmp} {ty:TypeId} {pos:String} {after:Array Edge} {g:Option (Nat×Bool)}
variable {S Jd:Nat→Prop} {J:World} {rs sc:List Wb} {A:World→Prop}
variable {T:TypeId} {d:TypeDesc} {Gf:Bool} {vd:List Value} {n m:Nat}
theorem Ry {t ty:TypeId} {sz bytes:Nat} (p:P.underlying t=some (.slice T)) (K:Lc P T Gf vd sz bytes) (L:vd.length=sz) (lc:0<sz)
  {v:Value} {xs:List Value} (h:Row w v T sz n xs) {a:Addr} {m c:Nat} {news:List Value} (qa:news.length=m*sz) (s:∀ j u,news[j]?=some u→w.cell? (a.add j)=some u) (M:∀ u ∈ news,u.oneCell'=true)
  (C:n+m≤maxLen) (D:(n+m)*bytes≤140737488355328) :
  ∃ q w',(Builtin.append_ #[t,t] ty #[v,.slice (some a) m c]).run P w=.ok q w'∧Row w' q T sz (n+m) (xs++news)∧xh (fun b=>some b≠v.ownBlock) w w' ∧
   (q.ownBlock=v.ownBlock∨∃ b,q.ownBlock=some b∧w.heap.size≤b):=by
 obtain ⟨i,z,r,E,N,F,Q⟩:=K.inf
 have R:z.cells.size=i.size:=by rw [N,F]; simpa using L
 subst F
 subst Q
 have rc:n+m≤9223372036854775807:=by simp only [maxLen] at C; omega
 have hlen:(xs++news).length=(n+m)*i.size:=by rw [List.length_append,h.1,qa,Nat.add_mul]
 have grown:∀ (d:Nat),d<n+m→∀ (row:Option Nat),
   Row (w.drew.alloc (.cells (xs.toArray++news.toArray++Builtin.zeroCells z.cells (grownCap w (n+m) d T - (n+m))) T)) (.slice (some ⟨w.heap.size,0,none⟩) (n+m) (grownCap w (n+m) d T)) T i.size (n+m) (xs++news) ∧
   xh (fun b=>some b≠row) w (w.drew.alloc (.cells (xs.toArray++news.toArray++Builtin.zeroCells z.cells (grownCap w (n+m) d T - (n+m))) T)):=by
  intro d fd row
  have S:=grownCap_ge w (n+m) d T
  have x:grownCap w (n+m) d T≤maxLen:=grownCap_le_maxLen w (n+m) d T C
  refine ⟨⟨hlen,.inr ⟨w.heap.size,0,_,_,rfl,heap_alloc_new w.drew _,S,x,?_,?_⟩⟩,⟨rfl,rfl,rfl,by simp,fun k y _=>heap_alloc_old w.drew _ k y⟩⟩
  ·simp only [Array.size_append,List.size_toArray,size_zeroCells,R,h.1,qa,← Nat.add_mul,Nat.zero_add]
   exact Nat.mul_le_mul_right _ (by omega)
  ·simp only [Array.toList_append,List.append_assoc,List.drop_zero]
   rw [← List.append_assoc,← hlen]
   exact List.take_left
 rcases h.2 with ⟨rfl,rfl⟩ | ⟨g,o,cap,cur,rfl,A,id,x,md,G⟩
 ·have V:xs=[]:=List.eq_nil_of_length_eq_zero (by simpa using h.1)
  subst V
  by_cases hm:m=0
  ·subst hm
   have W:news=[]:=List.eq_nil_of_length_eq_zero (by simpa using qa)
   subst W
   refine ⟨.slice none 0 0,w,?_,⟨by simp,.inl ⟨rfl,rfl⟩⟩,.refl w,.inl rfl⟩
   simp [Builtin.append_,run_underlying p,sizeOf,typeInfo,r,Builtin.lenOf,Builtin.firstCells,loadCells,loadCellsFrom]
  ·have l:=run_append_nil (P:=P) w t ty T i z p r E a m c news qa s (by omega) (by omega) (by have X:=D; simp only [Nat.zero_add] at X; omega)
   have f:=grown 0 (by omega) (Value.ownBlock (.slice none 0 0))
   simp only [Nat.zero_add,List.nil_append,Array.empty_append] at f ⊢
   exact ⟨_,_,l,f.1,f.2,.inr ⟨_,rfl,Nat.le_refl _⟩⟩
 ·by_cases B:n+m≤cap
  ·have hmul:n*i.size+news.length≤cap*i.size:=by rw [qa,← Nat.add_mul]; exact Nat.mul_le_mul_right _ B
   have Y:o+n*i.size+news.length≤cur.size:=by omega
   have l:(Builtin.append_ #[t,t] ty #[.slice (some ⟨g,o,none⟩) n cap,.slice (some a) m c]).run P w =
     .ok (.slice (some ⟨g,o,none⟩) (n+m) cap) (w.setRow g (cur.toList.take (o+n*i.size)++news++cur.toList.drop (o+n*i.size+news.length)).toArray):=by
    have Z:=run_firstCells_some (P:=P) w i.size m a m c news qa s
    have H:=run_storeCells_at P g (o+n*i.size) T news 0 cur w A (by simpa using Y) M
    simp only [Nat.add_zero] at H
    simp [Builtin.append_,run_underlying p,sizeOf,typeInfo,r,Builtin.lenOf,B,Z,Fi,H]
   refine ⟨_,_,l,⟨hlen,.inr ⟨g,o,cap,_,rfl,setRow_heap w g cur _ T _ A,B,x,?_,?_⟩⟩,⟨rfl,rfl,rfl,by simp [World.setRow],fun k _ y=>setRow_other w g k _ (fun e=>y (by simp [Value.ownBlock,e]))⟩,.inl rfl⟩
   ·simp only [List.size_toArray,List.length_append,List.length_take,List.length_drop,Array.length_toList]
    omega
   ·rw [← hlen,← G]
    have sa:(cur.toList.take (o+n*i.size)).drop o=(cur.toList.drop o).take (n*i.size):=by
     rw [List.drop_take]; congr 1; omega
    have gc:o≤(cur.toList.take (o+n*i.size)).length:=by simp; omega
    rw [List.append_assoc,List.drop_append_of_le_length gc,sa,← List.append_assoc]
    exact List.take_left
  ·have holds:∀ j u,xs[j]?=some u→w.cell? ((⟨g,o,none⟩:Addr).add j)=some u:=by
    intro j u hu
    rw [Fi,cell_of_row w g (o+j) cur T (0,0) A]
    rw [← G,List.getElem?_take] at hu
    split at hu
    ·rw [List.getElem?_drop] at hu; simpa using hu
    ·cases hu
   have l:=run_append_grow (P:=P) w t ty T i z p r E ⟨g,o,none⟩ n cap xs h.1 holds a m c news qa s (by omega) (by omega) (growslice_fits (by omega) D)
   have f:=grown cap (by omega) (Value.ownBlock (.slice (some ⟨g,o,none⟩) n cap))
   exact ⟨_,_,l,f.1,f.2,.inr ⟨_,rfl,Nat.le_refl _⟩⟩
theorem Sep.Qh (h:Sep S Jd J w rs A) (T:TypeId) (sz:Nat):Sep S Jd J w (.row (.slice none 0 0) T sz 0 []::rs) A where
 keeps:=h.keeps
 all r a:=by
  rcases List.mem_cons.1 a with rfl | a
  ·exact ⟨by simp,.inl ⟨rfl,rfl⟩⟩
  ·exact h.all r a
 Oi:=h.Oi
 new:=h.new
 oj:=h.oj
theorem yx {t:TypeId} {s x:Operand} {v:Value} {sz bytes k b o e c:Nat} {xs news:List Value} (m:P.underlying t=some (.slice T)) (p:Lc P T Gf vd sz bytes) (f:(vd.length == sz && decide (0<sz))=true)
  (q:wb fr s v) (r:wb fr x (.slice (some ⟨b,o,none⟩) e c)) (i:Sep S Jd J w rs A) (qa:hc rs k (.row v T sz n xs)) (y:gj w b o news) (hlen:news.length=e*sz) (z:news.all Me=true)
  (l:n+e≤4294967296∧bytes≤4096)
  (h:∀ d w' sc,Ac rs k (.row d T sz (n+e) (xs++news)) sc→Sep S Jd J w' sc A→Kg fr dst d fun Ca=>K Ca ds w') :
  Zd P (Oper.mk dst (.call { callee:=.builtin .append,args:=#[s,x],argTypes:=#[t,t] }) ty pos after g) fr ds w K Q:=by
 simp only [Bool.and_eq_true,beq_iff_eq,decide_eq_true_eq] at f
 have B:(n+e)*bytes≤140737488355328:=Nat.le_trans (Nat.mul_le_mul l.1 l.2) (by decide)
 obtain ⟨d,w',C,D,E,F⟩:=Ry (P:=P) (ty:=ty) m p f.1 f.2 (i.get qa) (a:=⟨b,o,none⟩) (c:=c) hlen (fun j u hu=>by rw [Fi]; exact y j u hu) (fun u hu=>Jv (List.all_eq_true.1 z u hu)) (by unfold maxLen; omega) B
 obtain ⟨Ca,ya⟩:=jh fr dst d
 refine ig (v:=d) (w':=w') ?_ ya (h d w' _ rfl (i.row qa rfl D E F) Ca ya)
 have sa:=q ds
 have G:=r ds
 simp [execOp,resolve,invoke,builtin,sa,G,C]
inductive Rs (P:Program) (fr:List Value) (w:World):ResultVar→Value→Prop where
 | t {n:Nat} {v:Value} (h:hc fr n v):Rs P fr w (.tmp n) v
 | c {n b o:Nat} {v:Value} {T:TypeId} {vd:List Value} {k m:Nat} (h:hc fr n (.pointer (some ⟨b,o,none⟩))) (d:Lc P T false vd k m) (e:w.cell? ⟨b,o,none⟩=some v):Rs P fr w (.cell n T) v
 | a {n b o:Nat} {cs:List Value} {T:TypeId} {vd:List Value} {k m:Nat} (h:hc fr n (.pointer (some ⟨b,o,none⟩))) (d:Lc P T true vd k m) (e:gj w b o cs) (f:cs.length=k):Rs P fr w (.cell n T) (.agg ⟨cs⟩)
inductive Qa (P:Program) (fr:List Value) (w:World):List ResultVar→List Value→Prop where
 | z:Qa P fr w [] []
 | s {r:ResultVar} {v:Value} {rs:List ResultVar} {vs:List Value} (h:Rs P fr w r v) (t:Qa P fr w rs vs):Qa P fr w (r::rs) (v::vs)
def ns (tmps:Array Value):ResultVar→Sem Value
 | .tmp t=>pure (tmps.getD t undef)
 | .cell a t=>do loadVar t (← asAddr (tmps.getD a undef))
theorem FD (fn:Func) (tmps:Array Value):results fn tmps=(do
  let vs ← fn.results.mapM (ns tmps)
  pure (if h:vs.size=1 then vs[0] else .tuple vs)):=by
 unfold results
 congr 1
theorem Rs.run {r:ResultVar} {v:Value} (h:Rs P fr w r v):(ns (F fr ds).tmps r).run P w=.ok v w:=by
 cases h with
 | t h=>unfold hc at h; simp [ns,F,h]
 | c h d e=>unfold hc at h; simp [ns,F,h,asAddr,loadVar,d.isAgg,e]
 | a h d e f =>
  unfold hc at h
  rename_i n b o cs T vd k m
  have qa:=run_loadCells_list (P:=P) w ⟨b,o,none⟩ cs (fun j v g=>by rw [Fi]; exact e j v g)
  rw [f] at qa
  simp [ns,F,h,asAddr,loadVar,d.isAgg,d.sizeOf,qa]
theorem Qa.run {rs:List ResultVar} {vs:List Value} (h:Qa P fr w rs vs):(rs.mapM (ns (F fr ds).tmps)).run P w=.ok vs w:=by
 induction h with
 | z=>simp
 | @s r v rs vs h _ a =>
  have b:=h.run (ds:=ds)
  simp only [List.mapM_cons,Sem.run_bind]
  rw [b]
  simp only [Result.andThen_ok]
  rw [a]
  simp
def Gs:List Value→Value
 | [v]=>v
 | vs=>.tuple ⟨vs⟩
theorem ez {fn:Func} {a:List ResultVar} {vs:List Value} (b:fn.results=⟨a⟩) (h:Qa P fr w a vs):(results fn (F fr ds).tmps).run P w=.ok (Gs vs) w:=by
 have hm:=h.run (ds:=ds)
 rw [FD,b]
 rw [Array.mapM_eq_mapM_toList]
 simp only [Sem.run_bind,Sem.run_map,hm,Result.andThen_ok]
 match vs with
 | []=>simp [Gs]
 | [v]=>simp [Gs]
 | v::c::vs=>simp [Gs]
theorem Ad {fn:Func} {R:Value→World→Prop} {a:List ResultVar} {vs:List Value} (b:fn.results=⟨a⟩) (c:Qa P fr w a vs) (h:R (Gs vs) w):Dp P fn R .ret (F fr []) w :=
 bodyPost_ret (ez b c) rfl h
end
end Go.bc
namespace Go.bc
open Go.RowKit
section
variable {P:Program} {Q:Exit→Act→World→Prop} {K:List Value→List Deferred→World→Prop} {fr Ca:List Value} {ds:List Deferred} {w:World}
variable {dst:Option Tmp} {ty:TypeId} {pos:String} {after:Array Edge} {g:Option (Nat×Bool)}
variable {S Jd:Nat→Prop} {J:World} {rs sc:List Wb} {A:World→Prop}
variable {T:TypeId} {d:TypeDesc} {Gf:Bool} {vd:List Value} {n m:Nat}
theorem Sep.ba {k b:Nat} {cs:List Value} (h:Sep S Jd J w rs A) (qa:hc rs k (.ba b T cs)):pk w b T cs:=h.get qa
inductive ve:List Value→Nat→List Value→Prop where
 | z {cs:List Value} {o:Nat}:ve cs o []
 | s {cs:List Value} {o:Nat} {v:Value} {vs:List Value} (h:hc cs o v) (t:ve cs (o+1) vs):ve cs o (v::vs)
theorem ve.at {cs:List Value} {o:Nat} {vs:List Value} (h:ve cs o vs):∀ j v,vs[j]?=some v→cs[o+j]?=some v:=by
 induction h with
 | z=>intro j v h; simp at h
 | @s o v vs h t b =>
  intro j u a
  cases j with
  | zero=>simp at a; subst a; exact h
  | succ j=>have:=b j u (by simpa using a); rw [show o+(j+1)=o+1+j by omega]; exact this
theorem pk.Xk {b o:Nat} {cs vs:List Value} (h:pk w b T cs) (a:ve cs o vs):gj w b o vs:=fun j v c=>h.cell (a.at j v c)
theorem Je {x y:Operand} {b o k:Nat} {v:Value} {cs a:List Value} (f:Lc P T Gf vd 1 m) (i:wb fr x (.pointer (some ⟨b,o,none⟩))) (j:wb fr y v) (c:Me v=true)
  (l:Sep S Jd J w rs A) {d:TypeId} (qa:hc rs k (.ba b d cs)) (n:Ac cs o v a) (e:(decide (o<cs.length))=true) (p:Ac rs k (.ba b d a) sc)
  (ya:hf fr dst undef Ca) (h:∀ w',Sep S Jd J w' sc A→K Ca ds w'):Zd P (Oper.mk dst (.store T x y) ty pos after g) fr ds w K Q :=
 En (vs:=[v]) f i j (ox c) rfl (by simp [c]) l qa (.s n (of_decide_eq_true e) .z) (decide_eq_true (Nat.le_of_lt (of_decide_eq_true e))) p ya h
structure gi (P:Program) (T:TypeId) (pl:Array (Nat×Nat)):Prop where
 out:∃ a,P.underlying T=some (.struct a)∧∀ w,((a.mapM fun f=>do pure (f.offset,← Go.sizeOf f.type):Sem (Array (Nat×Nat))).run P w)=.ok pl w
theorem Ki {a:Array Field} {pl:Array (Nat×Nat)} (hu:P.underlying T=some (.struct a)) (h:∀ w,((a.mapM fun f=>do pure (f.offset,← Go.sizeOf f.type):Sem (Array (Nat×Nat))).run P w)=.ok pl w):gi P T pl:=⟨a,hu,h⟩
inductive ab (fr:List Value) (pl:Array (Nat×Nat)):List Value→List (Nat×Operand)→List Value→Prop where
 | z {cs:List Value}:ab fr pl cs [] cs
 | o {cs cs1 out:List Value} {i off:Nat} {x:Operand} {v:Value} {xs:List (Nat×Operand)} (a:pl[i]?=some (off,1)) (b:wb fr x v) (e:Me v=true) (c:decide (off<cs.length)=true) (d:Ac cs off v cs1) (t:ab fr pl cs1 xs out):ab fr pl cs ((i,x)::xs) out
 | n {cs cs1 out vs:List Value} {i off n:Nat} {x:Operand} {xs:List (Nat×Operand)} (a:pl[i]?=some (off,n)) (b:wb fr x (.agg ⟨vs⟩)) (f:vs.length=n) (c:decide (off+n≤cs.length)=true) (d:kd cs off vs cs1) (t:ab fr pl cs1 xs out):ab fr pl cs ((i,x)::xs) out
theorem Ru:∀ (vs:List Value) (off j:Nat) (cs:List Value),off+j+vs.length≤cs.length →
  ((vs.zipIdx j).foldl (fun (cs:Array Value) (p:Value×Nat)=>cs.setIfInBounds (off+p.2) p.1) ⟨cs⟩)=⟨cs.take (off+j)++vs++cs.drop (off+j+vs.length)⟩
 | [],off,j,cs,_=>by simp
 | v::vs,off,j,cs,h=>by
  have a:off+j<cs.length:=by simp at h; omega
  rw [List.zipIdx_cons,List.foldl_cons]
  have hb:(⟨cs⟩:Array Value).setIfInBounds (off+j) v=⟨cs.set (off+j) v⟩:=by simp
  simp only [hb]
  rw [Ru vs off (j+1) (cs.set (off+j) v) (by simp at h ⊢; omega)]
  have b:(cs.set (off+j) v).take (off+(j+1))=cs.take (off+j)++[v]:=by
   rw [show off+(j+1)=off+j+1 by omega,List.take_set,List.take_add_one,List.getElem?_eq_getElem a]
   rw [List.set_append_right _ _ (by simp; omega)]
   simp [Nat.min_eq_left (Nat.le_of_lt a)]
  have c:(cs.set (off+j) v).drop (off+(j+1)+vs.length)=cs.drop (off+j+(v::vs).length):=by
   rw [List.drop_set_of_lt (by omega)]
   congr 1
   simp; omega
  rw [b,c]
  simp
theorem ab.run {pl:Array (Nat×Nat)} {cs out:List Value} {xs:List (Nat×Operand)} (h:ab fr pl cs xs out):Instr.fill (pl[·]?) ⟨cs⟩ (xs.map fun p=>(p.1,(F fr ds).eval p.2))=some ⟨out⟩:=by
 induction h with
 | z=>rfl
 | @o cs cs1 out i off x v xs b d g e a t f =>
  have k:=of_decide_eq_true e
  simp only [List.map_cons,Instr.fill,b,d ds,ox g]
  have hb:¬ ((#[v].size≠1 || off+#[v].size > (⟨cs⟩:Array Value).size)=true):=by simp; omega
  rw [if_neg hb]
  have sa:(#[v].zipIdx.foldl (fun cs (c,j)=>cs.setIfInBounds (off+j) c) (⟨cs⟩:Array Value))=⟨cs1⟩:=by
   unfold Ac at a
   subst a
   simp [Array.zipIdx]
  rw [sa]
  exact f
 | @n cs cs1 out vs i off n x xs b d l e a t f =>
  have k:=of_decide_eq_true e
  simp only [List.map_cons,Instr.fill,b,d ds]
  have hb:¬ (((Value.agg ⟨vs⟩).cells.size≠n || off+(Value.agg ⟨vs⟩).cells.size > (⟨cs⟩:Array Value).size)=true):=by simp [Value.cells,l]; omega
  rw [if_neg hb]
  have sa:((Value.agg ⟨vs⟩).cells.zipIdx.foldl (fun cs (c,j)=>cs.setIfInBounds (off+j) c) (⟨cs⟩:Array Value))=⟨cs1⟩:=by
   have:=Ru vs off 0 cs (by omega)
   rw [a.res (by omega)]
   simp only [Nat.add_zero] at this
   rw [← this]
   rw [← Array.foldl_toList]
   simp [Value.cells]
  rw [sa]
  exact f
theorem Nd {pl:Array (Nat×Nat)} {xs:List (Nat×Operand)} {out:List Value} (a:Lc P T Gf vd n m) (b:gi P T pl) (c:ab fr pl vd xs out) (d:hf fr dst (.agg ⟨out⟩) Ca) (h:K Ca ds w) :
  Zd P (Oper.mk dst (.build T ⟨xs⟩) ty pos after g) fr ds w K Q:=by
 refine ig (v:=.agg ⟨out⟩) (w':=w) ?_ d h
 obtain ⟨z,e,f⟩:=a.zero (w:=w)
 have j:=c.run (ds:=ds)
 obtain ⟨o,k,l⟩:=b.out
 have hm:=l w
 have qa:((⟨xs⟩:Array (Nat×Operand)).map fun (i,x)=>(i,(F fr ds).eval x)).toList=xs.map fun p=>(p.1,(F fr ds).eval p.2):=by simp
 unfold execOp
 simp only [Instr.build,Sem.run_bind,e,Result.andThen_ok,run_underlying k]
 rw [hm]
 simp only [Result.andThen_ok,f,qa]
 rw [j]
 simp
theorem vj {e:TypeId} {x:Operand} {cs:List Value} (k:P.underlying T=some (.slice e)) (j:Lc P e Gf vd n m) (c:(vd.length == n && decide (0<n) && decide (n≤1000))=true) (l:wb fr x (.agg ⟨cs⟩)) (d:cs.length=n) (o:Sep S Jd J w rs A)
  (h:∀ b w',w.heap.size≤b→Sep S Jd J w' (.ba b e cs::rs) A→Kg fr dst (.slice (some ⟨b,0,none⟩) 1 1) fun Ca=>K Ca ds w'):Zd P (Oper.mk dst (.buildSlice T 1 #[(0,x)]) ty pos after g) fr ds w K Q:=by
 obtain ⟨Ca,ya⟩:=jh fr dst (.slice (some ⟨w.heap.size,0,none⟩) 1 1)
 refine ig (v:=.slice (some ⟨w.heap.size,0,none⟩) 1 1) (w':=w.alloc (.cells ⟨cs⟩ e)) ?_ ya (h _ _ (Nat.le_refl _) (o.alloc rfl (heap_alloc_new w _)) Ca ya)
 obtain ⟨z,p,y⟩:=j.zero (w:=w)
 have q:=j.sizeOf (w:=w)
 simp only [Bool.and_eq_true,beq_iff_eq,decide_eq_true_eq] at c
 have r:¬ (1*n > 2 ^ 24):=by have:=c.2; omega
 have s:¬ (1*n=0):=by have:=c.1.2; omega
 have t:∀ a:Array Value,a.size=n→Instr.fill (fun i=>some (i*n,n)) a [(0,Value.agg ⟨cs⟩)]=some ⟨cs⟩:=by
  intro a f
  simp only [Instr.fill]
  have hb:¬ (((Value.agg ⟨cs⟩).cells.size≠n || 0*n+(Value.agg ⟨cs⟩).cells.size > a.size)=true):=by simp [Value.cells,d,f]
  rw [if_neg hb]
  congr 1
  have u:=Ru cs (0*n) 0 a.toList (by simp [d,f])
  rw [← Array.foldl_toList]
  have sa:(Value.agg ⟨cs⟩).cells.zipIdx.toList=cs.zipIdx 0:=by simp [Value.cells]
  rw [sa]
  refine u.trans ?_
  rw [List.drop_eq_nil_of_le (by simp [d,f])]
  simp
 have qa:(#[(0,x)].map fun (i,x)=>(i,(F fr ds).eval x)).toList=[(0,Value.agg ⟨cs⟩)]:=by simp [l ds]
 unfold execOp
 simp only [Instr.buildSlice,Sem.run_bind,run_underlying k,Result.andThen_ok,q,if_neg r,qa,if_neg s,Sem.run_pure,p]
 rw [t _ (by simp)]
 simp [newRow]
end
theorem Sep.te {S Jd:Nat→Prop} {J w:World} {rs sc:List Wb} {A:World→Prop} {k:Nat} {r:Wb} (h:Sep S Jd J w (rs.set k r) A) (a:Ac rs k r sc):Sep S Jd J w sc A:=by
 unfold Ac at a
 rw [← a]
 exact h
theorem Sep.drew {S Jd:Nat→Prop} {J w w':World} {rs:List Wb} {A:World→Prop} (h:Sep S Jd J w rs A) (a:w'.heap=w.heap) (b:w'.os=w.os) (c:w'.tape=w.tape) (hu:w'.output=w.output):Sep S Jd J w' rs A :=
 h.grow ⟨b,c,hu,by rw [a]; exact Nat.le_refl _,fun k _ _=>by rw [a]⟩
section
variable {P:Program} {Q:Exit→Act→World→Prop} {K:List Value→List Deferred→World→Prop} {fr Ca:List Value} {ds:List Deferred} {w:World}
variable {dst:Option Tmp} {ty:TypeId} {pos:String} {after:Array Edge} {g:Option (Nat×Bool)}
variable {T:TypeId}
theorem Ax (a b:ByteArray):(a == b)=true ↔ a=b:=by
 obtain ⟨x⟩:=a
 obtain ⟨y⟩:=b
 constructor
 ·intro h
  have e:x=y:=by simpa using (show (x == y)=true from h)
  rw [e]
 ·intro h
  cases h
  show (x == x)=true
  simp
structure zq (P:Program) (m:Nat) (T:TypeId) (v a:Value) (b:Bool):Prop where
 out:∀ d w,m≤d→(Op.equalIn d T v a).run P w=.ok b w
theorem eq_int {k c:IntKind} {a b:Int} (hu:P.underlying T=some (.int k)):zq P 1 T (.int c a) (.int c b) (decide (a=b)):=⟨fun d w ya=>by
 cases d with
 | zero=>omega
 | succ d=>simp [Op.equalIn,run_underlying hu]; by_cases h:a=b <;> simp [h]⟩
theorem AB {a b:List UInt8} (hu:P.underlying T=some .string):zq P 1 T (S a) (S b) (decide (a=b)):=⟨fun d w ya=>by
 cases d with
 | zero=>omega
 | succ d =>
  simp only [Op.equalIn,run_underlying hu,S,Sem.run_bind,Result.andThen_ok,Sem.run_pure]
  congr 1
  rw [Bool.eq_iff_iff,Ax]
  simp⟩
def Mi:List Bool→Bool
 | []=>true
 | [b]=>b
 | b::a=>b && Mi a
theorem zv (b:Bool) (a:List Bool):Mi (b::a)=(b && Mi a):=by cases a <;> simp [Mi]
inductive nh (P:Program) (m:Nat) (xs ys:List Value):List Field→List Bool→Prop where
 | z:nh P m xs ys [] []
 | o {f : Field} {a : List Field} {v e : Value} {b : Bool} {c : List Bool} {T : TypeId} {off : Nat} {vd : List Value} {n k : Nat} (g : (f.name == "_") = false) (h : f.type = T) (i : f.offset = off) (j : Lc P T false vd n k) (l : hc xs off v) (p : hc ys off e) (he : zq P m T v e b) (t : nh P m xs ys a c) : nh P m xs ys (f :: a) (b :: c)
 | n {f : Field} {a : List Field} {vs d : List Value} {b : Bool} {c : List Bool} {T : TypeId} {off : Nat} {vd : List Value} {n k : Nat} (g : (f.name == "_") = false) (h : f.type = T) (i : f.offset = off) (j : Lc P T true vd n k) (l : ve xs off vs) (p : ve ys off d) (qa : vs.length = n) (q : d.length = n) (he : zq P m T (.agg ⟨vs⟩) (.agg ⟨d⟩) b) (t : nh P m xs ys a c) : nh P m xs ys (f :: a) (b :: c)
structure dn (P:Program) (T:TypeId) (a:List Field):Prop where
 Gy:P.underlying T=some (.struct ⟨a⟩)
 held:P.stoodInHeld T=false
 guard:P.eqGuardType P.depth T=false
theorem eA {vd:List Value} {n k off:Nat} {xs:List Value} {v:Value} (b:Lc P T false vd n k) (a:hc xs off v):(part T ⟨xs⟩ off).run P w=.ok v w:=by
 unfold hc at a
 simp [part,b.isAgg,a]
theorem ve.extract {cs vs:List Value} {o:Nat} (h:ve cs o vs):(cs.drop o).take vs.length=vs:=by
 induction h with
 | z=>simp
 | @s o v vs a t b =>
  unfold hc at a
  have c:o<cs.length:=(List.getElem?_eq_some_iff.1 a).1
  rw [List.drop_eq_getElem_cons c,(List.getElem?_eq_some_iff.1 a).2]
  simp [b]
theorem fA {vd:List Value} {n k off:Nat} {xs vs:List Value} (a:Lc P T true vd n k) (b:ve xs off vs) (c:vs.length=n):(part T ⟨xs⟩ off).run P w=.ok (.agg ⟨vs⟩) w:=by
 have:=b.extract
 rw [c] at this
 simp [part,a.isAgg,a.sizeOf,this]
theorem nh.run {m:Nat} {xs ys:List Value} {e:List Field} {g:List Bool} (h:nh P m xs ys e g) (d:Nat) (ya:m≤d) :
  (forIn (⟨e⟩ : Array Field) ((none, ()) : Option Bool × Unit) (fun f _ => (if f.name ≠ "_" then do
     if !(← Op.equalIn d f.type (← part f.type ⟨xs⟩ f.offset) (← part f.type ⟨ys⟩ f.offset)) then pure (ForInStep.done (some false,())) else pure (ForInStep.yield (none,()))
    else pure (ForInStep.yield (none,())):Sem (ForInStep (Option Bool×Unit))))).run P w=.ok (if Mi g then (none,()) else (some false,())) w:=by
 induction h with
 | z=>simp [Mi]
 | @o f e v u b g T off vd n k i j l a p q he t c =>
  subst j; subst l
  have r : f.name ≠ "_" := by simpa using i
  simp only [List.forIn_toArray] at c ⊢
  rw [List.forIn_cons]
  simp only [ne_eq,r,not_false_eq_true,if_true,Sem.run_bind,eA a p,eA a q,Result.andThen_ok,he.out d w ya]
  cases b with
  | true=>simpa [zv] using c
  | false=>simp [zv]
 | @n f e vs x b g T off vd n k i j l a p q qa s he t c =>
  subst j; subst l
  have r : f.name ≠ "_" := by simpa using i
  simp only [List.forIn_toArray] at c ⊢
  rw [List.forIn_cons]
  simp only [ne_eq,r,not_false_eq_true,if_true,Sem.run_bind,fA a p qa,fA a q s,Result.andThen_ok,he.out d w ya]
  cases b with
  | true=>simpa [zv] using c
  | false=>simp [zv]
theorem BB {m:Nat} {xs ys:List Value} {b:List Field} {a:List Bool} (c:dn P T b) (h:nh P m xs ys b a):zq P (m+1) T (.agg ⟨xs⟩) (.agg ⟨ys⟩) (Mi a):=⟨fun d w ya=>by
 cases d with
 | zero=>omega
 | succ d =>
  have:=h.run (w:=w) d (by omega)
  simp only [Op.equalIn,Sem.run_bind,run_underlying c.Gy,Result.andThen_ok]
  rw [show (program).run P w=.ok P w from rfl]
  simp only [Result.andThen_ok,c.held,Bool.false_eq_true,if_false,Sem.run_bind]
  rw [this]
  cases Mi a <;> rfl⟩
def lC (v:Value) (n:Nat):Prop:=∃ a c,v=.slice a n c
theorem wj {x:Operand} {t e:TypeId} {v:Value} {n:Nat} (b:P.underlying t=some (.slice e)) (d:wb fr x v) (f:lC v n):uf P (Oper.mk dst (.call { callee:=.builtin .len,args:=#[x],argTypes:=#[t] }) ty pos after g) fr ((.int .i64 n)):=by
 obtain ⟨a,c,rfl⟩:=f
 exact Qd b d
theorem Row.yj {v:Value} {sz n:Nat} {xs:List Value} (h:Row w v T sz n xs):lC v n:=by
 rcases h.2 with ⟨rfl,rfl⟩ | ⟨g,o,cap,cur,rfl,-⟩
 ·exact ⟨_,_,rfl⟩
 ·exact ⟨_,_,rfl⟩
theorem Row.Zt {v:Value} {sz n:Nat} {xs:List Value} (h:Row w v T sz n xs) (f:0<n):∃ b o c,v=.slice (some ⟨b,o,none⟩) n c∧gj w b o xs:=by
 rcases h.2 with ⟨rfl,rfl⟩ | ⟨g,o,cap,cur,rfl,d,i,k,l,e⟩
 ·omega
 ·refine ⟨g,o,cap,rfl,fun j u a=>?_⟩
  rw [cell_of_row w g (o+j) cur T (0,0) d]
  rw [← e,List.getElem?_take] at a
  split at a
  ·rw [List.getElem?_drop] at a; simpa using a
  ·cases a
end
section
variable {P:Program} {Q:Exit→Act→World→Prop} {K:List Value→List Deferred→World→Prop} {fr Ca:List Value} {ds:List Deferred} {w:World}
variable {dst:Option Tmp} {ty:TypeId} {pos:String} {after:Array Edge} {g:Option (Nat×Bool)}
variable {T:TypeId}
theorem gA {a:List Field} {op:BinOp} {x y:Operand} {xs ys:Array Value} (b:dn P T a):(eqGuard op T x y (.agg xs) (.agg ys)).run P w=.ok () w:=by
 have c:(program).run P w=.ok P w:=rfl
 cases op <;> simp [eqGuard,c,b.guard]
theorem LH {x y:Operand} {ld:TypeId} {m:Nat} {xs ys:List Value} {a:List Field} {b:List Bool} (c:dn P T a) (d:wb fr x (.agg ⟨xs⟩)) (e:wb fr y (.agg ⟨ys⟩)) (h:nh P m xs ys a b) (hm:(decide (m<1000))=true) :
  uf P (Oper.mk dst (.binOp .eql T x y ld) ty pos after g) fr (.bool (Mi b)):=⟨fun ds w=>by
 have f:=d ds
 have i:=e ds
 have j:=(BB c h).out Op.maxDepth w (by have:=of_decide_eq_true hm; unfold Op.maxDepth; omega)
 have k:=gA (w:=w) (op:=.eql) (x:=x) (y:=y) (xs:=⟨xs⟩) (ys:=⟨ys⟩) c
 simp [execOp,f,i,k,binOp,Op.equal,j]⟩
theorem sw {x y:Operand} {ld:TypeId} {m:Nat} {xs ys:List Value} {a:List Field} {b:List Bool} (c:dn P T a) (d:wb fr x (.agg ⟨xs⟩)) (e:wb fr y (.agg ⟨ys⟩)) (h:nh P m xs ys a b) (hm:(decide (m<1000))=true) :
  uf P (Oper.mk dst (.binOp .neq T x y ld) ty pos after g) fr (.bool (!Mi b)):=⟨fun ds w=>by
 have f:=d ds
 have i:=e ds
 have j:=(BB c h).out Op.maxDepth w (by have:=of_decide_eq_true hm; unfold Op.maxDepth; omega)
 have k:=gA (w:=w) (op:=.neq) (x:=x) (y:=y) (xs:=⟨xs⟩) (ys:=⟨ys⟩) c
 simp [execOp,f,i,k,binOp,Op.equal,j]⟩
theorem MH {x y:Operand} {ld:TypeId} {m:Nat} {xs ys:List Value} {a:List Field} {b:List Bool} (c:dn P T a) (d:wb fr x (.agg ⟨xs⟩)) (e:wb fr y (.agg ⟨ys⟩)) (he:nh P m xs ys a b) (hm:(decide (m<1000))=true)
  (f:hf fr dst (.bool (Mi b)) Ca) (h:K Ca ds w):Zd P (Oper.mk dst (.binOp .eql T x y ld) ty pos after g) fr ds w K Q:=Ja (LH c d e he hm) f h
theorem NH {x y:Operand} {ld:TypeId} {m:Nat} {xs ys:List Value} {a:List Field} {b:List Bool} (c:dn P T a) (d:wb fr x (.agg ⟨xs⟩)) (e:wb fr y (.agg ⟨ys⟩)) (he:nh P m xs ys a b) (hm:(decide (m<1000))=true)
  (f:hf fr dst (.bool (!Mi b)) Ca) (h:K Ca ds w):Zd P (Oper.mk dst (.binOp .neq T x y ld) ty pos after g) fr ds w K Q:=Ja (sw c d e he hm) f h
end
section
variable {P:Program} {Q:Exit→Act→World→Prop} {K:List Value→List Deferred→World→Prop} {fr Ca:List Value} {ds:List Deferred} {w:World}
variable {dst:Option Tmp} {ty:TypeId} {pos:String} {after:Array Edge} {g:Option (Nat×Bool)}
variable {S Jd:Nat→Prop} {J:World} {rs sc:List Wb} {A:World→Prop}
variable {T:TypeId}
end
end Go.bc
namespace Go.bc
open Go.RowKit
theorem bt {α β:Type} {f g:α→β} {xs:Array α} (h:∀ x ∈ xs,f x=g x):xs.map f=xs.map g:=Array.map_congr_left h
def kq:Op→Bool
 | .select _ _=>false
 | _=>true
theorem execOp_congr {f g:Operand→Value} (o:Oper) (q:kq o.op=true) (h:∀ x ∈ o.op.operands,f x=g x):execOp f o=execOp g o:=by
 obtain ⟨dst,op,ty,pos,after,z⟩:=o
 have d:∀ c:Call,(∀ x ∈ c.operands,f x=g x)→resolve f c ty=resolve g c ty:=by
  intro c d
  have s:c.args.map f=c.args.map g:=bt fun x e=>d x (by simp [Call.operands,e])
  unfold resolve
  rw [s]
  obtain ⟨callee,args,tys⟩:=c
  cases callee with
  | value x=>simp only; rw [d x (by simp [Call.operands])]
  | invoke x m=>simp only; rw [d x (by simp [Call.operands])]
  | builtin b=>rfl
 cases op <;> simp only [Op.operands,List.mem_toArray,List.mem_cons,List.not_mem_nil,or_false,forall_eq_or_imp,forall_eq,Array.mem_append,List.mem_map] at h <;> simp only [execOp]
 case build t cg =>
  have:(cg.map fun (i,x)=>(i,f x))=cg.map fun (i,x)=>(i,g x):=bt fun p j=>by simp only; rw [h p.2 ⟨p,by simpa using j,rfl⟩]
  rw [this]
 case buildSlice t n cg =>
  have:(cg.map fun (i,x)=>(i,f x))=cg.map fun (i,x)=>(i,g x):=bt fun p j=>by simp only; rw [h p.2 ⟨p,by simpa using j,rfl⟩]
  rw [this]
 case makeFunc fn a b =>
  rw [bt (f:=f) (g:=g) (xs:=a) fun x e=>h x (.inl e),bt (f:=f) (g:=g) (xs:=b) fun x e=>h x (.inr e)]
 case makeMap t r=>cases r with
  | none=>rfl
  | some x=>simp only [Option.map]; rw [h x (by simp)]
 case slice t x Cj k l =>
  have e:=h x (by simp)
  have u:Cj.map f=Cj.map g:=by cases Cj with
   | none=>rfl
   | some y=>simp only [Option.map]; rw [h y (by simp)]
  have v:k.map f=k.map g:=by cases k with
   | none=>rfl
   | some y=>simp only [Option.map]; rw [h y (by simp)]
  have w:l.map f=l.map g:=by cases l with
   | none=>rfl
   | some y=>simp only [Option.map]; rw [h y (by simp)]
  rw [e,u,v,w]
 case call c=>rw [d c h]
 case go c=>rw [d c h]
 case defer c=>rw [d c h]
 case select cs b=>exact absurd q (by simp [kq])
 all_goals (try (simp only [h]))
def Pl (ops:Array Oper) (i:Nat):List Nat:=match ops[i]? with
 | some o=>(o.after.toList.filter (Region.binds .any)).map (·.on)
 | none=>[]
def enabled (ops:Array Oper) (R:List Nat) (i:Nat):Bool:=R.contains i && (Pl ops i).all fun j=>!R.contains j
inductive Jl (ops:Array Oper):List Nat→List Nat→Prop where
 | z:Jl ops [] []
 | s {R a:List Nat} {i:Nat} (h:enabled ops R i=true) (t:Jl ops (R.erase i) a):Jl ops R (i::a)
theorem Yq {ops:Array Oper} {R:List Nat} {i:Nat} (h:enabled ops R i=true):i ∈ R:=by
 simp only [enabled,Bool.and_eq_true,List.contains_iff_mem] at h
 exact h.1
theorem fz {ops:Array Oper} {R:List Nat} {i j:Nat} (h:enabled ops R i=true) (a:j ∈ Pl ops i):j ∉ R:=by
 simp only [enabled,Bool.and_eq_true,List.all_eq_true] at h
 have:=h.2 j a
 simpa using this
def left (n:Nat) (listed:Array Bool):List Nat:=(List.range n).filter fun i=>!listed.getD i true
theorem GD (n:Nat) (listed:Array Bool):(left n listed).Nodup:=List.nodup_range.filter _
theorem vA {n:Nat} {listed:Array Bool} (c:listed.size=n) {i:Nat} (d:i ∈ left n listed):left n (listed.setIfInBounds i true)=(left n listed).erase i:=by
 rw [(GD n listed).erase_eq_filter]
 unfold left
 rw [List.filter_filter]
 apply List.filter_congr
 intro j a
 have f:j<n:=List.mem_range.1 a
 have b:j<listed.size:=by omega
 simp only [Array.getD_eq_getD_getElem?,Array.getElem?_setIfInBounds]
 by_cases e:i=j
 ·subst e
  simp [b]
 ·simp [e,Ne.symm e]
theorem CB {ops:Array Oper} {n:Nat} (a:(List.range n).all (fun i=>(Pl ops i).all fun j=>decide (j<i))=true) {i j:Nat} (b:i<n) (c:j ∈ Pl ops i):j<i:=by
 simp only [List.all_eq_true,List.mem_range,decide_eq_true_eq] at a
 exact a i b j c
theorem DB {ops:Array Oper} (q:(List.range ops.size).all (fun i=>(Pl ops i).all fun j=>decide (j<i))=true) :
  ∀ (fuel t:Nat) (listed:Array Bool) (acc:List Nat),listed.size=ops.size→(left ops.size listed).length≤fuel→∃ n,Region.linearise.go .any ops fuel t listed acc=acc.reverse++n∧Jl ops (left ops.size listed) n
 | 0,t,listed,acc,o,w=>by
  have f:left ops.size listed=[]:=List.eq_nil_of_length_eq_zero (by omega)
  exact ⟨[],by simp [Region.linearise.go],by rw [f]; exact .z⟩
 | fuel+1,t,listed,acc,o,w=>by
  rw [Region.linearise.go]
  generalize y:(List.filter (fun i=>!listed.getD i true && (Option.map (fun x=>x.after.all fun e=>!Region.binds .any e || listed.getD e.on false) ops[i]?).getD false) (List.range ops.size))=rs
  have r:∀ i,i ∈ rs ↔ enabled ops (left ops.size listed) i=true:=by
   intro i
   rw [← y]
   simp only [List.mem_filter,List.mem_range,Bool.and_eq_true,enabled,List.contains_iff_mem,left,Pl]
   constructor
   ·rintro ⟨b,g,d⟩
    refine ⟨⟨b,g⟩,?_⟩
    rw [Array.getElem?_eq_getElem b] at d ⊢
    simp only [Option.map_some,Option.getD_some,Array.all_eq_true',Bool.or_eq_true,Bool.not_eq_true'] at d
    simp only [List.all_eq_true,List.mem_map,List.mem_filter,forall_exists_index,and_imp]
    rintro j e he k rfl
    have:=d e (by simpa using he)
    rcases this with h | h
    ·rw [h] at k; cases k
    ·simp only [Bool.not_eq_true',List.contains_eq_mem,decide_eq_false_iff_not,List.mem_filter,List.mem_range,not_and,Bool.not_eq_true,Bool.not_eq_false]
     intro p
     have u:e.on<listed.size:=by omega
     simp only [Array.getD,u,dif_pos] at h ⊢
     exact h
   ·rintro ⟨⟨b,g⟩,d⟩
    refine ⟨b,g,?_⟩
    rw [Array.getElem?_eq_getElem b] at d ⊢
    simp only [Option.map_some,Option.getD_some,Array.all_eq_true',Bool.or_eq_true,Bool.not_eq_true']
    simp only [List.all_eq_true,List.mem_map,List.mem_filter,forall_exists_index,and_imp] at d
    intro e he
    cases k:Region.binds .any e with
    | false=>exact .inl rfl
    | true =>
     right
     have:=d e.on e (by simpa using he) k rfl
     simp only [Bool.not_eq_true',List.contains_eq_mem,decide_eq_false_iff_not,List.mem_filter,List.mem_range,not_and,Bool.not_eq_true,Bool.not_eq_false] at this
     have p:e.on<i:=CB q b (by
      unfold Pl
      rw [Array.getElem?_eq_getElem b]
      simp only [List.mem_map,List.mem_filter]
      exact ⟨e,⟨by simpa using he,k⟩,rfl⟩)
     have v:=this (by omega)
     have u:e.on<listed.size:=by omega
     simp only [Array.getD,u,dif_pos] at v ⊢
     exact v
  by_cases f:left ops.size listed=[]
  ·have A:rs=[]:=by
    rw [List.eq_nil_iff_forall_not_mem]
    intro i c
    have:=Yq ((r i).1 c)
    rw [f] at this
    cases this
   rw [A]
   simp only [List.length_nil,Nat.mod_zero,List.getElem?_nil]
   exact ⟨[],by simp,by rw [f]; exact .z⟩
  ·-- the least of what is left may be next
   have B:0<rs.length:=by
    obtain ⟨i,c,C⟩:∃ i,i ∈ left ops.size listed∧∀ j,j<i→j ∉ left ops.size listed:=by
     obtain ⟨a,D⟩:=List.exists_mem_of_ne_nil _ f
     induction a using Nat.strongRecOn with
     | _ a E =>
      by_cases hex:∃ j,j<a∧j ∈ left ops.size listed
      ·obtain ⟨j,l,F⟩:=hex
       exact E j l F
      ·exact ⟨a,D,fun j l hm=>hex ⟨j,l,hm⟩⟩
    have m:enabled ops (left ops.size listed) i=true:=by
     simp only [enabled,Bool.and_eq_true,List.contains_iff_mem,List.all_eq_true]
     refine ⟨c,fun j l=>?_⟩
     have:=C j (CB q (List.mem_range.1 (List.mem_filter.1 c).1) l)
     simpa using this
    exact List.length_pos_of_mem ((r i).2 m)
   have p:t % rs.length<rs.length:=Nat.mod_lt _ B
   rw [List.getElem?_eq_getElem p]
   simp only
   have m:=(r _).1 (List.getElem_mem p)
   generalize rs[t % rs.length]=i at m ⊢
   have c:=Yq m
   obtain ⟨n,b,g⟩:=DB q fuel (t / rs.length) (listed.setIfInBounds i true) (i::acc) (by simpa using o) (by
    rw [vA o c,List.length_erase_of_mem c]
    omega)
   refine ⟨i::n,?_,.s m ?_⟩
   ·rw [b]; simp
   ·rw [← vA o c]; exact g
theorem HC {ops:Array Oper} (b:(List.range ops.size).all (fun i=>(Pl ops i).all fun j=>decide (j<i))=true) (t:Nat):Jl ops (List.range ops.size) (Region.linearise .any ops t):=by
 have qa:left ops.size (Array.replicate ops.size false)=List.range ops.size:=by
  unfold left
  rw [List.filter_eq_self]
  intro i c
  have:=List.mem_range.1 c
  simp [Array.getD,this]
 obtain ⟨e,d,a⟩:=DB b ops.size t (Array.replicate ops.size false) [] (by simp) (by rw [qa]; simp)
 unfold Region.linearise
 rw [d]
 rw [qa] at a
 simpa using a
def hq:Operand→Option Nat
 | .tmp t=>some t
 | _=>none
def reads (ops:Array Oper) (o:Oper):List Nat :=
 o.op.operands.toList.filterMap hq++(match o.guard with
  | some (j,_)=>((ops[j]?).bind (·.dst)).toList
  | none=>[])
section
variable {P:Program} {α β:Type}
end
section
variable {P:Program} {Q:Exit→Act→World→Prop} {ops:Array Oper} {fr Ca:List Value} {ds:List Deferred} {w:World}
theorem wA {fr:List Value} {ds ds':List Deferred} {d:Nat} {v:Value} {x:Operand} (h:hq x≠some d):(F (fr.set d v) ds).eval x=(F fr ds').eval x:=by
 cases x with
 | tmp t =>
  have:d≠t:=fun e=>h (by simp [hq,e])
  simp [F,Act.eval,List.getElem?_set_ne this]
 | const v=>rfl
 | global g=>rfl
 | func f=>rfl
theorem xA {o:Oper} {d:Nat} (h:(reads ops o).contains d=false):∀ x ∈ o.op.operands,hq x≠some d:=by
 intro x a e
 have:d ∈ reads ops o:=by
  unfold reads
  exact List.mem_append.2 (.inl (List.mem_filterMap.2 ⟨x,by simpa using a,e⟩))
 rw [List.contains_iff_mem.2 this] at h
 cases h
theorem yA {o:Oper} {d:Nat} {v:Value} {ds':List Deferred} (a:kq o.op=true) (h:(reads ops o).contains d=false):execOp (F (fr.set d v) ds).eval o=execOp (F fr ds').eval o :=
 execOp_congr o a fun x b=>wA (xA h x b)
theorem HD {o:Oper} {d:Nat} {v:Value} {ds':List Deferred} (h:(reads ops o).contains d=false):Region.wanted o (yielded ops (F (fr.set d v) ds).tmps)=Region.wanted o (yielded ops (F fr ds').tmps):=by
 unfold Region.wanted
 cases a:o.guard with
 | none=>rfl
 | some c =>
  obtain ⟨j,b⟩:=c
  simp only
  congr 1
  unfold yielded
  cases f:(ops[j]?).bind (·.dst) with
  | none=>rfl
  | some e =>
   have g:d≠e:=by
    intro he
    have:d ∈ reads ops o:=by
     unfold reads
     rw [a]
     exact List.mem_append.2 (.inr (by simp only; rw [f]; simp [he]))
    rw [List.contains_iff_mem.2 this] at h
    cases h
   simp [F,List.getElem?_set_ne g]
theorem put_eq (fr:List Value) (ds:List Deferred) (dst:Option Tmp) (x:Value):∃ g:List Value→List Value,(∀ fr ds,(F fr ds).put dst x=F (g fr) ds)∧(∀ (fr:List Value) (d:Nat) (v:Value),dst≠some d→g (fr.set d v)=(g fr).set d v)∧(∀ (fr:List Value) (y:Operand) (ds ds':List Deferred),(∀ e,dst=some e→hq y≠some e)→(F (g fr) ds).eval y=(F fr ds').eval y):=by
 cases dst with
 | none=>exact ⟨id,fun _ _=>rfl,fun _ _ _ _=>rfl,fun fr y ds ds' _=>by cases y <;> rfl⟩
 | some n =>
  refine ⟨fun fr=>fr.set n x,fun fr ds=>ma rfl ds,fun fr d v h=>?_,fun fr y ds ds' h=>wA (h n rfl)⟩
  have:d≠n:=fun e=>h (by rw [e])
  exact List.set_comm _ _ this
def fl (Q:Exit→Act→World→Prop):Prop:=∀ b a c w,a.defers=c.defers→Q (.panic b) a w→Q (.panic b) c w
structure Oy (P:Program) (ops:Array Oper) (Q:Exit→Act→World→Prop) (R:List Nat) (fr:List Value) (ds:List Deferred) (w:World):Prop where
 out:∀ a,Jl ops R a→wpOps P ops Q a (F fr ds) w
theorem aC {id:Nat} {l:List Oper} (hm:P.follows .mixedOrders=true) (a:(List.range l.toArray.size).all (fun i=>(Pl l.toArray i).all fun j=>decide (j<i))=true)
  (h:∀ w',w'.heap=w.heap→w'.os=w.os→w'.tape=w.tape→w'.output=w.output→Oy P l.toArray Q (List.range l.length) fr ds w'):He P (.region id l.toArray true) Q fr ds w:=by
 constructor
 refine wp_region_draw fun t=>?_
 have b:Region.schedule (P.follows .mixedOrders) l.toArray t=Region.linearise .any l.toArray t:=by
  unfold Region.schedule
  rw [hm]
  rfl
 rw [b]
 have qa:=HC a t
 have:=(h { w with drawn:=w.drawn+1 } rfl rfl rfl rfl).out _ (by simpa using qa)
 exact this
def oy (ops:Array Oper) (R:List Nat):List Nat:=R.filter (enabled ops R)
theorem Jl.split {R l:List Nat} (h:Jl ops R l) (n:R.Nodup) {i:Nat} (o:i ∈ R) (p:enabled ops R i=true) :
  ∃ f m,l=f++i::m∧Jl ops (R.erase i) (f++m)∧∀ j ∈ f,j ∈ R∧j≠i∧i ∉ Pl ops j:=by
 induction h with
 | z=>cases o
 | @s R l k g t r =>
  by_cases e:k=i
  ·subst e
   exact ⟨[],l,rfl,t,by simp⟩
  ·have q:i ∈ R.erase k:=(n.mem_erase_iff).2 ⟨fun h=>e h.symm,o⟩
   have u:enabled ops (R.erase k) i=true:=by
    simp only [enabled,Bool.and_eq_true,List.contains_iff_mem,List.all_eq_true] at p ⊢
    refine ⟨q,fun j d=>?_⟩
    have:=p.2 j d
    simp only [Bool.not_eq_true',List.contains_eq_mem,decide_eq_false_iff_not] at this ⊢
    exact fun hm=>this (List.mem_of_mem_erase hm)
   obtain ⟨f,m,v,w,x⟩:=r (n.erase k) q u
   refine ⟨k::f,m,by rw [v]; rfl,?_,?_⟩
   ·refine .s ?_ (by rw [List.erase_comm]; exact w)
    simp only [enabled,Bool.and_eq_true,List.contains_iff_mem,List.all_eq_true] at g ⊢
    refine ⟨(n.mem_erase_iff).2 ⟨e,g.1⟩,fun j d=>?_⟩
    have:=g.2 j d
    simp only [Bool.not_eq_true',List.contains_eq_mem,decide_eq_false_iff_not] at this ⊢
    exact fun hm=>this (List.mem_of_mem_erase hm)
   ·intro j d
    rcases List.mem_cons.1 d with rfl | d
    ·exact ⟨Yq g,e,fun ya=>fz g ya o⟩
    ·obtain ⟨a,b,c⟩:=x j d
     exact ⟨List.mem_of_mem_erase a,b,c⟩
theorem mh (h:∀ b a w,Q (.panic b) a w→False):fl Q:=fun b a _ w _ c=>(h b a w c).elim
end
end Go.bc
